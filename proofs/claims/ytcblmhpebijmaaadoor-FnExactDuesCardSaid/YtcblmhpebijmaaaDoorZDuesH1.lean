/- Parts of the proof: what functions of the program and of the reference answer.
   No condition. -/
import Derived.Test.YtcblmhpebijmaaaDoorZDuesV1
import Derived.ChangeArms
import Derived.DataElems
import Derived.DataReads
import Derived.WideShapes
namespace Go.Proofs.YtcblmhpebijmaaaDoor.HOpen
open Go.Proofs.YtcblmhpebijmaaaDoorW.PrintWords
def Opens (P:Program) (t:TypeId) {α:Type} (d:Kd α) (Wf:α→Prop):Prop :=
 P.cellsOf t=d.sz∧∀ (H:Type) (enc:TypeId × Value→H) (w:World) (sp:Nat→Bool) (held:Bool) (fuel:Nat) (cs:List Value) (x:DataW H × List MemPlace),
  DataW.trod enc P w 0 sp held fuel t cs=some x→∃ a,Wf a∧d.K w a cs
theorem opens_int {P:Program} {t:TypeId} {k:IntKind} (hu:P.underlying t=some (.int k)) (hc:P.cellsOf t=1):Opens P t (Kd.int k) (fun a=>(Lit.int k a).wf=true) :=
 ⟨hc,fun _ _ _ _ _ _ _ _ h=>by
  obtain ⟨n,rfl,_,hw⟩:=DataW.trod_int hu h
  exact ⟨n,hw,rfl⟩⟩
theorem opens_bool {P:Program} {t:TypeId} (hu:P.underlying t=some .bool) (hc:P.cellsOf t=1):Opens P t Kd.bool (fun _=>True) :=
 ⟨hc,fun _ _ _ _ _ _ _ _ h=>by
  obtain ⟨n,rfl,_⟩:=DataW.trod_bool hu h
  exact ⟨n,trivial,rfl⟩⟩
theorem list_of_each {α:Type} (p:Nat→α→Prop):∀ n:Nat,(∀ i,i < n→∃ a,p i a)→∃ l:List α,l.length=n∧∀ j a,l[j]?=some a→p j a
 | 0,_=>⟨[],rfl,fun j a h=>by simp at h⟩
 | n+1,h=>by
  obtain ⟨l,hl,hp⟩:=list_of_each p n (fun i hi=>h i (by omega));obtain ⟨a,ha⟩:=h n (by omega);refine ⟨l++[a],by simp [hl],fun j b hb=>?_⟩;rcases Nat.lt_or_ge j l.length with hj | hj
  ·rw [List.getElem?_append_left hj] at hb;exact hp j b hb
  ·have hj':j=l.length:=by
    have:=(List.getElem?_eq_some_iff.1 hb).1;simp at this
    omega
   subst hj';simp at hb
   subst hb;rw [hl];exact ha
theorem opens_slice {P:Program} {t e:TypeId} {α:Type} {d:Kd α} {Wf:α→Prop} (e':Nat) (hu:P.underlying t=some (.slice e)) (hc:P.cellsOf t=1) (hd:Opens P e d Wf) :
 Opens P t (Kd.slice e' d) (fun l=>l.length≤maxLen∧∀ a∈l,Wf a):=by
 refine ⟨hc,fun H enc w sp held fuel cs x h=>?_⟩;obtain ⟨hsz,hd⟩:=hd;rcases DataW.trod_slice hu h with ⟨rfl,_⟩ | ⟨ad,len,cap,elems,rest,n,_,rfl,_,_,hl,hm,hlen,hel,_,_⟩
 ·exact ⟨[],⟨by simp,by simp⟩,none,0,rfl,by simp,rfl,by simp,fun h=>absurd h (by simp)⟩
 ·have each:∀ i,i < len→∃ a:α,Wf a∧∃ c,c.length=d.sz∧d.K w a c∧∀ j u,c[j]?=some u→w.cell? (ad.add (i * d.sz+j))=some u:=by
   intro i hi;have h1:=hel i hi;rw [List.getElem?_eq_getElem (by omega)] at h1;obtain ⟨c,hcs,hy⟩:=Option.bind_eq_some_iff.1 h1;obtain ⟨a,hw,hk⟩:=hd H enc w sp held n c _ hy;obtain ⟨_,hcl,hcell⟩:=World.cells?_some hcs;refine ⟨a,hw,c,by rw [hcl,hsz],hk,fun j u hu=>?_⟩;have hj:j < c.length:=(List.getElem?_eq_some_iff.1 hu).1;have:=hcell j (by omega);rw [hu,Addr.add_add,hsz] at this;exact this
  obtain ⟨l,hll,hp⟩:=list_of_each _ len each;refine ⟨l,⟨by omega,fun a ha=>?_⟩,some ad,cap,by rw [hll],by omega,rfl,?_,fun _=>⟨ad,rfl,fun j p hj=>(hp j p hj).2⟩⟩
  ·obtain ⟨j,hj⟩:=List.getElem?_of_mem ha;exact (hp j a hj).1
  ·rw [hll];unfold maxLen at hm;omega
def OpensFields (P:Program) (fs:List Field) (off:Nat) {α:Type} (d:Kd α) (Wf:α→Prop):Prop :=
 ∀ (H:Type) (enc:TypeId × Value→H) (w:World) (sp:Nat→Bool) (held:Bool) (n:Nat) (cs:List Value),cs.length=off+d.sz →
  (∀ f∈fs,∃ y:DataW H × List MemPlace,DataW.trod enc P w 0 sp held n f.type ((cs.drop f.offset).take (P.cellsOf f.type))=some y)→∃ a,Wf a∧d.K w a (cs.drop off)
theorem fields_one {P:Program} {f:Field} {off:Nat} {α:Type} {d:Kd α} {Wf:α→Prop} (ho:f.offset=off) (hd:Opens P f.type d Wf):OpensFields P [f] off d Wf:=by
 intro H enc w sp held n cs hl hf;obtain ⟨y,hy⟩:=hf f (by simp);rw [ho,List.take_of_length_le (by rw [List.length_drop,hl,hd.1];omega)] at hy;exact hd.2 H enc w sp held n _ _ hy
theorem fields_cons {P:Program} {f:Field} {fs:List Field} {off:Nat} {α β:Type} {d:Kd α} {d2:Kd β} {Wf:α→Prop} {Wf2:β→Prop} (ho:f.offset=off) (hd:Opens P f.type d Wf) (h2:OpensFields P fs (off+d.sz) d2 Wf2) :
 OpensFields P (f :: fs) off (Kd.pair d d2) (fun x=>Wf x.1∧Wf2 x.2):=by
 intro H enc w sp held n cs hl hf;have hl':cs.length=off+(d.sz+d2.sz):=hl;obtain ⟨y,hy⟩:=hf f (by simp);rw [ho] at hy;obtain ⟨a,ha,hk⟩:=hd.2 H enc w sp held n _ _ hy;obtain ⟨b,hb,hk2⟩:=h2 H enc w sp held n cs (by omega) (fun g hg=>hf g (by simp [hg]));refine ⟨(a,b),⟨ha,hb⟩,_,_,?_,hk,hk2⟩;rw [hd.1,show off+d.sz=off+d.sz from rfl,← List.drop_drop,List.take_append_drop]
theorem opens_struct {P:Program} {t:TypeId} {fs:Array Field} {α β:Type} {d:Kd α} {Wf:α→Prop} (f:β→α) (g:α→β) (hfg:∀ a,f (g a)=a) (hu:P.underlying t=some (.struct fs)) (hc:P.cellsOf t=d.sz)
 (hd:OpensFields P fs.toList 0 d Wf):Opens P t (Kd.iso d f) (fun x=>Wf (f x)):=by
 refine ⟨hc,fun H enc w sp held fuel cs x h=>?_⟩;obtain ⟨xs,n,_,_,hl,hxs,hf⟩:=DataW.trod_struct hu h
 obtain ⟨a,ha,hk⟩:=hd H enc w sp held n cs (by rw [hl,hc];omega) (fun q hq=>by
  obtain ⟨i,hi⟩:=List.getElem?_of_mem hq;have h1:=hf i q (by simpa using hi)
  have h2:i < fs.size:=by
   have:=(List.getElem?_eq_some_iff.1 hi).1
   simpa using this
  rw [List.getElem?_eq_getElem (by omega)] at h1
  exact ⟨_,h1⟩)
 refine ⟨g a,by show Wf (f (g a));rw [hfg];exact ha,?_⟩;show d.K w (f (g a)) cs;rw [hfg]
 simpa using hk
theorem opened_struct {P:Program} {t:TypeId} {fs:Array Field} {α:Type} {d:Kd α} {Wf:α→Prop} {H:Type} {enc:TypeId × Value→H} {w:World} {sp:Nat→Bool} {held:Bool} {r:Reach} {v:Value} {D:DataW H} {ps:List MemPlace}
 (hu:P.underlying t=some (.struct fs)) (ho:Opens P t d Wf) (hv:Value.okWide P w r 0 t v) (h:DataW.Trod enc P w 0 sp held t v D ps):∃ a cs,v = .agg cs∧Wf a∧d.K w a cs.toList:=by
 obtain ⟨cs,rfl,_⟩:=Go.WideShapes.okWide_struct hu hv;obtain ⟨fuel,hf⟩:=h;obtain ⟨a,ha,hk⟩:=ho.2 H enc w sp held fuel _ _ hf;exact ⟨a,cs,rfl,ha,hk⟩
theorem opened_slice {P:Program} {t e:TypeId} {α:Type} {d:Kd α} {Wf:α→Prop} {H:Type} {enc:TypeId × Value→H} {w:World} {sp:Nat→Bool} {held:Bool} {r:Reach} {v:Value} {D:DataW H} {ps:List MemPlace}
 (hu:P.underlying t=some (.slice e)) (hc:P.cellsOf t=1) (ho:Opens P e d Wf) (hv:Value.okWide P w r 0 t v) (h:DataW.Trod enc P w 0 sp held t v D ps) :
 ∃ (l:List α) (A:Option Addr) (c:Nat),v = .slice A l.length c∧l.length≤c∧Kd.C d w A l.length l∧l.length≤maxLen∧∀ a∈l,Wf a:=by
 obtain ⟨a,len,cap,rfl⟩:=Go.WideShapes.okWide_slice hu hv;obtain ⟨fuel,hf⟩:=h;obtain ⟨l,hw,A,c,he,hl,hC⟩:=(opens_slice 0 hu hc ho).2 H enc w sp held fuel _ _ hf;simp [Value.cells] at he
 obtain ⟨rfl,rfl,rfl⟩:=he;exact ⟨l,a,cap,rfl,hl,hC,hw.1,hw.2⟩
end Go.Proofs.YtcblmhpebijmaaaDoor.HOpen
namespace Go.Proofs.YtcblmhpebijmaaaDoor.HOpenB
open Go.Proofs.YtcblmhpebijmaaaDoorW.PrintWords Go.Proofs.YtcblmhpebijmaaaDoor.HOpen
theorem opened_struct {P:Program} {t:TypeId} {fs:Array Field} {α:Type} {d:Kd α} {Wf:α→Prop} {H:Type} {enc:TypeId × Value→H} {w:World} {sp:Nat→Bool} {held:Bool} {r:Reach} {bs:Nat} {v:Value} {D:DataW H} {ps:List MemPlace}
 (hu:P.underlying t=some (.struct fs)) (ho:Opens P t d Wf) (hv:Value.okWide P w r bs t v) (h:DataW.Trod enc P w 0 sp held t v D ps):∃ a cs,v = .agg cs∧Wf a∧d.K w a cs.toList:=by
 obtain ⟨cs,rfl,_⟩:=Go.WideShapes.okWide_struct hu hv;obtain ⟨fuel,hf⟩:=h;obtain ⟨a,ha,hk⟩:=ho.2 H enc w sp held fuel _ _ hf;exact ⟨a,cs,rfl,ha,hk⟩
theorem opened_slice {P:Program} {t e:TypeId} {α:Type} {d:Kd α} {Wf:α→Prop} {H:Type} {enc:TypeId × Value→H} {w:World} {sp:Nat→Bool} {held:Bool} {r:Reach} {bs:Nat} {v:Value} {D:DataW H} {ps:List MemPlace}
 (hu:P.underlying t=some (.slice e)) (hc:P.cellsOf t=1) (ho:Opens P e d Wf) (hv:Value.okWide P w r bs t v) (h:DataW.Trod enc P w 0 sp held t v D ps) :
 ∃ (l:List α) (A:Option Addr) (c:Nat),v = .slice A l.length c∧l.length≤c∧Kd.C d w A l.length l∧l.length≤maxLen∧∀ a∈l,Wf a:=by
 obtain ⟨a,len,cap,rfl⟩:=Go.WideShapes.okWide_slice hu hv;obtain ⟨fuel,hf⟩:=h;obtain ⟨l,hw,A,c,he,hl,hC⟩:=(opens_slice 0 hu hc ho).2 H enc w sp held fuel _ _ hf;simp [Value.cells] at he
 obtain ⟨rfl,rfl,rfl⟩:=he;exact ⟨l,a,cap,rfl,hl,hC,hw.1,hw.2⟩
end Go.Proofs.YtcblmhpebijmaaaDoor.HOpenB
