/- Parts of the proof: what functions of the program and of the reference answer.
   No condition. -/
import Derived.Test.YtnknanppoenigaaGreatDoorZSpreadBooksV1
import Derived.ChangeArms
import Derived.DataElems
import Derived.DataReads
import Derived.WideShapes
namespace Go.Proofs.YtnknanppoenigaaGreatDoor.HOpen
open Go.Proofs.YtnknanppoenigaaGreatDoorW.PrintWords
def Opens (P:Program) (t:TypeId) {α:Type} (d:Kd α) (Wf:α→Prop):Prop :=
 P.cellsOf t=d.sz∧∀ (H:Type) (enc:TypeId × Value→H) (w:World) (sp:Nat→Bool) (held:Bool) (fuel:Nat) (cs:List Value) (x:DataW H × List MemPlace),
  DataW.trod enc P w 0 sp held fuel t cs=some x→∃ a,Wf a∧d.K w a cs
theorem opens_int {P:Program} {t:TypeId} {k:IntKind} (hu:P.underlying t=some (.int k)) (hc:P.cellsOf t=1):Opens P t (Kd.int k) (fun a=>(Lit.int k a).wf=true) :=
 ⟨hc,fun _ _ _ _ _ _ _ _ h=>by
  obtain ⟨n,rfl,_,hw⟩:=DataW.trod_int hu h
  exact ⟨n,hw,rfl⟩⟩
theorem list_of_each {α:Type} (p:Nat→α→Prop):∀ n:Nat,(∀ i,i < n→∃ a,p i a)→∃ l:List α,l.length=n∧∀ j a,l[j]?=some a→p j a
 | 0,_=>⟨[],rfl,fun j a h=>by simp at h⟩
 | n+1,h=>by
  obtain ⟨l,hl,hp⟩:=list_of_each p n (fun i hi=>h i (by omega));obtain ⟨a,ha⟩:=h n (by omega);refine ⟨l++[a],by simp [hl],fun j b hb=>?_⟩;rcases Nat.lt_or_ge j l.length with hj | hj
  ·rw [List.getElem?_append_left hj] at hb;exact hp j b hb
  ·have hj':j=l.length:=by
    have:=(List.getElem?_eq_some_iff.1 hb).1;simp at this
    omega
   subst hj';simp at hb
   subst hb;rw [hl];exact ha
theorem opens_slice {P:Program} {t e:TypeId} {α:Type} {d:Kd α} {Wf:α→Prop} (e':Nat) (hu:P.underlying t=some (.slice e)) (hc:P.cellsOf t=1) (hd:Opens P e d Wf) :
 Opens P t (Kd.slice e' d) (fun l=>l.length≤maxLen∧∀ a∈l,Wf a):=by
 refine ⟨hc,fun H enc w sp held fuel cs x h=>?_⟩;obtain ⟨hsz,hd⟩:=hd;rcases DataW.trod_slice hu h with ⟨rfl,_⟩ | ⟨ad,len,cap,elems,rest,n,_,rfl,_,_,hl,hm,hlen,hel,_,_⟩
 ·exact ⟨[],⟨by simp,by simp⟩,none,0,rfl,by simp,rfl,by simp,fun h=>absurd h (by simp)⟩
 ·have each:∀ i,i < len→∃ a:α,Wf a∧∃ c,c.length=d.sz∧d.K w a c∧∀ j u,c[j]?=some u→w.cell? (ad.add (i * d.sz+j))=some u:=by
   intro i hi;have h1:=hel i hi;rw [List.getElem?_eq_getElem (by omega)] at h1;obtain ⟨c,hcs,hy⟩:=Option.bind_eq_some_iff.1 h1;obtain ⟨a,hw,hk⟩:=hd H enc w sp held n c _ hy;obtain ⟨_,hcl,hcell⟩:=World.cells?_some hcs;refine ⟨a,hw,c,by rw [hcl,hsz],hk,fun j u hu=>?_⟩;have hj:j < c.length:=(List.getElem?_eq_some_iff.1 hu).1;have:=hcell j (by omega);rw [hu,Addr.add_add,hsz] at this;exact this
  obtain ⟨l,hll,hp⟩:=list_of_each _ len each;refine ⟨l,⟨by omega,fun a ha=>?_⟩,some ad,cap,by rw [hll],by omega,rfl,?_,fun _=>⟨ad,rfl,fun j p hj=>(hp j p hj).2⟩⟩
  ·obtain ⟨j,hj⟩:=List.getElem?_of_mem ha;exact (hp j a hj).1
  ·rw [hll];unfold maxLen at hm;omega
theorem opened_slice {P:Program} {t e:TypeId} {α:Type} {d:Kd α} {Wf:α→Prop} {H:Type} {enc:TypeId × Value→H} {w:World} {sp:Nat→Bool} {held:Bool} {r:Reach} {v:Value} {D:DataW H} {ps:List MemPlace}
 (hu:P.underlying t=some (.slice e)) (hc:P.cellsOf t=1) (ho:Opens P e d Wf) (hv:Value.okWide P w r 0 t v) (h:DataW.Trod enc P w 0 sp held t v D ps) :
 ∃ (l:List α) (A:Option Addr) (c:Nat),v = .slice A l.length c∧l.length≤c∧Kd.C d w A l.length l∧l.length≤maxLen∧∀ a∈l,Wf a:=by
 obtain ⟨a,len,cap,rfl⟩:=Go.WideShapes.okWide_slice hu hv;obtain ⟨fuel,hf⟩:=h;obtain ⟨l,hw,A,c,he,hl,hC⟩:=(opens_slice 0 hu hc ho).2 H enc w sp held fuel _ _ hf;simp [Value.cells] at he
 obtain ⟨rfl,rfl,rfl⟩:=he;exact ⟨l,a,cap,rfl,hl,hC,hw.1,hw.2⟩
end Go.Proofs.YtnknanppoenigaaGreatDoor.HOpen
namespace Go.Proofs.YtnknanppoenigaaGreatDoor.HOpenB
open Go.Proofs.YtnknanppoenigaaGreatDoorW.PrintWords Go.Proofs.YtnknanppoenigaaGreatDoor.HOpen
theorem opened_slice {P:Program} {t e:TypeId} {α:Type} {d:Kd α} {Wf:α→Prop} {H:Type} {enc:TypeId × Value→H} {w:World} {sp:Nat→Bool} {held:Bool} {r:Reach} {bs:Nat} {v:Value} {D:DataW H} {ps:List MemPlace}
 (hu:P.underlying t=some (.slice e)) (hc:P.cellsOf t=1) (ho:Opens P e d Wf) (hv:Value.okWide P w r bs t v) (h:DataW.Trod enc P w 0 sp held t v D ps) :
 ∃ (l:List α) (A:Option Addr) (c:Nat),v = .slice A l.length c∧l.length≤c∧Kd.C d w A l.length l∧l.length≤maxLen∧∀ a∈l,Wf a:=by
 obtain ⟨a,len,cap,rfl⟩:=Go.WideShapes.okWide_slice hu hv;obtain ⟨fuel,hf⟩:=h;obtain ⟨l,hw,A,c,he,hl,hC⟩:=(opens_slice 0 hu hc ho).2 H enc w sp held fuel _ _ hf;simp [Value.cells] at he
 obtain ⟨rfl,rfl,rfl⟩:=he;exact ⟨l,a,cap,rfl,hl,hC,hw.1,hw.2⟩
end Go.Proofs.YtnknanppoenigaaGreatDoor.HOpenB
