/- Parts of the proof: what functions of the program and of the reference answer.
   No condition. -/
import Derived.Test.YtcblmhpebijmaaaDoorProg
import Derived.Below
import Derived.Deep.Draws
import Derived.Deep.AppendLies
import Derived.Maps.AppendAt
import Derived.OwnWalk
import Derived.Laws.BytesArg
import Derived.Laws.MakeOwn
import Derived.Laws.OwnMore
import Derived.Deep.OwnRows
import Derived.Tactics
import Derived.Lib.ConvBytes
import Derived.Laws.Slices
import Derived.WalkKit
import Derived.KernelRfl
import Derived.RowKit3
import Derived.Deep.LoopGhost
import Derived.Deep.QuietTactic
import Derived.BigQuiet
import Derived.WideLaws
import Derived.Deep.DeepCutAuto
import Derived.Deep.CutBlock
import Derived.Deep.RegionHeld3
import Derived.Laws.Rows
import Derived.Lib.AppendStr
import Derived.ArgAppend
import Derived.Laws.IdiomCopy
import Derived.OrdersHeld
import Derived.Laws.BitsLemmas
import Derived.RowKit
import Derived.Test.YtcblmhpebijmaaaDoorZDuesV1
import Derived.Test.YtcblmhpebijmaaaDoorZDuesH1
import Derived.Test.YtcblmhpebijmaaaDoorZDuesV2
namespace Go.Proofs.YtcblmhpebijmaaaDoor.Q
open Go.RowKit Go.Proofs.YtcblmhpebijmaaaDoorW.PrintWords Go.Proofs.YtcblmhpebijmaaaDoorW.PrintLast Go.Proofs.YtcblmhpebijmaaaDoorW.PrintMore
attribute [local go_sem] max2_int min2_int max_two min_two max_three min_three max_four min_four
set_option linter.unusedVariables false
set_option linter.unusedSimpArgs false
def errW:Option Int→Value
 | none=>.nilIface
 | some c=>.iface 0 (.int .i64 c)
theorem errW_none:errW none = .nilIface:=rfl
theorem errW_some (c:Int):errW (some c) = .iface 0 (.int .i64 c):=rfl
theorem info3:(Tryd.prog.info? 3).map (fun i=>(i.zero,i.size,i.bytes))=some (some (.int .i64 0),1,8):=by kernel_rfl
theorem info43:(Tryd.prog.info? 43).map (fun i=>(i.zero,i.size,i.bytes))=some (some (.agg #[(.int .i64 0),(.int .i64 0),(.bool false),(.int .i64 0)]),4,32):=by kernel_rfl
theorem info50:(Tryd.prog.info? 50).map (fun i=>(i.zero,i.size,i.bytes))=some (some (.agg #[(.int .i64 0),(.int .i64 0)]),2,16):=by kernel_rfl
structure S52 where
 f0:Int
 f1:Int
 f2:Bool
 f3:Int
def z52:S52:=⟨(0:Int),(0:Int),false,(0:Int)⟩
def k52:Kd S52:=Kd.iso (Kd.pair (Kd.int .i64) (Kd.pair (Kd.int .i64) (Kd.pair Kd.bool (Kd.int .i64)))) (fun x:S52=>(x.f0,x.f1,x.f2,x.f3))
theorem k52_open {w:World} {x:S52} {cs:List Value} (h:k52.K w x cs):cs=[.int .i64 x.f0,.int .i64 x.f1,.bool x.f2,.int .i64 x.f3]:=by
 obtain ⟨_,_,rfl,rfl,⟨_,_,rfl,rfl,⟨_,_,rfl,rfl,rfl⟩⟩⟩:=h;exact rfl
def rd_T52 (xs:List S52) (i:Int):S52:=xs.getD i.toNat z52
theorem at_T52 {w:World} {A:Option Addr} {n:Nat} {xs:List S52} (h:Kd.C k52 w A n xs) (i:Int) (h0:0≤i) (h1:i < n):∃ ad ,A=some ad∧w.cell? (ad.add (i.toNat * 4))=some (.int .i64 (rd_T52 xs i).f0)∧w.cell? ⟨(ad.add (i.toNat * 4)).block,(ad.add (i.toNat * 4)).off+1,none⟩=some (.int .i64 (rd_T52 xs i).f1)∧w.cell? ⟨(ad.add (i.toNat * 4)).block,(ad.add (i.toNat * 4)).off+2,none⟩=some (.bool (rd_T52 xs i).f2)∧w.cell? ⟨(ad.add (i.toNat * 4)).block,(ad.add (i.toNat * 4)).off+3,none⟩=some (.int .i64 (rd_T52 xs i).f3):=by
 obtain ⟨ad,c,e,_,hK,hc0⟩:=Kd.C_get h z52 i h0 h1;have hc:∀ j u,c[j]?=some u→w.cell? (ad.add (i.toNat * 4+j))=some u:=hc0;obtain rfl:=k52_open hK;exact ⟨ad,e,hc 0 _ rfl,by rw [← add_field _ _ 1 (by omega)];exact hc 1 _ rfl,by rw [← add_field _ _ 2 (by omega)];exact hc 2 _ rfl,by rw [← add_field _ _ 3 (by omega)];exact hc 3 _ rfl⟩
structure S25 where
 f0:Int
 f1:(List Int)
def k25:Kd S25:=Kd.iso (Kd.pair (Kd.int .i64) (Kd.slice 3 (Kd.int .i64))) (fun x:S25=>(x.f0,x.f1))
theorem k25_open {w:World} {x:S25} {cs:List Value} (h:k25.K w x cs):∃ A1 c1,cs=[.int .i64 x.f0,.slice A1 x.f1.length c1]∧x.f1.length≤c1∧(Kd.int .i64).C w A1 x.f1.length x.f1:=by
 obtain ⟨_,_,rfl,rfl,⟨A1,c1,rfl,l1,g1⟩⟩:=h;exact ⟨A1,c1,rfl,l1,g1⟩
structure S43 where
 f0:Int
 f1:Int
 f2:Bool
 f3:Int
def z43:S43:=⟨(0:Int),(0:Int),false,(0:Int)⟩
def k43:Kd S43:=Kd.iso (Kd.pair (Kd.int .i64) (Kd.pair (Kd.int .i64) (Kd.pair Kd.bool (Kd.int .i64)))) (fun x:S43=>(x.f0,x.f1,x.f2,x.f3))
theorem k43_open {w:World} {x:S43} {cs:List Value} (h:k43.K w x cs):cs=[.int .i64 x.f0,.int .i64 x.f1,.bool x.f2,.int .i64 x.f3]:=by
 obtain ⟨_,_,rfl,rfl,⟨_,_,rfl,rfl,⟨_,_,rfl,rfl,rfl⟩⟩⟩:=h;exact rfl
theorem k43_openM {w:World} {base:Nat} {ok:Nat→Prop} {x:S43} {cs:List Value} (h:k43.M w base ok x cs):cs=[.int .i64 x.f0,.int .i64 x.f1,.bool x.f2,.int .i64 x.f3]:=by
 obtain ⟨_,_,rfl,rfl,⟨_,_,rfl,rfl,⟨_,_,rfl,rfl,rfl⟩⟩⟩:=h;exact rfl
theorem k43_mkM (w:World) (base:Nat) (ok:Nat→Prop) (x:S43) :k43.M w base ok x [.int .i64 x.f0,.int .i64 x.f1,.bool x.f2,.int .i64 x.f3]:=⟨[.int .i64 x.f0],[.int .i64 x.f1,.bool x.f2,.int .i64 x.f3],rfl,rfl,⟨[.int .i64 x.f1],[.bool x.f2,.int .i64 x.f3],rfl,rfl,⟨[.bool x.f2],[.int .i64 x.f3],rfl,rfl,rfl⟩⟩⟩
def rd_T43 (xs:List S43) (i:Int):S43:=xs.getD i.toNat z43
theorem at_T43 {w:World} {A:Option Addr} {n:Nat} {xs:List S43} (h:Kd.C k43 w A n xs) (i:Int) (h0:0≤i) (h1:i < n):∃ ad ,A=some ad∧w.cell? (ad.add (i.toNat * 4))=some (.int .i64 (rd_T43 xs i).f0)∧w.cell? ⟨(ad.add (i.toNat * 4)).block,(ad.add (i.toNat * 4)).off+1,none⟩=some (.int .i64 (rd_T43 xs i).f1)∧w.cell? ⟨(ad.add (i.toNat * 4)).block,(ad.add (i.toNat * 4)).off+2,none⟩=some (.bool (rd_T43 xs i).f2)∧w.cell? ⟨(ad.add (i.toNat * 4)).block,(ad.add (i.toNat * 4)).off+3,none⟩=some (.int .i64 (rd_T43 xs i).f3):=by
 obtain ⟨ad,c,e,_,hK,hc0⟩:=Kd.C_get h z43 i h0 h1;have hc:∀ j u,c[j]?=some u→w.cell? (ad.add (i.toNat * 4+j))=some u:=hc0;obtain rfl:=k43_open hK;exact ⟨ad,e,hc 0 _ rfl,by rw [← add_field _ _ 1 (by omega)];exact hc 1 _ rfl,by rw [← add_field _ _ 2 (by omega)];exact hc 2 _ rfl,by rw [← add_field _ _ 3 (by omega)];exact hc 3 _ rfl⟩
structure S50 where
 f0:Int
 f1:Int
def z50:S50:=⟨(0:Int),(0:Int)⟩
def k50:Kd S50:=Kd.iso (Kd.pair (Kd.int .i64) (Kd.int .i64)) (fun x:S50=>(x.f0,x.f1))
theorem k50_open {w:World} {x:S50} {cs:List Value} (h:k50.K w x cs):cs=[.int .i64 x.f0,.int .i64 x.f1]:=by
 obtain ⟨_,_,rfl,rfl,rfl⟩:=h;exact rfl
theorem k50_openM {w:World} {base:Nat} {ok:Nat→Prop} {x:S50} {cs:List Value} (h:k50.M w base ok x cs):cs=[.int .i64 x.f0,.int .i64 x.f1]:=by
 obtain ⟨_,_,rfl,rfl,rfl⟩:=h;exact rfl
theorem k50_mkM (w:World) (base:Nat) (ok:Nat→Prop) (x:S50) :k50.M w base ok x [.int .i64 x.f0,.int .i64 x.f1]:=⟨[.int .i64 x.f0],[.int .i64 x.f1],rfl,rfl,rfl⟩
def rd_T50 (xs:List S50) (i:Int):S50:=xs.getD i.toNat z50
theorem at_T50 {w:World} {A:Option Addr} {n:Nat} {xs:List S50} (h:Kd.C k50 w A n xs) (i:Int) (h0:0≤i) (h1:i < n):∃ ad ,A=some ad∧w.cell? (ad.add (i.toNat * 2))=some (.int .i64 (rd_T50 xs i).f0)∧w.cell? ⟨(ad.add (i.toNat * 2)).block,(ad.add (i.toNat * 2)).off+1,none⟩=some (.int .i64 (rd_T50 xs i).f1):=by
 obtain ⟨ad,c,e,_,hK,hc0⟩:=Kd.C_get h z50 i h0 h1;have hc:∀ j u,c[j]?=some u→w.cell? (ad.add (i.toNat * 2+j))=some u:=hc0;obtain rfl:=k50_open hK;exact ⟨ad,e,hc 0 _ rfl,by rw [← add_field _ _ 1 (by omega)];exact hc 1 _ rfl⟩
noncomputable def same {α:Type} (a b:α):Bool:=@decide (a=b) (Classical.propDecidable _)
theorem same_true {α:Type} {a b:α} (h:a=b):true=same a b:=by unfold same;exact (@decide_eq_true _ (Classical.propDecidable _) h).symm
theorem same_false {α:Type} {a b:α} (h:a=b→False):false=same a b:=by unfold same;exact (@decide_eq_false _ (Classical.propDecidable _) h).symm
theorem ret_bool {b c:Bool} (h:b=c):Ending.returned (Value.bool b)=Ending.returned (Value.bool c):=by rw [h]
theorem below_two (w:World) (o1 o2:Obj):Below w.heap.size w ((w.alloc o1).alloc o2):=((Below.refl _ _).alloc (Nat.le_refl _) _).alloc (by simp) _
theorem take_step {α:Type} {l m:List α} {z:α} {i:Int} (h0:0≤i) (hl:i < (l.length:Int)) (hm:i < (m.length:Int)) (ht:l.take i.toNat=m.take i.toNat) (he:l.getD i.toNat z=m.getD i.toNat z):l.take (i+1).toNat=m.take (i+1).toNat:=by
 rw [show (i+1).toNat=i.toNat+1 by omega,List.take_add_one,List.take_add_one,ht];rw [List.getD_eq_getElem?_getD,List.getD_eq_getElem?_getD,List.getElem?_eq_getElem (by omega),List.getElem?_eq_getElem (by omega)] at he;rw [List.getElem?_eq_getElem (by omega),List.getElem?_eq_getElem (by omega)];simp at he
 rw [he]
theorem take_end {α:Type} {l m:List α} {i:Int} (hl:l.length=m.length) (hi:(l.length:Int)≤i) (ht:l.take i.toNat=m.take i.toNat):l=m:=by
 rwa [List.take_of_length_le (by omega),List.take_of_length_le (by omega)] at ht
theorem below_into {w W w2:World} (k:Below W.heap.size W w2) (h:Below w.heap.size w W):Below w.heap.size w w2:=below_step h k
def SzPost (w:World) (a:Int) (P:Prop) (e:Ending) (w':World):Prop:=∃ r:Int,e = .returned (.int .i64 r)∧-1≤r∧r≤a∧(0≤r→P)∧Below w.heap.size w w'
def inB (a b c:Int):Bool:=decide (b≤a) && decide (a≤c)
theorem inB_true {a b c:Int}:inB a b c=true ↔ b≤a∧a≤c:=by simp [inB]
theorem inB_false {a b c:Int}:inB a b c=false ↔ ¬ (b≤a∧a≤c):=by rw [← inB_true];simp
theorem inB_of {a b c:Int} (h:b≤a∧a≤c):inB a b c=true:=inB_true.2 h
theorem inB_not {a b c:Int} (h:¬ (b≤a∧a≤c)):inB a b c=false:=inB_false.2 h
theorem drop_at {α:Type} {l:List α} {z:α} {i:Int} (h0:0≤i) (h1:i < (l.length:Int)):l.drop i.toNat=l.getD i.toNat z :: l.drop (i+1).toNat:=by
 rw [show (i+1).toNat=i.toNat+1 by omega,List.drop_eq_getElem_cons (by omega),List.getD_eq_getElem?_getD,List.getElem?_eq_getElem (by omega)];rfl
theorem mem_at {α:Type} {l:List α} {z:α} {i:Int} (h0:0≤i) (h1:i < (l.length:Int)):l.getD i.toNat z∈l:=by
 rw [List.getD_eq_getElem?_getD,List.getElem?_eq_getElem (by omega)];exact List.getElem_mem _
noncomputable def impl_between.f (a0 a1 a2:Int):Option Bool:=some (inB a0 a1 a2)
set_option maxRecDepth 100000 in
theorem impl_between.to (a b c:Int) (w:World):Calls Tryd.prog 26 #[.int .i64 a,.int .i64 b,.int .i64 c] w fun e w'=>e = .returned (.bool (inB a b c))∧w'=w:=by
 go_enter Tryd.func26,Tryd.ntmps26
 go_wp2
 all_goals
  go_ret
  refine ⟨ret_bool ?_,rfl⟩;unfold inB;rw [Bool.eq_iff_iff];simp
  try omega
theorem impl_between.calls (a0 a1 a2:Int) (r:Bool) (w:World) (h:impl_between.f a0 a1 a2=some r) :
 Calls Tryd.prog 26 #[.int .i64 a0,.int .i64 a1,.int .i64 a2] w fun e w'=>e = .returned (.bool r)∧Drawn0 w w':=by
 obtain rfl:=Option.some.inj h;exact (impl_between.to a0 a1 a2 w).mono fun e w' ⟨he,hw⟩=>⟨he,hw ▸ Drawn0.refl _⟩
noncomputable def impl_sumOf.l0:Nat→Int→List Int→Int→Int→Option (Int)
 | 0,_,_,_,_=>none
 | k+1,x3,x6,x7,x8=>if x8 < x7 then (if 0≤x8 then (if x8 < (x6.length:Int) then (impl_sumOf.l0 k (wrap64 (x3+(rd x6 x8))) x6 x7 (wrap64 (x8+1))) else (none)) else (none)) else (some x3)
noncomputable def impl_sumOf.f (k:Nat) (l0:List Int):Option (Int):=impl_sumOf.l0 k 0 l0 (l0.length:Int) 0
set_option maxHeartbeats 8000000 in
set_option maxRecDepth 100000 in
theorem impl_sumOf.calls (k:Nat) (A0:Option Addr) (c0:Nat) (l0:List Int) (r:Int) (w:World) (hr0:Kd.C (Kd.int .i64) w A0 l0.length l0) (hc0:l0.length≤c0) (h:impl_sumOf.f k l0=some r) :
 Calls Tryd.prog 45 #[.slice A0 l0.length c0] w fun e w'=>e = .returned (.int .i64 r)∧Drawn0 w w':=by
 have HR0:=Aside0.mk hr0;have HC0:=Aside0.mk hc0;clear hr0 hc0;have H:(impl_sumOf.l0 k 0 l0 (l0.length:Int) 0)=some r:=h;clear h;have H':=Aside0.mk H;clear H
 go_enter Tryd.func45,Tryd.ntmps45
 go_wp2
 go_loopg [3,8] k (fun kq v3 v8 w'=>∃ (x3_1:Int) (x8_1:Int),v3 = .int .i64 x3_1∧v8 = .int .i64 x8_1∧Aside0 (impl_sumOf.l0 kq x3_1 l0 (l0.length:Int) x8_1=some r)∧Aside0 (kq≤k)∧Drawn0 w w')
 case atStart=>exact ⟨(0),(0),(by first | rfl | (simp;done) | (simp [*];done)),(by first | rfl | (simp;done) | (simp [*];done)),H',⟨Nat.le_refl _⟩,by repeat (first | exact Drawn0.refl _ | apply Drawn0.step)⟩
 case round =>
  clear H';obtain ⟨x3_1,x8_1,rfl,rfl,HA,HK1,⟨m1,rfl⟩⟩:=hrel;cases gk with
  | zero=>exact absurd HA.out (by simp [impl_sumOf.l0])
  | succ k1 =>
   have H:=HA.out;clear HA;simp only [impl_sumOf.l0] at H;by_cases c2:x8_1 < (l0.length:Int)
   ·rw [if_pos c2] at H;have c2b0:decide (x8_1 < (l0.length:Int))=true:=decide_eq_true c2;clear c2;by_cases c3:0≤x8_1
    ·rw [if_pos c3] at H;have c3b0:decide (0≤x8_1)=true:=decide_eq_true c3;clear c3;by_cases c4:x8_1 < (l0.length:Int)
     ·rw [if_pos c4] at H;have c4b0:decide (x8_1 < (l0.length:Int))=true:=decide_eq_true c4;clear c4;have H':=Aside0.mk H;clear H;have p46001:0≤(x8_1:Int):=of_decide_eq_true (by first | (with_reducible assumption) | assumption);have q46001:x8_1 < (l0.length:Int):=of_decide_eq_true (by first | (with_reducible assumption) | assumption);obtain ⟨ad46001,e46001,hx46001_0⟩:=Kd.at_int HR0.out x8_1 p46001 q46001;cases e46001;replace p46001:=eq_true p46001;replace q46001:=eq_true q46001
      go_wp2
      go_roundg k1
      case measure=>have:=HK1.out;omega
      case rel=>exact ⟨(wrap64 (x3_1+(rd l0 x8_1))),(wrap64 (x8_1+1)),(by first | rfl | (simp;done) | (simp [*];done)),(by first | rfl | (simp;done) | (simp [*];done)),H',⟨by have:=HK1.out;omega⟩,by repeat (first | exact Drawn0.refl _ | apply Drawn0.step)⟩
     ·rw [if_neg c4] at H;exact absurd H (by simp)
    ·rw [if_neg c3] at H;exact absurd H (by simp)
   ·rw [if_neg c2] at H;have c2b0:decide (x8_1 < (l0.length:Int))=false:=decide_eq_false c2;clear c2;obtain rfl:=Option.some.inj H
    go_wp2
    go_ret
    exact ⟨by first | rfl | (simp;done) | (simp [*];done),by repeat (first | exact Drawn0.refl _ | apply Drawn0.step)⟩
theorem int_seg {W:World} {base g n cap:Nat} {ok:Nat→Prop} {xs:List Int} (h:(Kd.int .i64).R 3 W base ok (.slice (some ⟨g,0,none⟩) n cap) xs) (i:Int) (h0:0≤i) (h1:i < n) (v:Int) :
 (Kd.int .i64).R 3 (W.setCell ⟨g,i.toNat,none⟩ (.int .i64 v)) base ok (.slice (some ⟨g,0,none⟩) n cap) (xs.set i.toNat v):=by
 obtain ⟨c,hcl,hM,hcc,_⟩:=Kd.R_elem h 0 i h0 h1
 have:=(Kd.R_seg h i h0 h1 (c:=c) (seg:=[.int .i64 v]) (j:=0) (x':=v) (okp:=fun _=>False) hcl hcc (Nat.le_refl _) (by
  have hl:c.length=1:=hcl
  match c,hl with
  | [u],_=>rfl) (fun _ hk=>hk.elim)).1
 rw [show (Kd.int .i64).sz=1 from rfl,Nat.mul_one,Nat.add_zero] at this;exact this
theorem int_get {W:World} {base g n cap:Nat} {ok:Nat→Prop} {xs:List Int} (h:(Kd.int .i64).R 3 W base ok (.slice (some ⟨g,0,none⟩) n cap) xs) (i:Int) (h0:0≤i) (h1:i < n) :
 W.cell? ⟨g,i.toNat,none⟩=some (.int .i64 (rd xs i))∧W.frozen? ⟨g,i.toNat,none⟩=false:=by
 obtain ⟨c,hcl,hM,hcc,hfr⟩:=Kd.R_elem h 0 i h0 h1;have e:c=[.int .i64 (xs.getD i.toNat 0)]:=hM;subst e;have a:=hcc 0 _ rfl;have b:=hfr 0;rw [show (Kd.int .i64).sz=1 from rfl,Nat.mul_one,Nat.add_zero] at a b;exact ⟨a,b⟩
set_option maxHeartbeats 4000000 in
set_option maxRecDepth 100000 in
theorem laws_eqDue.calls (a0_0:Int) (a0_1:Int) (a1_0:Int) (a1_1:Int) (w:World) :
 Calls Tryd.prog 31 #[.agg #[.int .i64 a0_0,.int .i64 a0_1],.agg #[.int .i64 a1_0,.int .i64 a1_1]] w fun e w'=>e = .returned (.bool (same ((⟨a0_0,a0_1⟩:S50):S50) ((⟨a1_0,a1_1⟩:S50):S50)))∧Below w.heap.size w w':=by
 by_cases h0:a0_0=a1_0
 ·have hb0:(a0_0 != a1_0)=false:=by rw [h0];simp
  have E0:=Aside0.mk h0;clear h0;by_cases h1:a0_1=a1_1
  ·have hb1:(a0_1 != a1_1)=false:=by rw [h1];simp
   have E1:=Aside0.mk h1;clear h1
   go_enter Tryd.func31,Tryd.ntmps31
   go_wp2
   go_ret
   exact ⟨ret_bool (same_true (by rw [E0.out,E1.out])),below_two _ _ _⟩
  ·have hb1:(a0_1 != a1_1)=true:=by simpa using h1
   have E1:=Aside0.mk h1;clear h1
   go_enter Tryd.func31,Tryd.ntmps31
   go_wp2
   go_ret
   exact ⟨ret_bool (same_false (fun h=>E1.out (congrArg (fun x:S50=>x.f1) h))),below_two _ _ _⟩
 ·have hb0:(a0_0 != a1_0)=true:=by simpa using h0
  have E0:=Aside0.mk h0;clear h0
  go_enter Tryd.func31,Tryd.ntmps31
  go_wp2
  go_ret
  exact ⟨ret_bool (same_false (fun h=>E0.out (congrArg (fun x:S50=>x.f0) h))),below_two _ _ _⟩
noncomputable def laws_heldDueS.l0:Nat→List (S50)→Int→Int→Option (Int)
 | 0,_,_,_=>none
 | k+1,x0,x1,x5=>if x5 < (x0.length:Int) then (if 0≤x5 then (if ((rd_T50 x0 x5).f0)=x1 then (if ((rd_T50 x0 x5).f1)=(wrap64 (x1+1)) then (laws_heldDueS.l0 k x0 (wrap64 ((wrap64 (x1+1))+1)) (wrap64 (x5+1))) else (some (-1))) else (some (-1))) else (none)) else (some x1)
noncomputable def laws_heldDueS.f (k:Nat) (l0:List (S50)) (a1:Int):Option (Int):=laws_heldDueS.l0 k l0 a1 0
set_option maxHeartbeats 8000000 in
set_option maxRecDepth 100000 in
theorem laws_heldDueS.calls (k:Nat) (A0:Option Addr) (c0:Nat) (l0:List (S50)) (a1:Int) (r:Int) (w:World) (hr0:Kd.C k50 w A0 l0.length l0) (hc0:l0.length≤c0) (h:laws_heldDueS.f k l0 a1=some r) :
 Calls Tryd.prog 16 #[.slice A0 l0.length c0,.int .i64 a1] w fun e w'=>e = .returned (.int .i64 r)∧Drawn0 w w':=by
 have HR0:=Aside0.mk hr0;have HC0:=Aside0.mk hc0;clear hr0 hc0;have H:(laws_heldDueS.l0 k l0 a1 0)=some r:=h;clear h;have H':=Aside0.mk H;clear H
 go_enter Tryd.func16,Tryd.ntmps16
 go_wp2
 go_loopg [1,5] k (fun kq v1 v5 w'=>∃ (x1_1:Int) (x5_1:Int),v1 = .int .i64 x1_1∧v5 = .int .i64 x5_1∧Aside0 (laws_heldDueS.l0 kq l0 x1_1 x5_1=some r)∧Aside0 (kq≤k)∧Drawn0 w w')
 case atStart=>exact ⟨(a1),(0),(by first | rfl | (simp;done) | (simp [*];done)),(by first | rfl | (simp;done) | (simp [*];done)),H',⟨Nat.le_refl _⟩,by repeat (first | exact Drawn0.refl _ | apply Drawn0.step)⟩
 case round =>
  clear H';(try clear c1);(try clear p2);obtain ⟨x1_1,x5_1,rfl,rfl,HA,HK1,⟨m1,rfl⟩⟩:=hrel;cases gk with
  | zero=>exact absurd HA.out (by simp [laws_heldDueS.l0])
  | succ k1 =>
   have H:=HA.out;clear HA;simp only [laws_heldDueS.l0] at H;by_cases c3:x5_1 < (l0.length:Int)
   ·rw [if_pos c3] at H;have c3b0:decide (x5_1 < (l0.length:Int))=true:=decide_eq_true c3;clear c3;by_cases c4:0≤x5_1
    ·rw [if_pos c4] at H;have c4b0:decide (0≤x5_1)=true:=decide_eq_true c4;clear c4;by_cases c5:((rd_T50 l0 x5_1).f0)=x1_1
     ·rw [if_pos c5] at H;have c5b0:(((rd_T50 l0 x5_1).f0) == x1_1)=true:=beq_iff_eq.mpr c5;have c5b1:(((rd_T50 l0 x5_1).f0) != x1_1)=false:=bne_eq_false_iff_eq.mpr c5;clear c5;by_cases c6:((rd_T50 l0 x5_1).f1)=(wrap64 (x1_1+1))
      ·rw [if_pos c6] at H;have c6b0:(((rd_T50 l0 x5_1).f1) == (wrap64 (x1_1+1)))=true:=beq_iff_eq.mpr c6;have c6b1:(((rd_T50 l0 x5_1).f1) != (wrap64 (x1_1+1)))=false:=bne_eq_false_iff_eq.mpr c6;clear c6;have H':=Aside0.mk H;clear H;have p17001:0≤(x5_1:Int):=of_decide_eq_true (by first | (with_reducible assumption) | assumption);have q17001:x5_1 < (l0.length:Int):=of_decide_eq_true (by first | (with_reducible assumption) | assumption);obtain ⟨ad17001,e17001,hx17001_0,hx17001_1⟩:=at_T50 HR0.out x5_1 p17001 q17001;cases e17001;replace p17001:=eq_true p17001;replace q17001:=eq_true q17001;have p17002:0≤(x5_1:Int):=of_decide_eq_true (by first | (with_reducible assumption) | assumption);have q17002:x5_1 < (l0.length:Int):=of_decide_eq_true (by first | (with_reducible assumption) | assumption);obtain ⟨ad17002,e17002,hx17002_0,hx17002_1⟩:=at_T50 HR0.out x5_1 p17002 q17002;obtain rfl:ad17001=ad17002:=(by injection e17002);replace p17002:=eq_true p17002;replace q17002:=eq_true q17002
       go_wp2
       go_roundg k1
       case measure=>have:=HK1.out;omega
       case rel=>exact ⟨(wrap64 ((wrap64 (x1_1+1))+1)),(wrap64 (x5_1+1)),(by first | rfl | (simp;done) | (simp [*];done)),(by first | rfl | (simp;done) | (simp [*];done)),H',⟨by have:=HK1.out;omega⟩,by repeat (first | exact Drawn0.refl _ | apply Drawn0.step)⟩
      ·rw [if_neg c6] at H;have c6b0:(((rd_T50 l0 x5_1).f1) == (wrap64 (x1_1+1)))=false:=beq_eq_false_iff_ne.mpr c6;have c6b1:(((rd_T50 l0 x5_1).f1) != (wrap64 (x1_1+1)))=true:=bne_iff_ne.mpr c6;obtain rfl:=Option.some.inj H;have p17001:0≤(x5_1:Int):=of_decide_eq_true (by first | (with_reducible assumption) | assumption);have q17001:x5_1 < (l0.length:Int):=of_decide_eq_true (by first | (with_reducible assumption) | assumption);obtain ⟨ad17001,e17001,hx17001_0,hx17001_1⟩:=at_T50 HR0.out x5_1 p17001 q17001;cases e17001;replace p17001:=eq_true p17001;replace q17001:=eq_true q17001;have p17002:0≤(x5_1:Int):=of_decide_eq_true (by first | (with_reducible assumption) | assumption);have q17002:x5_1 < (l0.length:Int):=of_decide_eq_true (by first | (with_reducible assumption) | assumption);obtain ⟨ad17002,e17002,hx17002_0,hx17002_1⟩:=at_T50 HR0.out x5_1 p17002 q17002;obtain rfl:ad17001=ad17002:=(by injection e17002);replace p17002:=eq_true p17002;replace q17002:=eq_true q17002
       go_wp2
       go_ret
       exact ⟨by first | rfl | (simp;done) | (simp [*];done),by repeat (first | exact Drawn0.refl _ | apply Drawn0.step)⟩
     ·rw [if_neg c5] at H;have c5b0:(((rd_T50 l0 x5_1).f0) == x1_1)=false:=beq_eq_false_iff_ne.mpr c5;have c5b1:(((rd_T50 l0 x5_1).f0) != x1_1)=true:=bne_iff_ne.mpr c5;obtain rfl:=Option.some.inj H;have p17001:0≤(x5_1:Int):=of_decide_eq_true (by first | (with_reducible assumption) | assumption);have q17001:x5_1 < (l0.length:Int):=of_decide_eq_true (by first | (with_reducible assumption) | assumption);obtain ⟨ad17001,e17001,hx17001_0,hx17001_1⟩:=at_T50 HR0.out x5_1 p17001 q17001;cases e17001;replace p17001:=eq_true p17001;replace q17001:=eq_true q17001
      go_wp2
      go_ret
      exact ⟨by first | rfl | (simp;done) | (simp [*];done),by repeat (first | exact Drawn0.refl _ | apply Drawn0.step)⟩
    ·rw [if_neg c4] at H;exact absurd H (by simp)
   ·rw [if_neg c3] at H;have c3b0:decide (x5_1 < (l0.length:Int))=false:=decide_eq_false c3;clear c3;obtain rfl:=Option.some.inj H
    go_wp2
    go_ret
    exact ⟨by first | rfl | (simp;done) | (simp [*];done),by repeat (first | exact Drawn0.refl _ | apply Drawn0.step)⟩
noncomputable def laws_markIntS.l0:Nat→List Int→Int→Int→Option (Int × List Int)
 | 0,_,_,_=>none
 | k+1,x0,x1,x5=>if x5 < (x0.length:Int) then (if 0≤x5 then (laws_markIntS.l0 k (x0.set (x5:Int).toNat x1) (wrap64 (x1+1)) (wrap64 (x5+1))) else (none)) else (some (x1,x0))
noncomputable def laws_markIntS.f (k:Nat) (l0:List Int) (a1:Int):Option (Int × List Int):=laws_markIntS.l0 k l0 a1 0
set_option maxHeartbeats 8000000 in
set_option maxRecDepth 100000 in
theorem laws_markIntS.calls (k:Nat) (P0_:Nat→Prop) (u9000_:Value) (l0:List Int) (a1:Int) (r1:Int) (r2:List Int) (w0 w:World) (hB:Below w0.heap.size w0 w) (ho0:Kd.R (Kd.int .i64) 3 w w0.heap.size P0_ u9000_ l0) (h:laws_markIntS.f k l0 a1=some (r1,r2)) :
 Calls Tryd.prog 34 #[u9000_,.int .i64 a1] w fun e w'=>e = .returned (.int .i64 r1)∧Kd.R (Kd.int .i64) 3 w' w0.heap.size (fun k_=>(P0_ k_∨w.heap.size≤k_)) u9000_ r2∧Below w0.heap.size w0 w'∧Kept w w' (fun k_=>P0_ k_):=by
 have HO0:=Aside0.mk (show Kd.R (Kd.int .i64) 3 w w0.heap.size (fun k_=>(P0_ k_∨w.heap.size≤k_)) u9000_ l0 from Kd.R_mono ho0 (fun k_ hk=>(.inl hk)));have HK:=Aside0.mk (Kept.refl w (fun k_=>P0_ k_));have HW0:=Aside0.mk hB.size;have HB:=Aside0.mk hB;clear hB;have H:(laws_markIntS.l0 k l0 a1 0)=some (r1,r2):=h;clear h;have H':=Aside0.mk H;clear H
 go_enter Tryd.func34,Tryd.ntmps34
 go_wp2
 go_loopg [1,5] k (fun kq v1 v5 w'=>∃ (x0_1:List Int) (x1_1:Int) (x5_1:Int),v1 = .int .i64 x1_1∧v5 = .int .i64 x5_1∧Aside0 (laws_markIntS.l0 kq x0_1 x1_1 x5_1=some (r1,r2))∧Aside0 (kq≤k)∧Aside0 (Kd.R (Kd.int .i64) 3 w' w0.heap.size (fun k_=>(P0_ k_∨w.heap.size≤k_)) u9000_ x0_1)∧Aside0 (Kept w w' (fun k_=>P0_ k_))∧Aside0 (Below w0.heap.size w0 w'))
 case atStart=>exact ⟨(l0),(a1),(0),(by first | rfl | (simp;done) | (simp [*];done)),(by first | rfl | (simp;done) | (simp [*];done)),H',⟨Nat.le_refl _⟩,⟨by (with_reducible repeat (first | apply Kd.R_alloc | apply Kd.R_drewN | apply Kd.R_drew));exact HO0.out⟩,⟨by repeat (first | (with_reducible first | exact HK.out | apply Kept.alloc | apply Kept.drewN | apply Kept.drew) | exact HK.out)⟩,⟨by repeat (first | (with_reducible first | exact HB.out | apply y02 | apply y00 | apply y01) | exact HB.out)⟩⟩
 case round =>
  clear H';(try clear p2);obtain ⟨x0_1,x1_1,x5_1,rfl,rfl,HA,HK1,HO_0,HK,HB⟩:=hrel;cases gk with
  | zero=>exact absurd HA.out (by simp [laws_markIntS.l0])
  | succ k1 =>
   have H:=HA.out;clear HA;simp only [laws_markIntS.l0] at H;by_cases c3:x5_1 < (x0_1.length:Int)
   ·rw [if_pos c3] at H;have c3b0:decide (x5_1 < (x0_1.length:Int))=true:=decide_eq_true c3;clear c3;by_cases c4:0≤x5_1
    ·rw [if_pos c4] at H;have c4b0:decide (0≤x5_1)=true:=decide_eq_true c4;clear c4;obtain ⟨y35001,hy35001⟩:∃ y_:List Int,y_=(x0_1.set (x5_1:Int).toNat x1_1):=⟨_,rfl⟩;replace H:(laws_markIntS.l0 k1 y35001 (wrap64 (x1_1+1)) (wrap64 (x5_1+1)))=some (r1,r2):=by first | (rw [hy35001];with_reducible exact H) | (have H2_:=(Option.bind_some _ _).symm.trans H;rw [hy35001];with_reducible exact H2_) | (have H2_:=(Option.bind_some _ _).symm.trans H;with_reducible exact H2_) | with_reducible exact H | (rw [hy35001];exact H) | exact H
     have Ny35001:=Aside0.mk hy35001;clear hy35001;have H':=Aside0.mk H;clear H;obtain ⟨Ao6,co6,eo6⟩:=Kd.R_slice HO_0.out;subst eo6;have p5:0≤(x5_1:Int):=of_decide_eq_true (by first | (with_reducible assumption) | assumption);have q5:(x5_1:Int) < ((x0_1.length:Int):Int):=of_decide_eq_true (by first | (with_reducible assumption) | assumption);obtain ⟨go5,co5,eo5,gb5,gl5,cl5,HG5⟩:=Kd.R_form HO_0.out (by omega);(first | cases eo5 | (injection eo5 with ea_ en_ ec_;(first | subst ea_ | (injection ea_ with ea_;subst ea_));subst ec_;clear en_));have GB5:=Aside0.mk gb5;have GG5:=Aside0.mk HG5;clear gb5 gl5 HG5;have HMgo5:=Aside0.mk (show (P0_ go5∨w.heap.size≤go5) from (HO_0.out.1 _ rfl));obtain ⟨hx5_0,hf5_0⟩:=Kd.R_celln 0 HO_0.out (x5_1:Int) p5 q5;replace p5:=eq_true p5;replace q5:=eq_true q5;have HP7:=Kd.R_putg HO_0.out (x5_1:Int) x1_1
     go_wp2_with (first | ((with_reducible refine gate_store (t:=3) (p:=15) rfl ?_);refine store_event (t:=3) (p:=15) (v:=?vo_w8) (w1:=(wr.setCell ⟨go5,(x5_1:Int).toNat,none⟩ (.int .i64 x1_1))) ?hg ?ho ?hn ?hr ?_;(case ho=>rfl);(case hg=>rfl);(case hn=>rfl);(case hr=>first | (go_simp;done) | (go_simp;rfl));intro w8 hw;have hg:wr.grownBy w8 (some go5):=(by rw [hw];exact HP7.2);have hp_:Kd.R (Kd.int .i64) 3 w8 w0.heap.size (fun k_=>(P0_ k_∨w.heap.size≤k_)) (.slice (some ⟨go5,0,none⟩) x0_1.length co6) y35001:=(by rw [hw,Ny35001.out];exact HP7.1);clear HP7;have n0_:=Aside0.mk (hp_);have n1_:=Aside0.mk ((by rw [hw];exact y03 (HB.out) GB5.out:Below w0.heap.size w0 w8));have n2_:=Aside0.mk (Kept.of_grown (S:=(fun k_=>P0_ k_)) hg (by repeat (first | (with_reducible first | exact HK.out | apply Kept.alloc | apply Kept.drewN | apply Kept.drew) | exact HK.out)) (fun k_ e_=>(HO_0.out.1 k_ e_)));clear HO_0;clear HB;clear HK;have HO_0:=n0_;have HB:=n1_;have HK:=n2_;clear n0_ n1_ n2_;clear hg hw hp_))
     go_roundg k1
     case measure=>have:=HK1.out;omega
     case rel=>exact ⟨(y35001),(wrap64 (x1_1+1)),(wrap64 (x5_1+1)),(by first | rfl | (simp;done) | (simp [*];done)),(by first | rfl | (simp;done) | (simp [*];done)),H',⟨by have:=HK1.out;omega⟩,⟨by (with_reducible repeat (first | apply Kd.R_alloc | apply Kd.R_drewN | apply Kd.R_drew));exact HO_0.out⟩,⟨by repeat (first | (with_reducible first | exact HK.out | apply Kept.alloc | apply Kept.drewN | apply Kept.drew) | exact HK.out)⟩,⟨by repeat (first | (with_reducible first | exact HB.out | apply y02 | apply y00 | apply y01) | exact HB.out)⟩⟩
    ·rw [if_neg c4] at H;exact absurd H (by simp)
   ·rw [if_neg c3] at H;have c3b0:decide (x5_1 < (x0_1.length:Int))=false:=decide_eq_false c3;clear c3;simp only [Option.some.injEq,Prod.mk.injEq] at H;obtain ⟨rfl,rfl⟩:=H;obtain ⟨Ao9,co9,eo9⟩:=Kd.R_slice HO_0.out;subst eo9
    go_wp2
    go_ret
    exact ⟨by first | rfl | (simp [errW_none,errW_some] <;> rfl) | (simp [*,errW_none,errW_some] <;> rfl),by (with_reducible repeat (first | apply Kd.R_alloc | apply Kd.R_drewN | apply Kd.R_drew));exact HO_0.out,by repeat (first | (with_reducible first | exact HB.out | apply y02 | apply y00 | apply y01) | exact HB.out),by repeat (first | (with_reducible first | exact HK.out | apply Kept.alloc | apply Kept.drewN | apply Kept.drew) | exact HK.out)⟩
end Go.Proofs.YtcblmhpebijmaaaDoor.Q
