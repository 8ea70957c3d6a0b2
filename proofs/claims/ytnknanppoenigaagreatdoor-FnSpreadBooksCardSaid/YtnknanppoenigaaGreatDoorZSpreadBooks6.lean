/- Parts of the proof: what functions of the program and of the reference answer.
   No condition. -/
import Derived.Test.YtnknanppoenigaaGreatDoorZSpreadBooks1
import Derived.Test.YtnknanppoenigaaGreatDoorZSpreadBooks3
import Derived.Test.YtnknanppoenigaaGreatDoorZSpreadBooks2
import Derived.BigQuiet
import Derived.BigRegion
import Derived.Test.YtnknanppoenigaaGreatDoorZSpreadBooks4
namespace Go.Proofs.YtnknanppoenigaaGreatDoor.Q
open Go.RowKit Go.Proofs.YtnknanppoenigaaGreatDoorW.PrintWords Go.Proofs.YtnknanppoenigaaGreatDoorW.PrintLast Go.Proofs.YtnknanppoenigaaGreatDoorW.PrintMore
attribute [local go_sem] max2_int min2_int max_two min_two max_three min_three max_four min_four
set_option linter.unusedVariables false
set_option linter.unusedSimpArgs false
theorem impl_entryIn.key:WideMaps.ArrKey Tryz.prog 118 3 2:=⟨Tryz.underlying118,by kernel_rfl,by kernel_rfl,by kernel_rfl⟩
noncomputable def pairK:HMap.KeyK Tryz.prog 118 (Int × Int):=HMap.pairKey impl_entryIn.key Tryz.underlying3 ⟨_,rfl⟩
theorem textUpto_step {s:ByteArray} {i:Int} (h0:0≤i) (h:textUpto s i) (hb:32≤bt s i):textUpto s (i+1):=by
 intro j hj0 hj1;by_cases e:j=i
 ·subst e;exact hb
 ·exact h j hj0 (by omega)
theorem take_snoc {l:List Lin} {i:Int} (h0:0≤i) (h1:i < (l.length:Int)):l.take (i+1).toNat=l.take i.toNat++[rd_T67 l i]:=by
 rw [show (i+1).toNat=i.toNat+1 by omega,List.take_add_one];unfold rd_T67;rw [List.getD_eq_getElem?_getD,List.getElem?_eq_getElem (by omega)];rfl
structure EntInv (chart:List Acc) (dims curs:Int) (c0:Nat) (A0:Option Addr) (e:Ent) (A3:Option Addr) (c3:Nat) (w wr:World) (i:Int):Prop where
 map:HMap.MapIs Tryz.prog 118 3 pairK wr (w.heap.size+2) (2 * i.toNat) (sumsOf (e.f3.take i.toNat))
 ok:∀ x∈e.f3.take i.toNat,lineP chart dims curs x
 bel:Below w.heap.size w wr
 fr:wr.heap[w.heap.size]?=some (.cells #[.slice A0 chart.length c0,.int .i64 dims,.int .i64 curs] 26 (0,0))
 en:wr.heap[w.heap.size+1]?=some (.cells #[.int .i64 e.f0,.int .i64 e.f1,.string e.f2,.slice A3 e.f3.length c3] 41 (0,0))
theorem ent_start (l0:List Acc) (dims curs:Int) (c0:Nat) (A0:Option Addr) (e:Ent) (A3:Option Addr) (c3:Nat) (w:World):EntInv l0 dims curs c0 A0 e A3 c3 w (((w.alloc (.cells #[.slice A0 l0.length c0,.int .i64 dims,.int .i64 curs] 26)).alloc (.cells #[.int .i64 e.f0,.int .i64 e.f1,.string e.f2,.slice A3 e.f3.length c3] 41)).alloc (.map #[] 0)) 0 where
 map:=by
  rw [show e.f3.take (0:Int).toNat=[] from rfl,sums_nil,show w.heap.size+2=((w.alloc (.cells #[.slice A0 l0.length c0,.int .i64 dims,.int .i64 curs] 26)).alloc (.cells #[.int .i64 e.f0,.int .i64 e.f1,.string e.f2,.slice A3 e.f3.length c3] 41)).heap.size by simp];exact HMap.MapIs.made _ _ _ _ _
 ok:=fun x hx=>by cases hx
 bel:=below_alloc (below_two _ _ _) _
 fr:=blk_alloc (blk_alloc (blk_new _ _) _) _
 en:=by
  have h:=blk_new (w.alloc (.cells #[.slice A0 l0.length c0,.int .i64 dims,.int .i64 curs] 26)) (.cells #[.int .i64 e.f0,.int .i64 e.f1,.string e.f2,.slice A3 e.f3.length c3] 41);rw [show (w.alloc (.cells #[.slice A0 l0.length c0,.int .i64 dims,.int .i64 curs] 26)).heap.size=w.heap.size+1 by simp] at h;exact blk_alloc h _
theorem sums_entry {W:World} {b n:Nat} {f:Int × Int→Option Int} {k1 k2 c d:Int} (h:HMap.MapIs Tryz.prog 118 3 pairK W b n f) (hn:n < maxLen) (h1:(Lit.int .i64 k1).wf=true) (h2:(Lit.int .i64 k2).wf=true) (hc:(f (k1,k2)).getD 0=c) (hw:(Lit.int .i64 (c+d)).wf=true) :
 ∃ (st:Nat) (W1 W3:World) (v0:Value),(Instr.lookup 117 (.map (some b)) (.agg #[.int .i64 k1,.int .i64 k2]) false).run Tryz.prog W = .ok (.int .i64 c) W ∧
  (Instr.mapEntry 117 (.map (some b)) (.agg #[.int .i64 k1,.int .i64 k2])).run Tryz.prog W = .ok (.tuple #[v0,.int .i64 (st:Int)]) W1 ∧
  (Instr.lookup 117 (.map (some b)) (.agg #[.int .i64 k1,.int .i64 k2]) false).run Tryz.prog W1 = .ok (.int .i64 c) W1 ∧
  (Instr.entryStore 117 (.map (some b)) (.int .i64 (st:Int)) (.int .i64 (c+d))).run Tryz.prog W1 = .ok () W3 ∧
  HMap.MapIs Tryz.prog 118 3 pairK W3 b (n+1) (HMap.upd f (k1,k2) (c+d))∧W.grownBy W1 (some b)∧W.grownBy W3 (some b):=by
 obtain ⟨st,W1,v0,hent,hM1,hg1,hst⟩:=HMap.MapIs.entry (t:=117) impl_entryIn.key.law h Tryz.underlying117 Tryz.underlying3 zero3 hn (k1,k2) ⟨h1,h2⟩;obtain ⟨W3,hr,hM3,hg3⟩:=hst W1 (c+d) rfl hw;have l0:=(h.look (t:=117) Tryz.underlying117 Tryz.underlying3 zero3 (k1,k2) ⟨h1,h2⟩).1;have l1:=(hM1.look (t:=117) Tryz.underlying117 Tryz.underlying3 zero3 (k1,k2) ⟨h1,h2⟩).1;rw [hc] at l0;rw [HMap.upd_same,hc] at l1;exact ⟨st,W1,W3,v0,l0,hent,l1,hr,hM3,hg1,hg1.trans hg3⟩
def lineO (x:Lin):Obj:=.cells #[.int .i64 x.f0,.int .i64 x.f1,.int .i64 x.f2,.int .i64 x.f3,.int .i64 x.f4] 67 (0,0)
theorem ent_round {chart:List Acc} {dims curs:Int} {c0:Nat} {A0:Option Addr} {e:Ent} {A3:Option Addr} {c3:Nat} {w wr:World} {j:Int} {x:Lin} (HI:EntInv chart dims curs c0 A0 e A3 c3 w wr j) (hj0:0≤j) (hlt:j < (e.f3.length:Int)) (hx:lineP chart dims curs x) (hxe:rd_T67 e.f3 j=x) (hlen:e.f3.length≤60) (hd:dims≤20) (hc:curs≤20) :
 ∃ (c d:Int) (st1 st2:Nat) (W1 W3 W4 W6:World) (v1 v2:Value),(-6000000000000≤c∧c≤6000000000000)∧(-6000000000000≤d∧d≤6000000000000) ∧
  (Instr.lookup 117 (.map (some (w.heap.size+1+1))) (.agg #[.int .i64 0,.int .i64 x.f2]) false).run Tryz.prog (wr.alloc (lineO x)).drew = .ok (.int .i64 c) (wr.alloc (lineO x)).drew ∧
  (Instr.mapEntry 117 (.map (some (w.heap.size+1+1))) (.agg #[.int .i64 0,.int .i64 x.f2])).run Tryz.prog (wr.alloc (lineO x)).drew = .ok (.tuple #[v1,.int .i64 (st1:Int)]) W1 ∧
  (Instr.lookup 117 (.map (some (w.heap.size+1+1))) (.agg #[.int .i64 0,.int .i64 x.f2]) false).run Tryz.prog W1 = .ok (.int .i64 c) W1 ∧
  (Instr.entryStore 117 (.map (some (w.heap.size+1+1))) (.int .i64 (st1:Int)) (.int .i64 (c+x.f3))).run Tryz.prog W1 = .ok () W3 ∧
  (Instr.lookup 117 (.map (some (w.heap.size+1+1))) (.agg #[.int .i64 1,.int .i64 x.f1]) false).run Tryz.prog W3.drew = .ok (.int .i64 d) W3.drew ∧
  (Instr.mapEntry 117 (.map (some (w.heap.size+1+1))) (.agg #[.int .i64 1,.int .i64 x.f1])).run Tryz.prog W3.drew = .ok (.tuple #[v2,.int .i64 (st2:Int)]) W4 ∧
  (Instr.lookup 117 (.map (some (w.heap.size+1+1))) (.agg #[.int .i64 1,.int .i64 x.f1]) false).run Tryz.prog W4 = .ok (.int .i64 d) W4 ∧
  (Instr.entryStore 117 (.map (some (w.heap.size+1+1))) (.int .i64 (st2:Int)) (.int .i64 (d+x.f4))).run Tryz.prog W4 = .ok () W6 ∧
  W1.heap[wr.heap.size]?=some (lineO x)∧W3.heap[wr.heap.size]?=some (lineO x)∧W4.heap[wr.heap.size]?=some (lineO x)∧EntInv chart dims curs c0 A0 e A3 c3 w W6 (j+1):=by
 obtain ⟨hl,hdm,hcr,ham,hbs,hz⟩:=hx;have hsm:smallLines (e.f3.take j.toNat):=fun y hy=>⟨(HI.ok y hy).2.2.2.1,(HI.ok y hy).2.2.2.2.1⟩
 have hlen':((e.f3.take j.toNat).length:Int)≤60:=by rw [List.length_take];omega
 have hcb:=curSum_small hsm x.f2;have hdb:=dimSum_small hsm x.f1;have hbel:=below_alloc HI.bel (lineO x);have hm0:=(HI.map.alloc (lineO x)).drew;have hgm:w.heap.size+1+1 < wr.heap.size:=HI.map.lt;obtain ⟨st1,W1,W3,v1,a1,a2,a3,a4,a5,a6,a7⟩:=sums_entry (k1:=0) (k2:=x.f2) (c:=curSum (e.f3.take j.toNat) x.f2) (d:=x.f3) hm0 (by unfold maxLen;omega) (by decide) (wf_of (by omega)) (sums_cur _ _) (wf_of (by omega));obtain ⟨st2,W4,W6,v2,b1,b2,b3,b4,b5,b6,b7⟩:=sums_entry (k1:=1) (k2:=x.f1) (c:=dimSum (e.f3.take j.toNat) x.f1) (d:=x.f4) a5.drew (by unfold maxLen;omega) (by decide) (wf_of (by omega)) (by rw [HMap.upd_other _ _ (by simp),sums_dim]) (wf_of (by omega));have hn:some wr.heap.size≠some (w.heap.size+2):=by simp;omega
 have hL:=blk_drew (blk_new wr (lineO x));have h1:=blk_grown hL a6 hn;have h3:=blk_grown hL a7 hn;have h4:=blk_grown (blk_drew h3) b6 hn;refine ⟨_,_,st1,st2,W1,W3,W4,W6,v1,v2,by omega,by omega,a1,a2,a3,a4,b1,b2,b3,b4,h1,h3,h4,?_,?_,?_,?_,?_⟩
 ·rw [sums_snoc] at b5;rw [take_snoc hj0 hlt,hxe,show 2 * (j+1).toNat=2 * j.toNat+1+1 by omega];exact b5
 ·rw [take_snoc hj0 hlt,hxe];intro y hy;rcases List.mem_append.1 hy with hy | hy
  ·exact HI.ok y hy
  ·obtain rfl:y=x:=by simpa using hy
   exact ⟨hl,hdm,hcr,ham,hbs,hz⟩
 ·exact Below.grown (Below.drew (Below.grown (Below.drew hbel) a7 hbel.size (fun i hi=>by cases hi;exact Nat.le_add_right _ _))) b7 (Nat.le_trans hbel.size a7.size) (fun i hi=>by cases hi;exact Nat.le_add_right _ _)
 ·exact blk_grown (blk_drew (blk_grown (blk_drew (blk_alloc HI.fr _)) a7 (by simp))) b7 (by simp)
 ·exact blk_grown (blk_drew (blk_grown (blk_drew (blk_alloc HI.en _)) a7 (by simp))) b7 (by simp)
def SeenZero (f:Int × Int→Option Int) (left:Int × Int→Prop):Prop:=∀ x,pairK.ok x→¬ left x→∀ v,f x=some v→v=0
theorem seen_start (f:Int × Int→Option Int):SeenZero f (fun x=>(f x).isSome=true):=fun x _ h v hv=>absurd (show (f x).isSome=true by rw [hv];rfl) h
theorem seen_step {f:Int × Int→Option Int} {left:Int × Int→Prop} {x:Int × Int} {c:Int} (h:SeenZero f left) (hx:f x=some c) (hc:c=0):SeenZero f (fun z=>left z∧z≠x):=by
 intro z hz hl v hv;by_cases e:z=x
 ·subst e;rw [hx] at hv;cases hv;exact hc
 ·exact h z hz (fun q=>hl ⟨q,e⟩) v hv
theorem seen_end {l:List Lin} {chart:List Acc} {dims curs:Int} {left:Int × Int→Prop} (hok:∀ x∈l,lineP chart dims curs x) (hd:dims≤20) (hc:curs≤20) (h:SeenZero (sumsOf l) left) (hl:∀ x,pairK.ok x→¬ left x):∀ x∈l,curSum l x.f2=0∧dimSum l x.f1=0:=by
 intro x hx;obtain ⟨_,hdm,hcr,_⟩:=hok x hx
 constructor
 ·have k:pairK.ok (0,x.f2):=⟨wf_of (n:=0) (by omega),wf_of (n:=x.f2) (by omega)⟩;exact h (0,x.f2) k (hl _ k) _ (by unfold sumsOf;rw [if_pos rfl,if_pos ⟨x,hx,rfl⟩])
 ·have k:pairK.ok (1,x.f1):=⟨wf_of (n:=1) (by omega),wf_of (n:=x.f1) (by omega)⟩;exact h (1,x.f1) k (hl _ k) _ (by unfold sumsOf;rw [if_neg (by simp),if_pos rfl,if_pos ⟨x,hx,rfl⟩])
set_option maxHeartbeats 8000000 in
set_option maxRecDepth 100000 in
theorem impl_entryIn.short (A0:Option Addr) (c0:Nat) (l0:List Acc) (dims curs:Int) (e:Ent) (A3:Option Addr) (c3:Nat) (w:World) (hs:e.f2.size≤maxLen) (hn:(e.f3.length:Int)≤9223372036854775807)
 (h:¬ (e.f2.size≤40∧2≤e.f3.length∧e.f3.length≤60)) :
 Calls Tryz.prog 41 #[.agg #[.slice A0 l0.length c0,.int .i64 dims,.int .i64 curs],.agg #[.int .i64 e.f0,.int .i64 e.f1,.string e.f2,.slice A3 e.f3.length c3]] w fun x w'=>x = .returned (.bool (entryB l0 dims curs e))∧Below w.heap.size w w':=by
 have hno:¬ entryP l0 dims curs e:=fun q=>h ⟨q.2.2.1,q.2.2.2.1⟩
 go_enter Tryz.func41,Tryz.ntmps41
 go_wp2_with fail
 refine (impl_isDay.to e.f0 _).mono ?_;rintro x w' ⟨rfl,rfl⟩;cases hday:inB e.f0 0 40000 with
 | false =>
  go_wp2_with fail
  go_ret
  exact ⟨ret_bool (entryB_not hno),below_two _ _ _⟩
 | true =>
  go_wp2_with fail
  refine (impl_between.to e.f1 _ _ _).mono ?_;rintro x w' ⟨rfl,rfl⟩;cases href:inB e.f1 0 1000 with
  | false =>
   go_wp2_with fail
   go_ret
   exact ⟨ret_bool (entryB_not hno),below_two _ _ _⟩
  | true =>
   by_cases h2:e.f2.size≤40
   ·by_cases h3:2≤e.f3.length
    ·have h4:¬ (e.f3.length≤60):=fun q=>h ⟨h2,h3,q⟩
     go_wp2_with fail
     go_ret
     exact ⟨ret_bool (entryB_not hno),below_two _ _ _⟩
    ·have h3':(e.f3.length:Int) < 2:=by omega
     go_wp2_with fail
     go_ret
     exact ⟨ret_bool (entryB_not hno),below_two _ _ _⟩
   ·have h2':40 < (e.f2.size:Int):=by omega
    go_wp2_with fail
    go_ret
    exact ⟨ret_bool (entryB_not hno),below_two _ _ _⟩
set_option maxHeartbeats 8000000 in
set_option maxRecDepth 100000 in
theorem impl_entryIn.to (A0:Option Addr) (c0:Nat) (l0:List Acc) (dims curs:Int) (e:Ent) (A3:Option Addr) (c3:Nat) (w:World) (hr0:Kd.C k48 w A0 l0.length l0) (hr3:Kd.C k67 w A3 e.f3.length e.f3)
 (hd:1≤dims∧dims≤20) (hc:1≤curs∧curs≤20) (hs:e.f2.size≤maxLen) :
 Calls Tryz.prog 41 #[.agg #[.slice A0 l0.length c0,.int .i64 dims,.int .i64 curs],.agg #[.int .i64 e.f0,.int .i64 e.f1,.string e.f2,.slice A3 e.f3.length c3]] w fun x w'=>x = .returned (.bool (entryB l0 dims curs e))∧Below w.heap.size w w':=by
 have hn:(e.f3.length:Int)≤9223372036854775807:=by have:=hr3.2.1;omega
 have H0:=Aside0.mk hr0;have H3:=Aside0.mk hr3;clear hr0 hr3;obtain ⟨hd0,hd1⟩:=hd;obtain ⟨hc0,hc1⟩:=hc;by_cases h2:e.f2.size≤40
 case neg=>exact impl_entryIn.short A0 c0 l0 dims curs e A3 c3 w hs hn (fun q=>h2 q.1)
 by_cases h3:2≤e.f3.length
 case neg=>exact impl_entryIn.short A0 c0 l0 dims curs e A3 c3 w hs hn (fun q=>h3 q.2.1)
 by_cases h4:e.f3.length≤60
 case neg=>exact impl_entryIn.short A0 c0 l0 dims curs e A3 c3 w hs hn (fun q=>h4 q.2.2)
 go_enter Tryz.func41,Tryz.ntmps41
 go_wp2_with fail
 refine (impl_isDay.to e.f0 _).mono ?_;rintro x w' ⟨rfl,rfl⟩;cases hday:inB e.f0 0 40000 with
 | false =>
  go_wp2_with fail
  go_ret
  exact ⟨ret_bool (entryB_not (fun q=>inB_false.1 hday q.1)),below_two _ _ _⟩
 | true =>
  go_wp2_with fail
  refine (impl_between.to e.f1 _ _ _).mono ?_;rintro x w' ⟨rfl,rfl⟩;cases href:inB e.f1 0 1000 with
  | false =>
   go_wp2_with fail
   go_ret
   exact ⟨ret_bool (entryB_not (fun q=>inB_false.1 href q.2.1)),below_two _ _ _⟩
  | true =>
   have HDAY:=Aside0.mk (inB_true.1 hday);have HREF:=Aside0.mk (inB_true.1 href);clear hday href
   go_wp2_with fail
   go_loop [5] (fun v=>∃ i:Int,0≤i∧i≤(e.f2.size:Int)∧v = .int .i64 i∧Aside0 (textUpto e.f2 i)) (fun v=>(e.f2.size - (intOf v).toNat))
   case atStart=>exact ⟨0,by omega,by omega,rfl,⟨fun j h0 h1=>by omega⟩⟩
   case round =>
    obtain ⟨i,hi0,hi1,rfl,HT⟩:=hrel;by_cases hlt:i < (e.f2.size:Int)
    ·have hx:=bt_at e.f2 i;by_cases hb:32≤bt e.f2 i
     ·have HB:=Aside0.mk (textUpto_step hi0 HT.out hb)
      go_wp2_with fail
      go_round
      case rel=>exact ⟨i+1,by omega,by omega,rfl,HB⟩
      case measure=>simp [intOf];omega
     ·have HB:=Aside0.mk (entryB_not (chart:=l0) (dims:=dims) (curs:=curs) (fun q=>hb (q.2.2.2.2.1 i hi0 hlt)))
      go_wp2_with fail
      go_ret
      exact ⟨ret_bool HB.out,below_two _ _ _⟩
    ·have HTX:=Aside0.mk (show textUpto e.f2 e.f2.size from fun j h0 h1=>HT.out j h0 (by omega));clear HT;have HI:=Aside0.mk (ent_start l0 dims curs c0 A0 e A3 c3 w);have hmm:=@run_makeMap Tryz.prog
     go_wp2_with fail
     go_loopw [55] (fun v wr=>∃ i:Int,0≤i∧i≤(e.f3.length:Int)∧v = .int .i64 i∧Aside0 (EntInv l0 dims curs c0 A0 e A3 c3 w wr i)) (fun v _=>(e.f3.length - (intOf v).toNat))
     case atStart=>exact ⟨0,by omega,by omega,rfl,HI⟩
     case round =>
      clear HI;obtain ⟨j,hj0,hj1,rfl,HI⟩:=hrel;by_cases hlt:j < (e.f3.length:Int)
      ·obtain ⟨ad,e0,x0,x1,x2,x3,x4⟩:=at_T67 (Kd.C_below H3.out HI.out.bel) j hj0 hlt;cases e0;have hsz:w.heap.size < wr.heap.size:=blk_lt HI.out.fr;have hsz1:w.heap.size+1 < wr.heap.size:=blk_lt HI.out.en;have f0:=y00 HI.out.fr 0;have f1:=y00 HI.out.fr 1;have f2:=y00 HI.out.fr 2;have HC:=Aside0.mk (Kd.C_below H0.out (below_alloc HI.out.bel (.cells #[.int .i64 (rd_T67 e.f3 j).f0,.int .i64 (rd_T67 e.f3 j).f1,.int .i64 (rd_T67 e.f3 j).f2,.int .i64 (rd_T67 e.f3 j).f3,.int .i64 (rd_T67 e.f3 j).f4] 67)));have HBX:=Aside0.mk (below_alloc HI.out.bel (.cells #[.int .i64 (rd_T67 e.f3 j).f0,.int .i64 (rd_T67 e.f3 j).f1,.int .i64 (rd_T67 e.f3 j).f2,.int .i64 (rd_T67 e.f3 j).f3,.int .i64 (rd_T67 e.f3 j).f4] 67));have HNO:=Aside0.mk (fun (q:entryP l0 dims curs e)=>all_at (z:=z67) (p:=lineP l0 dims curs) hj0 hlt q.2.2.2.2.2.1)
       go_wp2_with fail
       refine (impl_leafAt.to A0 c0 l0 _ _ HC.out).mono ?_;rintro x w' ⟨rfl,rfl⟩;cases hlf:leafB l0 (rd_T67 e.f3 j).f0 with
       | false =>
        go_wp2_with fail
        go_ret
        exact ⟨ret_bool (entryB_not (fun q=>absurd (leafB_of (HNO.out q).1) (by rw [show leafB l0 (e.f3.getD j.toNat z67).f0=false from hlf];simp))),HBX.out⟩
       | true =>
        have HLF:=Aside0.mk (leafB_true.1 hlf);clear hlf
        go_wp2_with fail
        refine (impl_between.to _ _ _ _).mono ?_;rintro x w' ⟨rfl,rfl⟩;cases hdm:inB (rd_T67 e.f3 j).f1 0 (dims - 1) with
        | false =>
         go_wp2_with fail
         go_ret
         exact ⟨ret_bool (entryB_not (fun q=>inB_false.1 hdm (HNO.out q).2.1)),HBX.out⟩
        | true =>
         have HDM:=Aside0.mk (inB_true.1 hdm);clear hdm
         go_wp2_with fail
         refine (impl_between.to _ _ _ _).mono ?_;rintro x w' ⟨rfl,rfl⟩;cases hcr:inB (rd_T67 e.f3 j).f2 0 (curs - 1) with
         | false =>
          go_wp2_with fail
          go_ret
          exact ⟨ret_bool (entryB_not (fun q=>inB_false.1 hcr (HNO.out q).2.2.1)),HBX.out⟩
         | true =>
          have HCR:=Aside0.mk (inB_true.1 hcr);clear hcr
          go_wp2_with fail
          refine (impl_amount.to _ _).mono ?_;rintro x w' ⟨rfl,rfl⟩;cases ham:inB (rd_T67 e.f3 j).f3 (-100000000000) 100000000000 with
          | false =>
           go_wp2_with fail
           go_ret
           exact ⟨ret_bool (entryB_not (fun q=>inB_false.1 ham (HNO.out q).2.2.2.1)),HBX.out⟩
          | true =>
           have HAM:=Aside0.mk (inB_true.1 ham);clear ham
           go_wp2_with fail
           refine (impl_amount.to _ _).mono ?_;rintro x w' ⟨rfl,rfl⟩;cases hbs:inB (rd_T67 e.f3 j).f4 (-100000000000) 100000000000 with
           | false =>
            go_wp2_with fail
            go_ret
            exact ⟨ret_bool (entryB_not (fun q=>inB_false.1 hbs (HNO.out q).2.2.2.2.1)),HBX.out⟩
           | true =>
            have HBS:=Aside0.mk (inB_true.1 hbs);clear hbs
            have hway:(rd_T67 e.f3 j).f2=0∧(rd_T67 e.f3 j).f3≠(rd_T67 e.f3 j).f4∨((rd_T67 e.f3 j).f2 == 0)=false∧Aside0 (lineP l0 dims curs (rd_T67 e.f3 j))∨(((rd_T67 e.f3 j).f2 == 0)=true∧((rd_T67 e.f3 j).f3 != (rd_T67 e.f3 j).f4)=false)∧Aside0 (lineP l0 dims curs (rd_T67 e.f3 j)):=by
             by_cases q:(rd_T67 e.f3 j).f2=0
             ·by_cases q2:(rd_T67 e.f3 j).f3=(rd_T67 e.f3 j).f4
              ·exact Or.inr (Or.inr ⟨⟨beq_iff_eq.2 q,by rw [q2];exact bne_self_eq_false' _⟩,⟨HLF.out,HDM.out,HCR.out,HAM.out,HBS.out,fun _=>q2⟩⟩)
              ·exact Or.inl ⟨q,q2⟩
             ·exact Or.inr (Or.inl ⟨beq_eq_false_iff_ne.2 q,⟨HLF.out,HDM.out,HCR.out,HAM.out,HBS.out,fun q'=>absurd q' q⟩⟩)
            rcases hway with ⟨q1,q2⟩ | ⟨p1,HX⟩ | ⟨⟨p1,p2⟩,HX⟩
            ·have HN2:=Aside0.mk (show ¬ entryP l0 dims curs e from fun q=>q2 ((HNO.out q).2.2.2.2.2 q1));have p1:((rd_T67 e.f3 j).f2 == 0)=true:=beq_iff_eq.2 q1;have p2:((rd_T67 e.f3 j).f3 != (rd_T67 e.f3 j).f4)=true:=bne_iff_ne.2 q2;clear q1 q2
             go_wp2_with fail
             go_ret
             exact ⟨ret_bool (entryB_not HN2.out),HBX.out⟩
            all_goals (
             obtain ⟨c,d,st1,st2,W1,W3,W4,W6,v1,v2,⟨hc0',hc1'⟩,⟨hd0',hd1'⟩,a1,a2,a3,a4,b1,b2,b3,b4,n1,n3,n4,HN⟩:=ent_round HI.out hj0 hlt HX.out rfl h4 hd1 hc1;have HN:=Aside0.mk HN;have m2:=y00 n1 2;have m3:=y00 n1 3;have r1:=y00 n3 1;have r4:=y00 n3 4;have s1:=y00 n4 1;have s4:=y00 n4 4;obtain ⟨hx1,hx2⟩:=HAM.out;obtain ⟨hy1,hy2⟩:=HBS.out;clear n1 n3 n4 HX HI HNO HLF HDM HCR HC H0 H3;unfold lineO at a1 a2
             go_wp2_with fail
             go_region
             go_wp2_with fail
             go_region
             go_wp2_with fail
             go_roundw
             case rel=>exact ⟨j+1,by omega,by omega,rfl,HN⟩
             case measure=>simp [intOf];omega)
      ·obtain ⟨em,eok,ebel⟩:HMap.MapIs Tryz.prog 118 3 pairK wr (w.heap.size+1+1) (2 * j.toNat) (sumsOf e.f3)∧(∀ x∈e.f3,lineP l0 dims curs x)∧Below w.heap.size w wr:=by
        have hm:=HI.out.map;have ho:=HI.out.ok;rw [List.take_of_length_le (by omega)] at hm ho;exact ⟨hm,ho,HI.out.bel⟩
       have HOK:=Aside0.mk eok;have HB:=Aside0.mk ebel;have hgm:w.heap.size+1+1 < wr.heap.size:=em.lt;clear HI eok ebel
       go_wp2_with (at_range;refine HMap.wpList_range_seeks (K:=pairK) (kt:=118) (et:=3) (b:=w.heap.size+1+1) (n:=2 * j.toNat) (f:=sumsOf e.f3) rfl _ rfl Tryz.underlying117 rfl em ?_;intro w0 cnt0 hrg0 hg0 hs0)
       clear em;have HB0:=Aside0.mk (Below.grown HB.out hg0 HB.out.size (fun i hi=>by cases hi));clear HB hg0
       go_loopw [10] (fun _ ws=>∃ (left:Int × Int→Prop) (cnt:Nat),HMap.Seeks Tryz.prog 118 3 pairK ws (w.heap.size+1+1) wr.heap.size (2 * j.toNat) (sumsOf e.f3) left cnt∧Aside0 (Below w.heap.size w ws)∧Aside0 (SeenZero (sumsOf e.f3) left)) (fun _ ws=>ws.rangeLeft (w.heap.size+1+1) wr.heap.size)
       case atStart=>exact ⟨_,cnt0,hrg0,HB0,⟨seen_start _⟩⟩
       case round =>
        clear hrg0 HB0;obtain ⟨left,cnt,hsk,HBW,HZ⟩:=hrel
        go_wp2_with (at_next;refine HMap.wpList_next_seeks (K:=pairK) (et:=3) (b:=w.heap.size+1+1) rfl _ rfl Tryz.underlying3 rfl hsk ?_ ?_)
        ·intro hall;have HE:=Aside0.mk (show entryP l0 dims curs e from ⟨HDAY.out,HREF.out,h2,⟨h3,h4⟩,HTX.out,HOK.out,seen_end HOK.out hd1 hc1 HZ.out (fun p hp=>hall p.1 p.2 hp)⟩);clear hall hsk
         go_wp2_with fail
         go_ret
         exact ⟨ret_bool (entryB_true.2 HE.out).symm,HBW.out⟩
        ·intro xa xb c ws1 cnt1 hxk hlx hfx hsk1 hlt1 hg1 hs1 hen;have HB1:=Aside0.mk (Below.grown HBW.out hg1 HBW.out.size (fun i hi=>by cases hi;omega));have hm0:=hsk.left_eq;by_cases hz:c=0
         ·subst hz;have HZ1:=Aside0.mk (seen_step HZ.out hfx rfl);clear hsk hxk hlx hfx HZ HBW hg1 hs1
          go_wp2_with fail
          go_roundw
          case rel=>exact ⟨_,cnt1,hsk1,HB1,HZ1⟩
          case measure=>rw [hsk1.left_eq,hm0];omega
         ·have HN:=Aside0.mk (show ¬ entryP l0 dims curs e from fun q=>hz (sums_zero.2 q.2.2.2.2.2.2 (xa,xb) c hfx));have hzb:(c != 0)=true:=bne_iff_ne.2 hz;clear hsk hxk hlx hfx HZ hg1 hs1 hz
          go_wp2_with fail
          go_ret
          exact ⟨ret_bool (entryB_not HN.out),HB1.out⟩
open Classical in
noncomputable def impl_entryIn.f (l0:List Acc) (dims curs:Int) (a0 a1:Int) (a2:ByteArray) (l3:List Lin):Option Bool:=if (1≤dims∧dims≤20)∧(1≤curs∧curs≤20)∧a2.size≤maxLen then some (entryB l0 dims curs ⟨a0,a1,a2,l3⟩) else none
theorem impl_entryIn.calls (A0:Option Addr) (c0:Nat) (l0:List Acc) (dims curs:Int) (a0 a1:Int) (a2:ByteArray) (A3:Option Addr) (c3:Nat) (l3:List Lin) (r:Bool) (w:World) (hr0:Kd.C k48 w A0 l0.length l0) (hc0:l0.length≤c0) (hr3:Kd.C k67 w A3 l3.length l3) (hc3:l3.length≤c3) (hf:impl_entryIn.f l0 dims curs a0 a1 a2 l3=some r) :
 Calls Tryz.prog 41 #[.agg #[.slice A0 l0.length c0,.int .i64 dims,.int .i64 curs],.agg #[.int .i64 a0,.int .i64 a1,.string a2,.slice A3 l3.length c3]] w fun x w'=>x = .returned (.bool r)∧Below w.heap.size w w':=by
 unfold impl_entryIn.f at hf
 split at hf
 ·rename_i q
  cases hf;exact impl_entryIn.to A0 c0 l0 dims curs ⟨a0,a1,a2,l3⟩ A3 c3 w hr0 hr3 q.1 q.2.1 q.2.2
 ·cases hf
set_option maxHeartbeats 4000000 in
set_option maxRecDepth 100000 in
theorem spec_FrameOk.to (A0:Option Addr) (c0:Nat) (l0:List Acc) (dims curs:Int) (w:World) (hr0:Kd.C k48 w A0 l0.length l0) (hs:∀ x∈l0,x.f0.size≤maxLen) :
 Calls Tryz.prog 54 #[.agg #[.slice A0 l0.length c0,.int .i64 dims,.int .i64 curs]] w fun e w'=>e = .returned (.bool (frameB l0 dims curs))∧Below w.heap.size w w':=by
 have H0:=Aside0.mk hr0;clear hr0;unfold frameB
 go_enter Tryz.func54,Tryz.ntmps54
 go_wp2_with fail
 refine (spec_ChartOk.to A0 c0 l0 _ (Kd.C_below H0.out (below_alloc (Below.refl _ _) _)) hs).mono ?_;rintro e w1 ⟨rfl,hb⟩;have HB:=Aside0.mk (below_into (w:=w) hb (below_alloc (Below.refl _ _) _));have s0:w1.cell? ⟨w.heap.size,0,none⟩=some (.slice A0 l0.length c0):=y01 hb (by go_simp);have s1:w1.cell? ⟨w.heap.size,1,none⟩=some (.int .i64 dims):=y01 hb (by go_simp);have s2:w1.cell? ⟨w.heap.size,2,none⟩=some (.int .i64 curs):=y01 hb (by go_simp);clear hb;cases hch:chartOk l0 with
 | false =>
  go_wp2_with fail
  go_ret
  exact ⟨ret_bool (by simp [hch]),HB.out⟩
 | true =>
  go_wp2_with fail
  refine (spec_l1In.to dims _ _ _).mono ?_;rintro e w6 ⟨rfl,rfl⟩;cases hinB:inB dims 1 20 with
  | false =>
   go_wp2_with fail
   go_ret
   exact ⟨ret_bool (by simp [hch,hinB]),HB.out⟩
  | true =>
   go_wp2_with fail
   refine (spec_l1In.to curs _ _ _).mono ?_;rintro e w7 ⟨rfl,rfl⟩;cases hinC:inB curs 1 20 with
   | false =>
    go_wp2_with fail
    go_ret
    exact ⟨ret_bool (by simp [hch,hinB,hinC]),HB.out⟩
   | true =>
    go_wp2_with fail
    go_ret
    exact ⟨ret_bool (by simp [hch,hinB,hinC]),HB.out⟩
set_option maxRecDepth 100000 in
theorem impl_ChartOk.to (A0:Option Addr) (c0:Nat) (l0:List Acc) (w:World) (hr0:Kd.C k48 w A0 l0.length l0) (hs:∀ x∈l0,x.f0.size≤maxLen) :
 Calls Tryz.prog 77 #[.slice A0 l0.length c0] w fun e w'=>e = .returned (.bool (chartOk l0))∧Below w.heap.size w w':=by
 go_enter Tryz.func77,Tryz.ntmps77
 go_wp2_with fail
 refine (impl_depths.to A0 c0 l0 _ hr0 hs).mono ?_;rintro e w1 ⟨v,rfl,hb⟩
 go_wp2_with fail
 go_ret
 exact ⟨rfl,hb⟩
structure S106 where
 f0:Int
 f1:Int
def z106:S106:=⟨(0:Int),(0:Int)⟩
def k106:Kd S106:=Kd.iso (Kd.pair (Kd.int .i64) (Kd.int .i64)) (fun x:S106=>(x.f0,x.f1))
theorem k106_open {w:World} {x:S106} {cs:List Value} (h:k106.K w x cs):cs=[.int .i64 x.f0,.int .i64 x.f1]:=by
 obtain ⟨_,_,rfl,rfl,rfl⟩:=h;exact rfl
theorem k106_openM {w:World} {base:Nat} {ok:Nat→Prop} {x:S106} {cs:List Value} (h:k106.M w base ok x cs):cs=[.int .i64 x.f0,.int .i64 x.f1]:=by
 obtain ⟨_,_,rfl,rfl,rfl⟩:=h;exact rfl
theorem k106_mkM (w:World) (base:Nat) (ok:Nat→Prop) (x:S106) :k106.M w base ok x [.int .i64 x.f0,.int .i64 x.f1]:=⟨[.int .i64 x.f0],[.int .i64 x.f1],rfl,rfl,rfl⟩
def rd_T106 (xs:List S106) (i:Int):S106:=xs.getD i.toNat z106
abbrev Cut:=S106
def mergeC:List Cut→List Cut→List Cut
 | [],r=>r
 | a :: l,[]=>a :: l
 | a :: l,b :: r=>if b.f1 > a.f1 then b :: mergeC (a :: l) r else a :: mergeC l (b :: r)
def msortC:Nat→List Cut→List Cut
 | 0,l=>l
 | n+1,l=>if l.length < 2 then l else mergeC (msortC n (l.take (l.length / 2))) (msortC n (l.drop (l.length / 2)))
def bef (a b:Cut):Prop:=b.f1 < a.f1∨(a.f1=b.f1∧a.f0 < b.f0)
theorem mergeC_nil (l:List Cut):mergeC l []=l:=by cases l <;> simp [mergeC]
theorem mergeC_perm:∀ l r:List Cut,(mergeC l r).Perm (l++r)
 | [],r=>by simp [mergeC]
 | a :: l,[]=>by simp [mergeC]
 | a :: l,b :: r=>by
  unfold mergeC
  split
  ·exact ((mergeC_perm (a :: l) r).cons b).trans (List.perm_middle.symm)
  ·exact (mergeC_perm l (b :: r)).cons a
 termination_by l r=>l.length+r.length
theorem mergeC_sorted:∀ l r:List Cut,l.Pairwise bef→r.Pairwise bef→(∀ a∈l,∀ b∈r,a.f0 < b.f0)→(mergeC l r).Pairwise bef
 | [],r,_,h,_=>by simpa [mergeC] using h
 | a :: l,[],h,_,_=>by simpa [mergeC] using h
 | a :: l,b :: r,h1,h2,h3=>by
  have g1:=List.pairwise_cons.1 h1;have g2:=List.pairwise_cons.1 h2;unfold mergeC
  split
  ·rename_i hlt
   refine List.pairwise_cons.2 ⟨fun x hx=>?_,mergeC_sorted (a :: l) r h1 g2.2 (fun x hx y hy=>h3 x hx y (List.mem_cons_of_mem _ hy))⟩;rcases List.mem_append.1 ((mergeC_perm (a :: l) r).mem_iff.1 hx) with hx | hx
   ·rcases List.mem_cons.1 hx with rfl | hx
    ·exact .inl hlt
    ·have:=g1.1 x hx;unfold bef at this ⊢;omega
   ·exact g2.1 x hx
  ·rename_i hlt
   refine List.pairwise_cons.2 ⟨fun x hx=>?_,mergeC_sorted l (b :: r) g1.2 h2 (fun x hx y hy=>h3 x (List.mem_cons_of_mem _ hx) y hy)⟩;rcases List.mem_append.1 ((mergeC_perm l (b :: r)).mem_iff.1 hx) with hx | hx
   ·exact g1.1 x hx
   ·have h4:=h3 a List.mem_cons_self x hx;rcases List.mem_cons.1 hx with rfl | hx
    ·unfold bef;omega
    ·have:=g2.1 x hx;unfold bef at this ⊢;omega
 termination_by l r=>l.length+r.length
theorem msortC_perm:∀ (n:Nat) (l:List Cut),(msortC n l).Perm l
 | 0,l=>List.Perm.refl _
 | n+1,l=>by
  unfold msortC
  split
  ·exact List.Perm.refl _
  ·refine (mergeC_perm _ _).trans (((msortC_perm n _).append (msortC_perm n _)).trans ?_);rw [List.take_append_drop]
theorem msortC_sorted:∀ (n:Nat) (l:List Cut),l.length≤n+1→l.Pairwise (fun a b=>a.f0 < b.f0)→(msortC n l).Pairwise bef
 | 0,l,h,_=>by
  match l,h with
  | [],_=>exact List.Pairwise.nil
  | [a],_=>exact List.pairwise_singleton _ _
 | n+1,l,h,hs=>by
  unfold msortC
  split
  ·rename_i h2
   match l,h2 with
   | [],_=>exact List.Pairwise.nil
   | [a],_=>exact List.pairwise_singleton _ _
  ·have hsplit:=hs;rw [← List.take_append_drop (l.length / 2) l] at hsplit;obtain ⟨p1,p2,p3⟩:=List.pairwise_append.1 hsplit;refine mergeC_sorted _ _ (msortC_sorted n _ ?_ p1) (msortC_sorted n _ ?_ p2) (fun a ha b hb=>p3 a ((msortC_perm n _).mem_iff.1 ha) b ((msortC_perm n _).mem_iff.1 hb))
   ·rw [List.length_take];omega
   ·rw [List.length_drop];omega
def firstMax (xs:List Int) (b:Int):Prop:=0≤b∧b < (xs.length:Int)∧∀ i:Int,0≤i→i < (xs.length:Int)→rd xs i≤rd xs b∧(i < b→rd xs i < rd xs b)
theorem firstMax_one {xs:List Int} {a b:Int} (ha:firstMax xs a) (hb:firstMax xs b):a=b:=by
 obtain ⟨a0,a1,a2⟩:=ha;obtain ⟨b0,b1,b2⟩:=hb;have h1:=a2 b b0 b1;have h2:=b2 a a0 a1;by_cases h:a < b
 ·have:=h2.2 h;omega
 ·by_cases h':b < a
  ·have:=h1.2 h';omega
  ·omega
def picks:List Int→List Cut→Prop
 | _,[]=>True
 | xs,c :: cs=>firstMax xs c.f0∧picks (xs.set c.f0.toNat (-1)) cs
def giveC (one:Int):List Int→List Cut→List Int
 | out,[]=>out
 | out,c :: cs=>giveC one (out.set c.f0.toNat (wrap64 (rd out c.f0+one))) cs
theorem giveC_len (one:Int):∀ (cs:List Cut) (out:List Int),(giveC one out cs).length=out.length
 | [],out=>rfl
 | c :: cs,out=>by unfold giveC;rw [giveC_len one cs,List.length_set]
theorem rd_set {xs:List Int} {i j:Int} {v:Int} (hi:0≤i) (hj:0≤j) (h:j < (xs.length:Int)):rd (xs.set i.toNat v) j=if i=j then v else rd xs j:=by
 unfold rd;rw [List.getD_eq_getElem?_getD,List.getD_eq_getElem?_getD,List.getElem?_set];by_cases e:i=j
 ·subst e;rw [if_pos rfl,if_pos rfl,if_pos (by omega)];rfl
 ·rw [if_neg (by omega),if_neg e]
theorem picks_of:∀ (cs:List Cut) (xs:List Int) (m:Nat),cs.Pairwise bef→(cs.map (·.f0)).Nodup→(∀ c∈cs,0≤c.f0∧c.f0 < (xs.length:Int)∧rd xs c.f0=c.f1∧0≤c.f1)→(∀ i:Int,0≤i→i < (xs.length:Int)→(∃ c∈cs,c.f0=i)∨rd xs i = -1)→picks xs (cs.take m)
 | [],xs,m,_,_,_,_=>by simp [picks]
 | c :: cs,xs,0,_,_,_,_=>by simp [picks]
 | c :: cs,xs,m+1,h1,h2,h3,h4=>by
  have g1:=List.pairwise_cons.1 h1;rw [List.map_cons,List.nodup_cons] at h2;obtain ⟨c0,c1,c2,c3⟩:=h3 c List.mem_cons_self;have hne:∀ e∈cs,e.f0≠c.f0:=fun e he q=>h2.1 (q ▸ List.mem_map.2 ⟨e,he,rfl⟩)
  rw [List.take_succ_cons];unfold picks;refine ⟨⟨c0,c1,fun i i0 i1=>?_⟩,picks_of cs _ m g1.2 h2.2 (fun e he=>?_) (fun i i0 i1=>?_)⟩
  ·rw [c2];rcases h4 i i0 i1 with ⟨e,he,rfl⟩ | h5
   ·rcases List.mem_cons.1 he with rfl | he
    ·rw [c2];exact ⟨Int.le_refl _,fun q=>absurd q (by omega)⟩
    ·rw [(h3 e (List.mem_cons_of_mem _ he)).2.2.1];have:=g1.1 e he;unfold bef at this;omega
   ·rw [h5];omega
  ·obtain ⟨e0,e1,e2,e3⟩:=h3 e (List.mem_cons_of_mem _ he);refine ⟨e0,by rw [List.length_set];exact e1,?_,e3⟩;rw [rd_set c0 e0 e1,if_neg (fun q=>hne e he q.symm),e2]
  ·rw [List.length_set] at i1;rw [rd_set c0 i0 i1];by_cases q:c.f0=i
   ·exact .inr (by rw [if_pos q])
   ·rw [if_neg q];rcases h4 i i0 i1 with ⟨e,he,rfl⟩ | h5
    ·rcases List.mem_cons.1 he with rfl | he
     ·exact absurd rfl q
     ·exact .inl ⟨e,he,rfl⟩
    ·exact .inr h5
def absI (x:Int):Int:=if x < 0 then -x else x
def quoS (t all:Int) (ws:List Int):List Int:=ws.map (fun x=>Int.tdiv (t * x) all)
def rstS (t all:Int) (ws:List Int):List Int:=ws.map (fun x=>absI (Int.tmod (t * x) all))
def sumS:List Int→Int
 | []=>0
 | x :: l=>x+sumS l
theorem sumS_app (l m:List Int):sumS (l++m)=sumS l+sumS m:=by
 induction l with
 | nil=>simp [sumS]
 | cons x l ih=>simp only [List.cons_append,sumS,ih];omega
theorem sh_split (t all:Int) (ws:List Int):all * sumS (quoS t all ws)+sumS (ws.map (fun x=>Int.tmod (t * x) all))=t * sumS ws:=by
 induction ws with
 | nil=>simp [quoS,sumS]
 | cons x l ih =>
  have h:=Int.mul_tdiv_add_tmod (t * x) all;simp only [quoS,List.map_cons,sumS,Int.mul_add] at ih ⊢;omega
theorem absI_lt {x b:Int} (hb:0 < b):0≤absI (Int.tmod x b)∧absI (Int.tmod x b) < b:=by
 have h1:=Int.tmod_lt_of_pos x hb
 have h2:-b < Int.tmod x b:=by
  have:=Int.tmod_lt_of_pos (-x) hb;rw [Int.neg_tmod] at this;omega
 unfold absI
 split <;> omega
theorem rst_pos {t all:Int} (ht:0≤t) (ws:List Int) (hw:∀ x∈ws,0≤x):sumS (ws.map (fun x=>Int.tmod (t * x) all))=sumS (rstS t all ws):=by
 induction ws with
 | nil=>rfl
 | cons x l ih =>
  have h:=Int.tmod_nonneg (a:=t * x) all (Int.mul_nonneg ht (hw x List.mem_cons_self));simp only [rstS,List.map_cons,sumS] at ih ⊢;rw [ih (fun y hy=>hw y (List.mem_cons_of_mem _ hy))];unfold absI;rw [if_neg (by omega)]
theorem rst_neg {t all:Int} (ht:t≤0) (ws:List Int) (hw:∀ x∈ws,0≤x):sumS (ws.map (fun x=>Int.tmod (t * x) all)) = - sumS (rstS t all ws):=by
 induction ws with
 | nil=>rfl
 | cons x l ih =>
  have h:=Int.tmod_nonneg (a:=(-t) * x) all (Int.mul_nonneg (by omega) (hw x List.mem_cons_self));rw [Int.neg_mul,Int.neg_tmod] at h;simp only [rstS,List.map_cons,sumS] at ih ⊢;rw [ih (fun y hy=>hw y (List.mem_cons_of_mem _ hy))];unfold absI
  split <;> omega
theorem rst_sum {t all:Int} (ha:0 < all) (ws:List Int):0≤sumS (rstS t all ws)∧sumS (rstS t all ws)≤(all - 1) * (ws.length:Int):=by
 induction ws with
 | nil=>simp [rstS,sumS]
 | cons x l ih =>
  have h:=absI_lt (x:=t * x) ha;simp only [rstS,List.map_cons,sumS,List.length_cons] at ih ⊢
  push_cast
  rw [Int.mul_add,Int.mul_one];omega
theorem left_few {t:Int} {ws:List Int} (hw:∀ x∈ws,0≤x) (ha:0 < sumS ws) :
 (0≤t→0≤t - sumS (quoS t (sumS ws) ws))∧(t≤0→t - sumS (quoS t (sumS ws) ws)≤0)∧(t - sumS (quoS t (sumS ws) ws)).natAbs < ws.length:=by
 have h0:=sh_split t (sumS ws) ws;have h1:=rst_sum (t:=t) ha ws
 have hlen:0 < ws.length:=by
  match ws,ha with
  | [],ha=>simp [sumS] at ha
  | x :: l,_=>simp
 generalize hq:sumS (quoS t (sumS ws) ws)=q at *;generalize hr:sumS (rstS t (sumS ws) ws)=r at *
 have hpos:0≤t→sumS ws * (t - q)=r:=fun ht=>by
  rw [rst_pos ht ws hw,hr] at h0;rw [Int.mul_sub,Int.mul_comm (sumS ws) t];omega
 have hneg:t≤0→sumS ws * (q - t)=r:=fun ht=>by
  rw [rst_neg ht ws hw,hr] at h0;rw [Int.mul_sub,Int.mul_comm (sumS ws) t];omega
 have hup:∀ z:Int,sumS ws * z=r→0≤z∧z < (ws.length:Int):=fun z hz=>by
  constructor
  ·by_cases q:0≤z
   ·exact q
   ·exfalso
    have:sumS ws * z < 0:=Int.mul_neg_of_pos_of_neg ha (by omega);omega
  ·by_cases q:z < (ws.length:Int)
   ·exact q
   ·exfalso
    have h2:sumS ws * (ws.length:Int)≤sumS ws * z:=Int.mul_le_mul_of_nonneg_left (by omega) (by omega);have h3:(sumS ws - 1) * (ws.length:Int)=sumS ws * (ws.length:Int) - (ws.length:Int):=by rw [Int.sub_mul,Int.one_mul]
    omega
 refine ⟨fun ht=>(hup _ (hpos ht)).1,fun ht=>by have:=(hup _ (hneg ht)).1;omega,?_⟩;by_cases ht:0≤t
 ·have:=hup _ (hpos ht);omega
 ·have:=hup _ (hneg (by omega));omega
def cutsOf (rs:List Int):List Cut:=(List.range rs.length).map (fun i:Nat=>⟨(i:Int),rd rs (i:Int)⟩)
def oneS (x:Int):Int:=if x < 0 then -1 else 1
noncomputable def sharesR (t:Int) (ws:List Int):List Int:=open Classical in
 if (-100000000000≤t∧t≤100000000000)∧ws.length≤200∧(∀ x∈ws,0≤x∧x≤10000000)∧sumS ws≠0 then
  giveC (oneS (t - sumS (quoS t (sumS ws) ws))) (quoS t (sumS ws) ws) ((msortC ws.length (cutsOf (rstS t (sumS ws) ws))).take (t - sumS (quoS t (sumS ws) ws)).natAbs)
 else []
theorem sumS_b {ws:List Int} (h:∀ x∈ws,0≤x∧x≤10000000):0≤sumS ws∧sumS ws≤10000000 * (ws.length:Int):=by
 induction ws with
 | nil=>simp [sumS]
 | cons x l ih =>
  have h1:=h x List.mem_cons_self;have h2:=ih (fun y hy=>h y (List.mem_cons_of_mem _ hy));simp only [sumS,List.length_cons]
  push_cast
  omega
theorem picks_rst {t:Int} {ws:List Int} (m:Nat) (ha:0 < sumS ws):picks (rstS t (sumS ws) ws) ((msortC ws.length (cutsOf (rstS t (sumS ws) ws))).take m):=by
 have hlen:(rstS t (sumS ws) ws).length=ws.length:=by unfold rstS;rw [List.length_map]
 generalize hrs:rstS t (sumS ws) ws=rs at *
 have hnn:∀ i:Int,0≤i→i < (rs.length:Int)→0≤rd rs i:=fun i i0 i1=>by
  have hi:i.toNat < ws.length:=by omega
  unfold rd;rw [List.getD_eq_getElem?_getD,List.getElem?_eq_getElem (by omega)];simp only [Option.getD_some];subst hrs;unfold rstS;rw [List.getElem_map];exact (absI_lt ha).1
 have hp:=msortC_perm ws.length (cutsOf rs);have hcl:(cutsOf rs).length=ws.length:=by unfold cutsOf;rw [List.length_map,List.length_range,hlen]
 have hmem:∀ c∈cutsOf rs,0≤c.f0∧c.f0 < (rs.length:Int)∧rd rs c.f0=c.f1:=fun c hc=>by
  unfold cutsOf at hc;obtain ⟨i,hi,rfl⟩:=List.mem_map.1 hc;have:=List.mem_range.1 hi;exact ⟨by show (0:Int)≤(i:Int);omega,by show (i:Int) < _;omega,rfl⟩
 refine picks_of _ rs m (msortC_sorted _ _ (by omega) ?_) ?_ (fun c hc=>?_) (fun i i0 i1=>?_)
 ·unfold cutsOf;rw [List.pairwise_map];refine List.pairwise_lt_range.imp ?_;intro a b hab;show (a:Int) < (b:Int);omega
 ·refine (hp.map (·.f0)).nodup_iff.2 ?_;unfold cutsOf;rw [List.map_map];refine List.pairwise_map.2 (List.nodup_range.imp ?_);intro a b hab q;have:(a:Int)=(b:Int):=q;omega
 ·have h:=hmem c (hp.mem_iff.1 hc);exact ⟨h.1,h.2.1,h.2.2,by rw [← h.2.2];exact hnn _ h.1 h.2.1⟩
 ·left
  refine ⟨⟨i,rd rs i⟩,hp.mem_iff.2 ?_,rfl⟩;unfold cutsOf;exact List.mem_map.2 ⟨i.toNat,List.mem_range.2 (by omega),by rw [show ((i.toNat:Nat):Int)=i by omega]⟩
def factP (x:Int):Prop:=0≤x∧x≤10000000
theorem mulB {t x:Int} (ht:-100000000000≤t∧t≤100000000000) (hx:factP x):-1000000000000000000≤t * x∧t * x≤1000000000000000000:=by
 have h1:t * x≤100000000000 * x:=Int.mul_le_mul_of_nonneg_right ht.2 hx.1;have h2:-100000000000 * x≤t * x:=Int.mul_le_mul_of_nonneg_right ht.1 hx.1;have h3:=hx.1;have h4:=hx.2;omega
theorem tdivB {a b:Int}:(Int.tdiv a b).natAbs≤a.natAbs:=by
 rw [Int.natAbs_tdiv];exact Nat.div_le_self _ _
theorem tmodB {a b:Int}:(Int.tmod a b).natAbs≤a.natAbs:=by
 rw [Int.natAbs_tmod];exact Nat.mod_le _ _
theorem wrap_sub (a b:Int):wrap64 (wrap64 a - b)=wrap64 (a - b):=by unfold wrap64;omega
theorem wrap_add (a b:Int):wrap64 (wrap64 a+b)=wrap64 (a+b):=by unfold wrap64;omega
theorem take_rd {l:List Int} {i:Int} (h0:0≤i) (h1:i < (l.length:Int)):l.take (i+1).toNat=l.take i.toNat++[rd l i]:=by
 rw [show (i+1).toNat=i.toNat+1 by omega,List.take_add_one,List.getElem?_eq_getElem (by omega)];unfold rd;rw [List.getD_eq_getElem?_getD,List.getElem?_eq_getElem (by omega)];rfl
theorem mem_rd {l:List Int} {i:Int} (h0:0≤i) (h1:i < (l.length:Int)):rd l i∈l:=mem_at (z:=(0:Int)) h0 h1
theorem info106:(Tryz.prog.info? 106).map (fun i=>(i.zero,i.size,i.bytes))=some (some (.agg #[(.int .i64 0),(.int .i64 0)]),2,16):=by kernel_rfl
theorem cut_less (a b:Cut) (w:World):Calls Tryz.prog 62 #[.agg #[.int .i64 a.f0,.int .i64 a.f1],.agg #[.int .i64 b.f0,.int .i64 b.f1]] w fun e w'=>e = .returned (.bool (decide (a.f1 > b.f1)))∧Below w.heap.size w w':=by
 go_enter Tryz.func62,Tryz.ntmps62
 go_wp2_with fail
 go_ret
 exact ⟨rfl,by repeat (first | exact Below.refl _ _ | apply below_alloc)⟩
theorem cut_rows_take {W:World} {A:Option Addr} {xs:List Cut} {m:Nat} (h:Kd.C k106 W A xs.length xs) (hm:m≤xs.length):ReadsRow (k106.K W) 2 W A m (xs.take m):=by
 have hl:(xs.take m).length=m:=by rw [List.length_take];omega
 have:=Kd.C_take h hm;rw [hl] at this;exact this
theorem cut_rows_drop {W:World} {A:Option Addr} {xs:List Cut} {m c:Nat} (h:Kd.C k106 W A xs.length xs) (hm:m≤xs.length) (hc:xs.length≤c):ReadsRow (k106.K W) 2 W (if c=m then A else A.map (·.add (m * 2))) (xs.length - m) (xs.drop m):=by
 have hl:(xs.drop m).length=xs.length - m:=List.length_drop;have:=Kd.C_drop h hm hc;rw [hl] at this;exact this
theorem cut_M {W W2:World} {b:Nat} {ok:Nat→Prop} {x:Cut} {cs:List Value} (h:k106.K W x cs):k106.M W2 b ok x cs:=by
 obtain rfl:=k106_open h;exact k106_mkM W2 b ok x
theorem cut_get {W:World} {base g n cap:Nat} {ok:Nat→Prop} {xs:List Cut} (h:Kd.R k106 106 W base ok (.slice (some ⟨g,0,none⟩) n cap) xs) (i:Int) (h0:0≤i) (h1:i < n) :
 W.cell? ⟨g,i.toNat * 2,none⟩=some (.int .i64 (rd_T106 xs i).f0)∧W.cell? ⟨g,i.toNat * 2+1,none⟩=some (.int .i64 (rd_T106 xs i).f1)∧W.frozen? ⟨g,i.toNat * 2,none⟩=false∧W.frozen? ⟨g,i.toNat * 2+1,none⟩=false:=by
 obtain ⟨c,hcl,hM,hcc,hfr⟩:=Kd.R_elem h z106 i h0 h1;obtain rfl:=k106_openM hM;exact ⟨hcc 0 _ rfl,hcc 1 _ rfl,hfr 0,hfr 1⟩
theorem cut_put {W:World} {base g n cap:Nat} {ok:Nat→Prop} {xs:List Cut} (h:Kd.R k106 106 W base ok (.slice (some ⟨g,0,none⟩) n cap) xs) (i:Int) (h0:0≤i) (h1:i < n) (x:Cut) :
 Kd.R k106 106 ((W.setCell ⟨g,i.toNat * 2,none⟩ (.int .i64 x.f0)).setCell ⟨g,i.toNat * 2+1,none⟩ (.int .i64 x.f1)) base ok (.slice (some ⟨g,0,none⟩) n cap) (xs.set i.toNat x):=by
 obtain ⟨c,hcl,hM,hcc,_⟩:=Kd.R_elem h z106 i h0 h1
 have:=(Kd.R_seg h i h0 h1 (c:=c) (seg:=[.int .i64 x.f0,.int .i64 x.f1]) (j:=0) (x':=x) (okp:=fun _=>False) hcl hcc (Nat.le_refl _) (by
  have hl:c.length=2:=hcl
  match c,hl with
  | [u,v],_=>exact k106_mkM _ _ _ x) (fun _ hk=>hk.elim)).1
 exact this
theorem grow_kept {w W:World} {g:Nat} (h:w.grownBy W (some g)):Kept w W (fun k=>k=g):=⟨h.size,fun i hi hn=>h.block i hi (fun e=>hn (by injection e))⟩
theorem grow_then {w W W2:World} {g g':Nat} (h:w.grownBy W (some g)) (k:W.grownBy W2 (some g')) (hg:w.heap.size≤g'):w.grownBy W2 (some g) :=
 ⟨k.os.trans h.os,k.tape.trans h.tape,k.output.trans h.output,Nat.le_trans h.size k.size,fun i hi hn=>(k.block i (Nat.lt_of_lt_of_le hi h.size) (fun e=>by injection e with e;omega)).trans (h.block i hi hn)⟩
theorem grow_below {w W W2:World} {g:Nat} (h:w.grownBy W (some g)) (k:Below W.heap.size W W2):w.grownBy W2 (some g) :=
 ⟨k.os.trans h.os,k.tape.trans h.tape,k.output.trans h.output,Nat.le_trans h.size k.size,fun i hi hn=>(k.block i (Nat.lt_of_lt_of_le hi h.size)).trans (h.block i hi hn)⟩
theorem grow_set {w W:World} {g:Nat} (h:w.grownBy W (some g)) (j:Nat) (u:Value):w.grownBy (W.setCell ⟨g,j,none⟩ u) (some g) :=
 ⟨h.os,h.tape,h.output,by simpa [World.setCell] using h.size,fun i hi hn=>(Below.heap_setCell W ⟨g,j,none⟩ u i (fun e=>hn (by rw [e]))).trans (h.block i hi hn)⟩
theorem grow_drewN {w W:World} {g:Nat} (h:w.grownBy W (some g)) (m:Nat):w.grownBy (W.drewN m) (some g):=⟨h.os,h.tape,h.output,h.size,h.block⟩
theorem grow_drew {w W:World} {g:Nat} (h:w.grownBy W (some g)):w.grownBy W.drew (some g):=⟨h.os,h.tape,h.output,h.size,h.block⟩
theorem set_take {ys:List Cut} {j:Int} (h0:0≤j) (h1:j < (ys.length:Int)) (x:Cut):(ys.set j.toNat x).take (j+1).toNat=ys.take j.toNat++[x]:=by
 rw [show (j+1).toNat=j.toNat+1 by omega,List.take_add_one,List.take_set,List.getElem?_set_self (by omega)];simp
 rw [List.set_eq_of_length_le (by rw [List.length_take];omega)]
theorem merge_left {lf rg:List Cut} {i k:Int} (i0:0≤i) (i1:i < (lf.length:Int)) (k0:0≤k) (h:k=(rg.length:Int)∨(k < (rg.length:Int)∧¬ (rd_T106 rg k).f1 > (rd_T106 lf i).f1)) :
 mergeC (lf.drop i.toNat) (rg.drop k.toNat)=rd_T106 lf i :: mergeC (lf.drop (i+1).toNat) (rg.drop k.toNat):=by
 rw [drop_at (l:=lf) (z:=z106) i0 i1];rcases h with h | ⟨h,q⟩
 ·rw [List.drop_of_length_le (l:=rg) (by omega),mergeC_nil,mergeC_nil];rfl
 ·rw [drop_at (l:=rg) (z:=z106) k0 h]
  conv=>lhs;unfold mergeC
  rw [if_neg (show ¬ (rg.getD k.toNat z106).f1 > (lf.getD i.toNat z106).f1 from q)];rfl
theorem merge_right {lf rg:List Cut} {i k:Int} (i0:0≤i) (k0:0≤k) (k1:k < (rg.length:Int)) (h:i=(lf.length:Int)∨(i < (lf.length:Int)∧(rd_T106 rg k).f1 > (rd_T106 lf i).f1)) :
 mergeC (lf.drop i.toNat) (rg.drop k.toNat)=rd_T106 rg k :: mergeC (lf.drop i.toNat) (rg.drop (k+1).toNat):=by
 rw [drop_at (l:=rg) (z:=z106) k0 k1];rcases h with h | ⟨h,q⟩
 ·rw [List.drop_of_length_le (l:=lf) (by omega)];simp only [mergeC];rfl
 ·rw [drop_at (l:=lf) (z:=z106) i0 h]
  conv=>lhs;unfold mergeC
  rw [if_pos (show (rg.getD k.toNat z106).f1 > (lf.getD i.toNat z106).f1 from q)];rfl
set_option maxHeartbeats 8000000 in
set_option maxRecDepth 100000 in
theorem sortBy.to:∀ (n:Nat) (g cap base m:Nat) (xs:List Cut) (w:World),Kd.R k106 106 w base (fun k=>k=g) (.slice (some ⟨g,0,none⟩) m cap) xs→xs.length=m→m≤n+1→m≤200 →
 Calls Tryz.prog 61 #[.slice (some ⟨g,0,none⟩) m cap,.func (.func 62) #[] #[]] w fun e w'=>e = .returned (.tuple #[])∧Kd.R k106 106 w' base (fun k=>k=g) (.slice (some ⟨g,0,none⟩) m cap) (msortC n xs)∧w.grownBy w' (some g):=by
 intro n
 induction n with
 | zero =>
  intro g cap base m xs w hr hm hn hl;have HR:=Aside0.mk hr;clear hr;have h2:decide ((m:Int) < 2)=true:=decide_eq_true (by omega)
  go_enter Tryz.func61,Tryz.ntmps61
  go_wp2_with fail
  ((try simp only [Exit.inBlock,Exit.then]);(refine bodyPost_ret (results_none rfl _ _ _) rfl ?_))
  exact ⟨rfl,HR.out,World.grownBy.refl _ _⟩
 | succ n ih =>
  intro g cap base m xs w hr hm hn hl;have HR:=Aside0.mk hr;have IH:=Aside0.mk ih;clear hr ih
  go_enter Tryz.func61,Tryz.ntmps61
  by_cases h2:(m:Int) < 2
  ·have h2b:decide ((m:Int) < 2)=true:=decide_eq_true h2
   go_wp2_with fail
   ((try simp only [Exit.inBlock,Exit.then]);(refine bodyPost_ret (results_none rfl _ _ _) rfl ?_))
   refine ⟨rfl,?_,World.grownBy.refl _ _⟩;rw [show msortC (n+1) xs=xs from by unfold msortC;rw [if_pos (by omega)]];exact HR.out
  have h2b:decide ((m:Int) < 2)=false:=decide_eq_false h2;have hcap:=(Kd.R_reads' HR.out).2.1;have hcl:=Aside0.mk (show Kd.C k106 w (some ⟨g,0,none⟩) xs.length xs from (Kd.R_reads' HR.out).2.2);have hglt:=Kd.R_lt HR.out g (by simp [Value.ownBlock])
  obtain ⟨i182,hi182,hs182⟩:∃ i,Tryz.prog.info? 106=some i∧i.size=2:=by
   obtain ⟨i,e1,e2⟩:=Option.map_eq_some_iff.1 info106;simp only [Prod.mk.injEq] at e2;exact ⟨i,e1,e2.2.1⟩
  have hct:=cut_to (P:=Tryz.prog) 104 106 .i64 Tryz.underlying104 hi182 (some ⟨g,0,none⟩) m cap ((m:Int) / 2) (by omega) (by omega) hcap;have hcf:=cut_from (P:=Tryz.prog) 104 106 .i64 Tryz.underlying104 hi182 2 hs182 (some ⟨g,0,none⟩) m cap ((m:Int) / 2) (by omega) (by omega);rw [show ((m:Int) / 2).toNat=m / 2 by omega] at hct hcf;have hrow:=Aside0.mk (fun W (h:Kd.C k106 W (some ⟨g,0,none⟩) xs.length xs)=>show ReadsRow (k106.K W) 2 W (if cap=m / 2 then some ⟨g,0,none⟩ else (some (⟨g,0,none⟩:Addr)).map (·.add (m / 2 * 2))) (m - m / 2) (xs.drop (m / 2)) from by have:=cut_rows_drop (m:=m / 2) (c:=cap) h (by omega) (by omega);rw [hm] at this;exact this);obtain ⟨A2,hA2⟩:∃ A,A=(if cap=m / 2 then some ⟨g,0,none⟩ else (some (⟨g,0,none⟩:Addr)).map (·.add (m / 2 * 2))):=⟨_,rfl⟩;rw [← hA2] at hcf hrow;clear hA2;have hll:(xs.take (m / 2)).length=m / 2:=by rw [List.length_take];omega
  have hlr:(xs.drop (m / 2)).length=m - m / 2:=by rw [List.length_drop,hm]
  go_wp2_with (first | ((with_reducible refine gate_dst (N:=16) rfl ?_);refine Kd.R_lit k106 (w).heap.size 106 ?hg (N:=16) ?hd (xs:=([]:List Cut)) (inner:=[]) (ok:=fun _=>True) (okp:=fun _=>True) ?hr ?hp (fun _ hk=>hk) trivial (Below.refl _ _) (Nat.le_refl _) (by simp) ?_;(case hd=>rfl);(case hg=>rfl);(case hr=>(go_simp;done));(case hp=>exact Reps.none _ _);intro v16 w16 ho16 hb16 hg16 hnew16) | ((with_reducible refine gate_dst (N:=20) rfl ?_);refine Kd.R_append_rows k106 (w).heap.size ?hgd (.tmp 16) (.tmp 19) 104 106 (.agg #[.int .i64 0,.int .i64 0]) 16 ?ho Tryz.underlying104 info106 rfl (by decide) (by omega) v16 [] (xs.take (m / 2)) (some ⟨g,0,none⟩) (m / 2) (cap) (fun _=>True) (fun _=>False) ?hs ?hx ho16 (cut_rows_take (Kd.C_below hcl.out hb16) (by omega)) (fun _ _ h=>cut_M h) (fun _ hk=>hk.elim) (fun _ _=>trivial) hb16 ?hz (by simp;omega) ?_;(case hgd=>rfl);(case ho=>rfl);(case hs=>(go_simp;done));(case hx=>(go_simp;done));(case hz=>exact hb16.size);intro v20 w20 ho20 hb20 hg20 hat20) | ((with_reducible refine gate_dst (N:=21) rfl ?_);refine Kd.R_lit k106 (w20).heap.size 106 ?hg (N:=21) ?hd (xs:=([]:List Cut)) (inner:=[]) (ok:=fun _=>True) (okp:=fun _=>True) ?hr ?hp (fun _ hk=>hk) trivial (Below.refl _ _) (Nat.le_refl _) (by simp) ?_;(case hd=>rfl);(case hg=>rfl);(case hr=>(go_simp;done));(case hp=>exact Reps.none _ _);intro v21 w21 ho21 hb21 hg21 hnew21) | ((with_reducible refine gate_dst (N:=25) rfl ?_);refine Kd.R_append_rows k106 (w20).heap.size ?hgd (.tmp 21) (.tmp 24) 104 106 (.agg #[.int .i64 0,.int .i64 0]) 16 ?ho Tryz.underlying104 info106 rfl (by decide) (by omega) v21 [] (xs.drop (m / 2)) (A2) (m - m / 2) (cap - m / 2) (fun _=>True) (fun _=>False) ?hs ?hx ho21 (hrow.out _ (Kd.C_below (Kd.C_below hcl.out hb20) hb21)) (fun _ _ h=>cut_M h) (fun _ hk=>hk.elim) (fun _ _=>trivial) hb21 ?hz (by simp;omega) ?_;(case hgd=>rfl);(case ho=>rfl);(case hs=>(go_simp;done));(case hx=>(go_simp;done));(case hz=>exact hb21.size);intro v25 w25 ho25 hb25 hg25 hat25))
  have hz25:Below w.heap.size w w25:=below_then hb20 hb20.size hb25;rw [List.nil_append] at ho20 ho25;obtain ⟨g1,p1,rfl,q1,q2,_⟩:=Kd.R_form ho20 (by omega);obtain ⟨g2,p2,rfl,q3,q4,_⟩:=Kd.R_form ho25 (by omega);rw [hll] at ho20;rw [hlr] at ho25;simp only [hll,hlr];have R1:=Aside0.mk (Kd.R_mono (Kd.R_tight rfl (Kd.R_below ho20 hb25)) (ok':=fun k=>k=g1) (fun k hk=>by simpa [Value.ownBlock] using hk));have R2:=Aside0.mk (Kd.R_mono (Kd.R_tight rfl ho25) (ok':=fun k=>k=g2) (fun k hk=>by simpa [Value.ownBlock] using hk));have R0:=Aside0.mk (Kd.R_below (Kd.R_below HR.out hb20) hb25);have HK:=Aside0.mk (grown_of_below hz25 (some g));clear ho16 hb16 hg16 hnew16 ho20 hb20 hg20 hat20 ho21 hb21 hg21 hnew21 ho25 hb25 hg25 hat25 hz25 HR hcl hrow hct hcf hi182 hs182;refine (IH.out g1 p1 _ (m / 2) (xs.take (m / 2)) w25 R1.out hll (by omega) (by omega)).mono ?_;rintro x w26 ⟨rfl,ho26,hk26⟩;replace R1:=Aside0.mk ho26;replace R2:=Aside0.mk (Kd.R_kept R2.out (grow_kept hk26) (fun k hk e=>by omega));replace R0:=Aside0.mk (Kd.R_kept R0.out (grow_kept hk26) (fun k hk e=>by omega));replace HK:=Aside0.mk (grow_then HK.out hk26 (by omega));clear ho26 hk26
  go_wp2_with fail
  refine (IH.out g2 p2 _ (m - m / 2) (xs.drop (m / 2)) w26 R2.out hlr (by omega) (by omega)).mono ?_;rintro x w27 ⟨rfl,ho27,hk27⟩;replace R2:=Aside0.mk ho27;replace R1:=Aside0.mk (Kd.R_kept R1.out (grow_kept hk27) (fun k hk e=>by omega));replace R0:=Aside0.mk (Kd.R_kept R0.out (grow_kept hk27) (fun k hk e=>by omega));replace HK:=Aside0.mk (grow_then HK.out hk27 (by omega));clear ho27 hk27 IH
  have HM:=Aside0.mk (show msortC (n+1) xs=mergeC (msortC n (xs.take (m / 2))) (msortC n (xs.drop (m / 2))) from by
   conv=>lhs;unfold msortC
   rw [if_neg (by omega),hm])
  have l1:(msortC n (xs.take (m / 2))).length=m / 2:=by rw [(msortC_perm n _).length_eq];exact hll
  have l2:(msortC n (xs.drop (m / 2))).length=m - m / 2:=by rw [(msortC_perm n _).length_eq];exact hlr
  obtain ⟨lf,hlf⟩:∃ z,z=msortC n (xs.take (m / 2)):=⟨_,rfl⟩;obtain ⟨rg,hrg⟩:∃ z,z=msortC n (xs.drop (m / 2)):=⟨_,rfl⟩;rw [← hlf] at R1 l1 HM;rw [← hrg] at R2 l2 HM;clear hlf hrg hll hlr
  go_wp2_with fail
  go_loopw [34,7,8] (fun v vi vk wr=>∃ j i k:Int,0≤i∧i≤(m / 2:Nat)∧0≤k∧k≤(m - m / 2:Nat)∧i+k=j∧v = .int .i64 j∧vi = .int .i64 i∧vk = .int .i64 k∧Aside0 (w.grownBy wr (some g))∧Aside0 (Kd.R k106 106 wr w.heap.size (fun k=>k=g1) (.slice (some ⟨g1,0,none⟩) (m / 2) p1) lf)∧Aside0 (Kd.R k106 106 wr w20.heap.size (fun k=>k=g2) (.slice (some ⟨g2,0,none⟩) (m - m / 2) p2) rg)∧Aside0 (∃ ys:List Cut,ys.length=m∧ys.take j.toNat++mergeC (lf.drop i.toNat) (rg.drop k.toNat)=mergeC lf rg∧Kd.R k106 106 wr base (fun k=>k=g) (.slice (some ⟨g,0,none⟩) m cap) ys)) (fun v _ _ _=>m - (intOf v).toNat)
  case atStart=>exact ⟨0,0,0,by omega,by omega,by omega,by omega,rfl,rfl,rfl,rfl,HK,R1,R2,⟨xs,hm,by simp,R0.out⟩⟩
  case round =>
   clear HK R1 R2 R0;obtain ⟨j,i,k,i0,i1,k0,k1,hj,rfl,rfl,rfl,HK,R1,R2,R0⟩:=hrel;by_cases hlt:j < (m:Int)
   case neg =>
    go_wp2_with fail
    ((try simp only [Exit.inBlock,Exit.then]);(refine bodyPost_end (results_none rfl _ _ _) rfl ?_))
    obtain ⟨ys,y1,y2,y3⟩:=R0.out;refine ⟨rfl,?_,HK.out⟩;rw [List.take_of_length_le (by omega),List.drop_of_length_le (by omega),List.drop_of_length_le (by omega)] at y2;rw [HM.out,← y2]
    simpa [mergeC] using y3
   obtain ⟨ys,y1,y2,y3⟩:=R0.out;have RY:=Aside0.mk y3;have HY:=Aside0.mk y2;clear R0 y2;obtain ⟨z0,z1,z2,z3⟩:=cut_get y3 j (by omega) hlt;clear y3;by_cases hk:k=(m - m / 2:Nat)
   ·have hkb:(k == ((m - m / 2:Nat):Int))=true:=beq_iff_eq.2 hk;have hi:i < ((m / 2:Nat):Int):=by omega
    obtain ⟨x0,x1,x2,x3⟩:=cut_get R1.out i i0 hi;clear x2 x3
    go_wp2_with fail
    go_quiet (fail)
    go_wp2_with fail
    go_roundw
    case rel =>
     refine ⟨j+1,i+1,k,by omega,by omega,by omega,by omega,by omega,rfl,rfl,rfl,⟨grow_set (grow_set (grow_drewN HK.out _) _ _) _ _⟩,⟨Kd.R_far (Kd.R_far (Kd.R_drewN R1.out _) (fun k hk=>by show k≠g;omega) _) (fun k hk=>by show k≠g;omega) _⟩,⟨Kd.R_far (Kd.R_far (Kd.R_drewN R2.out _) (fun k hk=>by show k≠g;omega) _) (fun k hk=>by show k≠g;omega) _⟩,⟨ys.set j.toNat (rd_T106 lf i),by rw [List.length_set];exact y1,?_,cut_put (Kd.R_drewN RY.out _) j (by omega) hlt _⟩⟩;rw [set_take (by omega) (by omega),← HY.out,merge_left i0 (by omega) k0 (.inl (by omega))];simp
    case measure=>simp [intOf];omega
   have hkb:(k == ((m - m / 2:Nat):Int))=false:=beq_eq_false_iff_ne.2 hk;have hkl:k < ((m - m / 2:Nat):Int):=by omega
   obtain ⟨w0,w1,w2,w3⟩:=cut_get R2.out k k0 hkl;clear w2 w3;by_cases hi:i < ((m / 2:Nat):Int)
   case neg =>
    have hib2:decide (i < (m:Int) / 2)=false:=decide_eq_false (by omega)
    go_wp2_with fail
    go_quiet (fail)
    go_wp2_with fail
    go_roundw
    case rel =>
     refine ⟨j+1,i,k+1,by omega,by omega,by omega,by omega,by omega,rfl,rfl,rfl,⟨grow_set (grow_set (grow_drewN HK.out _) _ _) _ _⟩,⟨Kd.R_far (Kd.R_far (Kd.R_drewN R1.out _) (fun k hk=>by show k≠g;omega) _) (fun k hk=>by show k≠g;omega) _⟩,⟨Kd.R_far (Kd.R_far (Kd.R_drewN R2.out _) (fun k hk=>by show k≠g;omega) _) (fun k hk=>by show k≠g;omega) _⟩,⟨ys.set j.toNat (rd_T106 rg k),by rw [List.length_set];exact y1,?_,cut_put (Kd.R_drewN RY.out _) j (by omega) hlt _⟩⟩;rw [set_take (by omega) (by omega),← HY.out,merge_right i0 k0 (by omega) (.inl (by omega))];simp
    case measure=>simp [intOf];omega
   have hib2:decide (i < (m:Int) / 2)=true:=decide_eq_true (by omega);obtain ⟨x0,x1,x2,x3⟩:=cut_get R1.out i i0 hi;clear x2 x3;have hi2:i < (m:Int) / 2:=by omega
   have hi3:i≤(m:Int) / 2:=by omega
   have hi4:i.toNat < m / 2:=by omega
   have hk4:k.toNat < m - m / 2:=by omega
   go_wp2_with fail
   go_region_held3 (fun w'=>w'.cell? ⟨g1,i.toNat * 2,none⟩=some (.int .i64 (rd_T106 lf i).f0)∧w'.cell? ⟨g1,i.toNat * 2+1,none⟩=some (.int .i64 (rd_T106 lf i).f1)∧w'.cell? ⟨g2,k.toNat * 2,none⟩=some (.int .i64 (rd_T106 rg k).f0)∧w'.cell? ⟨g2,k.toNat * 2+1,none⟩=some (.int .i64 (rd_T106 rg k).f1)) ((first | go_keep | exact ⟨y01 hb (by assumption),y01 hb (by assumption),y01 hb (by assumption),y01 hb (by assumption)⟩))
    ((go_at_call 62;refine (cut_less (rd_T106 rg k) (rd_T106 lf i) _).mono ?_;rintro x w28 ⟨rfl,hb⟩))
   replace R1:=Aside0.mk (Kd.R_below (Kd.R_drew R1.out) hb);replace R2:=Aside0.mk (Kd.R_below (Kd.R_drew R2.out) hb);replace RY:=Aside0.mk (Kd.R_below (Kd.R_drew RY.out) hb);replace HK:=Aside0.mk (grow_below (grow_drew HK.out) hb);clear hb x0 x1 w0 w1 z0 z1 z2 z3;obtain ⟨z0,z1,z2,z3⟩:=cut_get RY.out j (by omega) hlt;generalize hcb:(!decide ((rd_T106 lf i).f1 < (rd_T106 rg k).f1))=b;cases b
   case false =>
    have hc:(rd_T106 rg k).f1 > (rd_T106 lf i).f1:=by simpa using hcb
    clear hcb;obtain ⟨w0,w1,w2,w3⟩:=cut_get R2.out k k0 hkl;clear w2 w3
    go_wp2_with fail
    go_roundw
    case rel =>
     refine ⟨j+1,i,k+1,by omega,by omega,by omega,by omega,by omega,rfl,rfl,rfl,⟨grow_set (grow_set (HK.out) _ _) _ _⟩,⟨Kd.R_far (Kd.R_far (R1.out) (fun k hk=>by show k≠g;omega) _) (fun k hk=>by show k≠g;omega) _⟩,⟨Kd.R_far (Kd.R_far (R2.out) (fun k hk=>by show k≠g;omega) _) (fun k hk=>by show k≠g;omega) _⟩,⟨ys.set j.toNat (rd_T106 rg k),by rw [List.length_set];exact y1,?_,cut_put (RY.out) j (by omega) hlt _⟩⟩;rw [set_take (by omega) (by omega),← HY.out,merge_right i0 k0 (by omega) (.inr ⟨by omega,hc⟩)];simp
    case measure=>simp [intOf];omega
   case true =>
    have hc:¬ (rd_T106 rg k).f1 > (rd_T106 lf i).f1:=by simpa using hcb
    clear hcb;obtain ⟨x0,x1,x2,x3⟩:=cut_get R1.out i i0 hi;clear x2 x3
    go_wp2_with fail
    go_roundw
    case rel =>
     refine ⟨j+1,i+1,k,by omega,by omega,by omega,by omega,by omega,rfl,rfl,rfl,⟨grow_set (grow_set (HK.out) _ _) _ _⟩,⟨Kd.R_far (Kd.R_far (R1.out) (fun k hk=>by show k≠g;omega) _) (fun k hk=>by show k≠g;omega) _⟩,⟨Kd.R_far (Kd.R_far (R2.out) (fun k hk=>by show k≠g;omega) _) (fun k hk=>by show k≠g;omega) _⟩,⟨ys.set j.toNat (rd_T106 lf i),by rw [List.length_set];exact y1,?_,cut_put (RY.out) j (by omega) hlt _⟩⟩;rw [set_take (by omega) (by omega),← HY.out,merge_left i0 (by omega) k0 (.inr ⟨by omega,hc⟩)];simp
    case measure=>simp [intOf];omega
theorem sumOf_l0 (l:List Int) (hl:l.length≤1048576):∀ (n k:Nat) (i:Int),0≤i→i+n=(l.length:Int)→n < k→impl_sumOf.l0 k (wrap64 (sumS (l.take i.toNat))) l (l.length:Int) i=some (wrap64 (sumS l)):=by
 intro n
 induction n with
 | zero =>
  intro k i i0 hi hk;obtain ⟨k,rfl⟩:∃ j,k=j+1:=⟨k - 1,by omega⟩;rw [impl_sumOf.l0,if_neg (by omega),List.take_of_length_le (by omega)]
 | succ n ih =>
  intro k i i0 hi hk;obtain ⟨k,rfl⟩:∃ j,k=j+1:=⟨k - 1,by omega⟩;have hw:wrap64 (i+1)=i+1:=by unfold wrap64;omega
  have h:=ih k (i+1) (by omega) (by omega) (by omega);rw [take_rd i0 (by omega),sumS_app] at h;simp only [sumS,Int.add_zero] at h;rw [impl_sumOf.l0,if_pos (by omega),if_pos i0,if_pos (by omega),wrap_add,hw,h]
theorem impl_sumOf_is (l:List Int) (hl:l.length≤1000):impl_sumOf.f 2000 l=some (wrap64 (sumS l)):=by
 have h:=sumOf_l0 l (by omega) l.length 2000 0 (Int.le_refl _) (by omega) (by omega);simp only [Int.toNat_zero,List.take_zero,sumS] at h;rw [show wrap64 0=0 by unfold wrap64;omega] at h;exact h
theorem impl_factor_is (x:Int):impl_factor.f x=some (inB x 0 10000000):=by
 unfold impl_factor.f impl_between.f;rfl
theorem set_take_i {ys:List Int} {j:Int} (h0:0≤j) (h1:j < (ys.length:Int)) (x:Int):(ys.set j.toNat x).take (j+1).toNat=ys.take j.toNat++[x]:=by
 rw [show (j+1).toNat=j.toNat+1 by omega,List.take_add_one,List.take_set,List.getElem?_set_self (by omega)];simp
 rw [List.set_eq_of_length_le (by rw [List.length_take];omega)]
theorem quo_rd {t all:Int} {ws:List Int} {i:Int} (i0:0≤i) (i1:i < (ws.length:Int)):rd (quoS t all ws) i=Int.tdiv (t * rd ws i) all:=by
 unfold rd quoS;rw [List.getD_eq_getElem?_getD,List.getD_eq_getElem?_getD,List.getElem?_map,List.getElem?_eq_getElem (by omega)];rfl
theorem rst_rd {t all:Int} {ws:List Int} {i:Int} (i0:0≤i) (i1:i < (ws.length:Int)):rd (rstS t all ws) i=absI (Int.tmod (t * rd ws i) all):=by
 unfold rd rstS;rw [List.getD_eq_getElem?_getD,List.getD_eq_getElem?_getD,List.getElem?_map,List.getElem?_eq_getElem (by omega)];rfl
theorem cuts_take {rs:List Int} {i:Int} (i0:0≤i) (i1:i < (rs.length:Int)):(cutsOf rs).take (i+1).toNat=(cutsOf rs).take i.toNat++[⟨i,rd rs i⟩]:=by
 unfold cutsOf;rw [show (i+1).toNat=i.toNat+1 by omega,List.take_add_one,List.getElem?_map,List.getElem?_range (by omega)];simp only [Option.map_some,Option.toList_some];rw [show ((i.toNat:Nat):Int)=i by omega]
theorem cutsOf_len (rs:List Int):(cutsOf rs).length=rs.length:=by unfold cutsOf;rw [List.length_map,List.length_range]
theorem cutsOf_in {rs:List Int}:∀ c∈cutsOf rs,0≤c.f0∧c.f0 < (rs.length:Int):=fun c hc=>by
 unfold cutsOf at hc;obtain ⟨i,hi,rfl⟩:=List.mem_map.1 hc;have:=List.mem_range.1 hi;exact ⟨by show (0:Int)≤(i:Int);omega,by show (i:Int) < _;omega⟩
set_option maxHeartbeats 8000000 in
set_option maxRecDepth 100000 in
theorem impl_Shares.to (t:Int) (A:Option Addr) (c:Nat) (ws:List Int) (w:World) (hr:Kd.C (Kd.int .i64) w A ws.length ws) (hc:ws.length≤c) :
 Calls Tryz.prog 29 #[.int .i64 t,.slice A ws.length c] w fun e w'=>∃ v0_:Value,e = .returned v0_∧Kd.R (Kd.int .i64) 3 w' w.heap.size (fun _=>True) v0_ (sharesR t ws)∧Below w.heap.size w w':=by
 have HW:=Aside0.mk hr;have HB:=Aside0.mk (Below.refl w.heap.size w);have HW0:=HW;clear hr;obtain ⟨SR,hSR⟩:∃ z,z=sharesR t ws:=⟨_,rfl⟩;rw [← hSR];have HSR:=Aside0.mk hSR;clear hSR
 go_enter Tryz.func29,Tryz.ntmps29
 go_wp2_with fail
 refine (impl_amount.to t _).mono ?_;rintro x w1 ⟨rfl,rfl⟩;have hnil:=Aside0.mk (fun W (hb:Below w1.heap.size w1 W) (h:SR=[])=>show ∃ v0_:Value,Ending.returned (.slice none 0 0) = .returned v0_∧Kd.R (Kd.int .i64) 3 W w1.heap.size (fun _=>True) v0_ SR∧Below w1.heap.size w1 W from ⟨_,rfl,by rw [h];exact Kd.R_nil _ _ _ _ _,hb⟩);by_cases ht:-100000000000≤t∧t≤100000000000
 case neg =>
  have hb1:inB t (-100000000000) 100000000000=false:=inB_not ht
  go_wp2_with fail
  go_ret
  exact hnil.out _ HB.out (by rw [HSR.out];unfold sharesR;rw [if_neg (fun q=>ht q.1)])
 have hb1:inB t (-100000000000) 100000000000=true:=inB_of ht;by_cases hl0:ws.length=0
 ·have hl0b:((ws.length:Int) == 0)=true:=beq_iff_eq.2 (by omega)
  go_wp2_with fail
  go_ret
  exact hnil.out _ HB.out (by rw [HSR.out];unfold sharesR;rw [if_neg (fun q=>q.2.2.2 (by rw [List.length_eq_zero_iff.1 hl0];rfl))])
 have hl0b:((ws.length:Int) == 0)=false:=beq_eq_false_iff_ne.2 (by omega);by_cases hl:ws.length≤200
 case neg =>
  have hlb:decide ((ws.length:Int) > 200)=true:=decide_eq_true (by omega)
  go_wp2_with fail
  go_ret
  exact hnil.out _ HB.out (by rw [HSR.out];unfold sharesR;rw [if_neg (fun q=>hl q.2.1)])
 have hlb:decide ((ws.length:Int) > 200)=false:=decide_eq_false (by omega)
 go_wp2_with fail
 go_loopw [31] (fun v wr=>∃ i:Int,0≤i∧i≤(ws.length:Int)∧v = .int .i64 i∧Aside0 (Below w1.heap.size w1 wr)∧Aside0 (∀ x∈ws.take i.toNat,factP x)) (fun v _=>ws.length - (intOf v).toNat)
 case atStart=>exact ⟨0,by omega,by omega,rfl,HB,⟨by simp⟩⟩
 case round =>
  clear HB;obtain ⟨i,hi0,hi1,rfl,HB,HF⟩:=hrel;replace HW:=Aside0.mk (Kd.C_below HW.out HB.out);by_cases hlt:i < (ws.length:Int)
  ·obtain ⟨ad,e0,x0⟩:=Kd.at_int HW.out i hi0 hlt;cases e0
   go_wp2_with fail
   refine (impl_factor.calls (rd ws i) _ _ (impl_factor_is _)).mono ?_;rintro x w2 ⟨rfl,hd⟩;by_cases hf:factP (rd ws i)
   ·have hfb:inB (rd ws i) 0 10000000=true:=inB_of hf
    go_wp2_with fail
    go_roundw
    case rel=>exact ⟨i+1,by omega,by omega,rfl,⟨below_into (w:=w1) hd.below HB.out⟩,⟨fun x hx=>by
     rw [take_rd hi0 hlt] at hx;rcases List.mem_append.1 hx with hx | hx
     ·exact HF.out x hx
     ·rw [List.mem_singleton.1 hx];exact hf⟩⟩
    case measure=>simp [intOf];omega
   ·have hfb:inB (rd ws i) 0 10000000=false:=inB_not hf
    go_wp2_with fail
    go_ret
    exact hnil.out _ (below_into (w:=w1) hd.below HB.out) (by rw [HSR.out];unfold sharesR;rw [if_neg (fun q=>hf (q.2.2.1 _ (mem_rd hi0 hlt)))])
  have hfall:=HF.out;rw [List.take_of_length_le (by omega)] at hfall;have HFA:=Aside0.mk hfall;have hsb:=sumS_b hfall;have hwsum:wrap64 (sumS ws)=sumS ws:=by unfold wrap64;omega
  clear HF hfall
  go_wp2_with fail
  refine (impl_sumOf.calls 2000 A c ws _ _ HW.out hc (impl_sumOf_is ws (by omega))).mono ?_;rintro x w2 ⟨rfl,hd⟩;rw [hwsum];replace HW:=Aside0.mk (Kd.C_below HW.out hd.below);replace HB:=Aside0.mk (below_into (w:=w1) hd.below HB.out);obtain ⟨al,hal⟩:∃ z,z=sumS ws:=⟨_,rfl⟩;rw [← hal] at hsb ⊢;have HAL:=Aside0.mk hal;clear hd hwsum hal;by_cases hz:al=0
  ·have hzb:(al == 0)=true:=beq_iff_eq.2 hz
   go_wp2_with fail
   go_ret
   exact hnil.out _ HB.out (by rw [HSR.out];unfold sharesR;rw [if_neg (fun q=>q.2.2.2 (HAL.out ▸ hz))])
  have hzb:(al == 0)=false:=beq_eq_false_iff_ne.2 hz
  go_wp2_with (first | ((with_reducible refine gate_dst (N:=45) rfl ?_);refine Kd.R_make (Kd.int .i64) _ 3 rfl (N:=45) rfl 42 _ _ rfl (ws.length:Int) rfl rfl Tryz.underlying42 (.int .i64 0) 8 info3 rfl (by decide) (by omega) 0 (ok:=fun _=>True) (okp:=fun _=>True) rfl (fun _ hk=>hk) trivial (by omega) (by simp;omega) (Below.refl _ _) (Nat.le_refl _) ?_;intro v1 w3 ho hb hg hnew;have HB3:=Aside0.mk (below_into (w:=w1) hb HB.out);have HB3S:=HB3.out.size;have HO:=Aside0.mk (Kd.R_lower ho (base':=w1.heap.size) HB.out.size);have HWA:=Aside0.mk (Kd.C_below HW.out hb);obtain ⟨g,cap,e1,hg0,hg1,_⟩:=Kd.R_form HO.out (by simp;omega);rw [show (List.replicate ((ws.length:Int)).toNat (0:Int)).length=ws.length by simp] at e1;subst e1;clear ho hb hg hnew) | ((with_reducible refine gate_dst (N:=48) rfl ?_);refine Kd.R_make k106 _ 106 rfl (N:=48) rfl 104 _ _ rfl (ws.length:Int) rfl rfl Tryz.underlying104 (.agg #[.int .i64 0,.int .i64 0]) 16 info106 rfl (by decide) (by omega) z106 (ok:=fun _=>True) (okp:=fun _=>True) (k106_mkM _ _ _ z106) (fun _ hk=>hk) trivial (by omega) (by simp;omega) (Below.refl _ _) (Nat.le_refl _) ?_;intro v2 w4 ho hb hg hnew;have HB4:=Aside0.mk (below_into (w:=w1) hb HB3.out);have HO1:=Aside0.mk (Kd.R_below HO.out hb);have HO2:=Aside0.mk ho;have HWB:=Aside0.mk (Kd.C_below HWA.out hb);obtain ⟨g2,cap2,e1,hg2,hg3,_⟩:=Kd.R_form HO2.out (by simp;omega);rw [show (List.replicate ((ws.length:Int)).toNat z106).length=ws.length by simp] at e1;subst e1;clear ho hb hg hnew))
  replace HO:=Aside0.mk (Kd.R_mono (Kd.R_tight rfl HO1.out) (ok':=fun k=>k=g) (fun k hk=>by simpa [Value.ownBlock] using hk));replace HO2:=Aside0.mk (Kd.R_mono (Kd.R_tight rfl HO2.out) (ok':=fun k=>k=g2) (fun k hk=>by simpa [Value.ownBlock] using hk));have hlq:(quoS t al ws).length=ws.length:=by unfold quoS;rw [List.length_map]
  have hlr:(rstS t al ws).length=ws.length:=by unfold rstS;rw [List.length_map]
  have hlc:(cutsOf (rstS t al ws)).length=ws.length:=by rw [cutsOf_len,hlr]
  clear HO1 HB3 HB HWA HWB HW
  go_loopw [51] (fun v wr=>∃ i:Int,0≤i∧i≤(ws.length:Int)∧v = .int .i64 i∧Aside0 (Below w1.heap.size w1 wr)∧Aside0 (∃ os:List Int,os.length=ws.length∧os.take i.toNat=(quoS t al ws).take i.toNat∧Kd.R (Kd.int .i64) 3 wr w1.heap.size (fun k=>k=g) (.slice (some ⟨g,0,none⟩) ws.length cap) os)∧Aside0 (∃ cs:List Cut,cs.length=ws.length∧cs.take i.toNat=(cutsOf (rstS t al ws)).take i.toNat∧Kd.R k106 106 wr w3.heap.size (fun k=>k=g2) (.slice (some ⟨g2,0,none⟩) ws.length cap2) cs)) (fun v _=>ws.length - (intOf v).toNat)
  case atStart=>exact ⟨0,by omega,by omega,rfl,HB4,⟨_,by simp,by simp,HO.out⟩,⟨_,by simp,by simp,HO2.out⟩⟩
  case round =>
   clear HB4 HO HO2;obtain ⟨i,hi0,hi1,rfl,HB,HO,HO2⟩:=hrel;obtain ⟨os,o1,o2,o3⟩:=HO.out;obtain ⟨cs,p1,p2,p3⟩:=HO2.out;have RO:=Aside0.mk o3;have RC:=Aside0.mk p3;have EO:=Aside0.mk o2;have EC:=Aside0.mk p2;clear HO HO2 o2 p2;by_cases hlt:i < (ws.length:Int)
   ·obtain ⟨ad,e0,x0⟩:=Kd.at_int (Kd.C_below HW0.out HB.out) i hi0 hlt;cases e0;have hb:=mulB ht (HFA.out _ (mem_rd hi0 hlt));have hqd:=tdivB (a:=t * rd ws i) (b:=al);have hrm:=tmodB (a:=t * rd ws i) (b:=al);have hm:IntKind.i64.wrap (t * rd ws i)=t * rd ws i:=by rw [IntKind.wrap_i64];omega
    have hd:IntKind.i64.wrap (Int.tdiv (t * rd ws i) al)=Int.tdiv (t * rd ws i) al:=by rw [IntKind.wrap_i64];omega
    have hn:IntKind.i64.wrap (-Int.tmod (t * rd ws i) al) = -Int.tmod (t * rd ws i) al:=by rw [IntKind.wrap_i64];omega
    have hwi:wrap64 (i+1)=i+1:=by unfold wrap64;omega
    obtain ⟨z0,z1⟩:=int_get o3 i hi0 hlt;obtain ⟨y0,y1,y2,y3⟩:=cut_get p3 i hi0 hlt;clear o3 p3 hb hqd hrm;by_cases hr:Int.tmod (t * rd ws i) al < 0
    ·have hrb:decide (Int.tmod (t * rd ws i) al < 0)=true:=decide_eq_true hr
     go_wp2_with fail
     go_roundw
     case rel =>
      refine ⟨i+1,by omega,by omega,rfl,⟨below_set (below_set (below_set HB.out hg0) (Nat.le_trans HB3S hg2)) (Nat.le_trans HB3S hg2)⟩,⟨os.set i.toNat (Int.tdiv (t * rd ws i) al),by rw [List.length_set];exact o1,?_,Kd.R_far (Kd.R_far (int_seg RO.out i hi0 hlt _) (fun k hk=>by show k≠g2;omega) _) (fun k hk=>by show k≠g2;omega) _⟩,⟨cs.set i.toNat ⟨i,-Int.tmod (t * rd ws i) al⟩,by rw [List.length_set];exact p1,?_,cut_put (Kd.R_far RC.out (fun k hk=>by show k≠g;omega) _) i hi0 hlt ⟨i,-Int.tmod (t * rd ws i) al⟩⟩⟩
      ·rw [set_take_i hi0 (by omega),EO.out,take_rd hi0 (by omega),quo_rd hi0 hlt]
      ·rw [set_take hi0 (by omega),EC.out,cuts_take hi0 (by omega),rst_rd hi0 hlt];unfold absI;rw [if_pos hr]
     case measure=>simp [intOf];omega
    ·have hrb:decide (Int.tmod (t * rd ws i) al < 0)=false:=decide_eq_false hr
     go_wp2_with fail
     go_roundw
     case rel =>
      refine ⟨i+1,by omega,by omega,rfl,⟨below_set (below_set (below_set HB.out hg0) (Nat.le_trans HB3S hg2)) (Nat.le_trans HB3S hg2)⟩,⟨os.set i.toNat (Int.tdiv (t * rd ws i) al),by rw [List.length_set];exact o1,?_,Kd.R_far (Kd.R_far (int_seg RO.out i hi0 hlt _) (fun k hk=>by show k≠g2;omega) _) (fun k hk=>by show k≠g2;omega) _⟩,⟨cs.set i.toNat ⟨i,Int.tmod (t * rd ws i) al⟩,by rw [List.length_set];exact p1,?_,cut_put (Kd.R_far RC.out (fun k hk=>by show k≠g;omega) _) i hi0 hlt ⟨i,Int.tmod (t * rd ws i) al⟩⟩⟩
      ·rw [set_take_i hi0 (by omega),EO.out,take_rd hi0 (by omega),quo_rd hi0 hlt]
      ·rw [set_take hi0 (by omega),EC.out,cuts_take hi0 (by omega),rst_rd hi0 hlt];unfold absI;rw [if_neg hr]
     case measure=>simp [intOf];omega
   rw [List.take_of_length_le (by omega),List.take_of_length_le (by omega)] at EO EC;obtain rfl:=EO.out;obtain rfl:=EC.out;obtain ⟨f1,f2,f3⟩:=left_few (t:=t) (ws:=ws) (fun x hx=>(HFA.out x hx).1) (by rw [← HAL.out];omega);rw [← HAL.out] at f1 f2 f3;have hcall:=impl_sumOf.calls 2000 (some ⟨g,0,none⟩) cap (quoS t al ws) _ wr (by rw [hlq];have:=(Kd.R_reads' RO.out).2.2;rw [hlq] at this;exact this) (by rw [hlq];exact (Kd.R_reads' RO.out).2.1) (impl_sumOf_is _ (by omega));rw [hlq] at hcall
   go_wp2_with fail
   refine hcall.mono ?_;rintro x w5 ⟨rfl,hd⟩;replace RO:=Aside0.mk (Kd.R_below RO.out hd.below);replace RC:=Aside0.mk (Kd.R_below RC.out hd.below);replace HB:=Aside0.mk (below_into (w:=w1) hd.below HB.out);clear hd hcall
   have SRQ:sharesR t ws=giveC (oneS (t - sumS (quoS t al ws))) (quoS t al ws) ((msortC ws.length (cutsOf (rstS t al ws))).take (t - sumS (quoS t al ws)).natAbs):=by
    unfold sharesR;rw [if_pos ⟨ht,hl,HFA.out,by rw [← HAL.out];exact hz⟩,← HAL.out]
   have hwL:IntKind.i64.wrap (t - wrap64 (sumS (quoS t al ws)))=t - sumS (quoS t al ws):=by
    rw [IntKind.wrap_i64];unfold wrap64;generalize sumS (quoS t al ws)=z at *;omega
   generalize t - sumS (quoS t al ws)=LL at *;have hlS:(msortC ws.length (cutsOf (rstS t al ws))).length=ws.length:=by rw [(msortC_perm _ _).length_eq,hlc]
   have HIN:=Aside0.mk (fun c (hc:c∈msortC ws.length (cutsOf (rstS t al ws)))=>show 0≤c.f0∧c.f0 < (ws.length:Int) from by
    have:=cutsOf_in c ((msortC_perm _ _).mem_iff.1 hc);rw [hlr] at this
    exact this)
   have HSO:=Aside0.mk (sortBy.to ws.length g2 cap2 w3.heap.size ws.length (cutsOf (rstS t al ws)) w5 RC.out hlc (by omega) hl);obtain ⟨S,hS⟩:∃ z,z=msortC ws.length (cutsOf (rstS t al ws)):=⟨_,rfl⟩;rw [← hS] at SRQ hlS HIN HSO;have hwN:IntKind.i64.wrap (-LL) = -LL:=by rw [IntKind.wrap_i64];omega
   clear hS HAL HFA;by_cases hL:LL < 0
   ·have hLb:decide (LL < 0)=true:=decide_eq_true hL;rw [show oneS LL = -1 from if_pos hL] at SRQ;obtain ⟨M,rfl⟩:∃ M:Nat,LL = -(M:Int):=⟨LL.natAbs,by omega⟩;rw [Int.natAbs_neg,Int.natAbs_natCast] at SRQ f3;rw [Int.neg_neg] at hwN
    go_wp2_with fail
    refine HSO.out.mono ?_;rintro x w6 ⟨rfl,hs,hk⟩;have RC6:=Aside0.mk hs;have RO6:=Aside0.mk (Kd.R_kept RO.out (grow_kept hk) (fun k hk e=>by omega));have HB6:=Aside0.mk (pw_below_grown HB.out (some g2) HB.out.size hk (fun k hk=>by injection hk with hk;omega));clear hs hk HSO HB RO RC
    go_wp2_with fail
    go_loopw [15] (fun v wr=>∃ i:Int,0≤i∧i≤(M:Int)∧v = .int .i64 i∧Aside0 (Below w1.heap.size w1 wr)∧Aside0 (∃ os:List Int,os.length=ws.length∧giveC (-1) os ((S.take M).drop i.toNat)=SR∧Kd.R (Kd.int .i64) 3 wr w1.heap.size (fun k=>k=g) (.slice (some ⟨g,0,none⟩) ws.length cap) os)∧Aside0 (Kd.R k106 106 wr w3.heap.size (fun k=>k=g2) (.slice (some ⟨g2,0,none⟩) ws.length cap2) S)) (fun v _=>M - (intOf v).toNat)
    case atStart=>exact ⟨0,by omega,by omega,rfl,HB6,⟨_,hlq,by rw [HSR.out];simp [SRQ],RO6.out⟩,RC6⟩
    case round =>
     clear HB6 RO6 RC6;obtain ⟨i,hi0,hi1,rfl,HB,HO,RC⟩:=hrel;obtain ⟨os,o1,o2,o3⟩:=HO.out;have RO:=Aside0.mk o3;have EO:=Aside0.mk o2;clear HO o2;by_cases hlt:i < (M:Int)
     ·obtain ⟨y0,y1,y2,y3⟩:=cut_get RC.out i hi0 (by omega);have hin:=HIN.out (rd_T106 S i) (mem_at (z:=z106) hi0 (by omega));have hi2:=hin.1;have hi3:=hin.2;obtain ⟨z0,z1⟩:=int_get o3 (rd_T106 S i).f0 hi2 hi3;clear o3 y1 y2 y3;have hwi:IntKind.i64.wrap (i+1)=i+1:=by rw [IntKind.wrap_i64];omega
      have hw1:i < 1000:=by omega
      go_wp2_with fail
      go_roundw
      case rel =>
       refine ⟨i+1,by omega,by omega,rfl,⟨below_set HB.out hg0⟩,⟨os.set (rd_T106 S i).f0.toNat (wrap64 (rd os (rd_T106 S i).f0+(-1))),by rw [List.length_set];exact o1,?_,?_⟩,⟨Kd.R_far RC.out (fun k hk=>by show k≠g;omega) _⟩⟩
       ·rw [← EO.out]
        conv=>rhs;rw [drop_at (l:=S.take M) (z:=z106) hi0 (by rw [List.length_take];omega)]
        rw [show (S.take M).getD i.toNat z106=rd_T106 S i by unfold rd_T106;rw [List.getD_eq_getElem?_getD,List.getD_eq_getElem?_getD,List.getElem?_take,if_pos (by omega)]];rfl
       ·rw [← i64_w];exact int_seg RO.out _ hi2 hi3 _
      case measure=>simp [intOf];omega
     ·go_wp2_with fail
      go_ret
      refine ⟨_,rfl,?_,HB.out⟩;rw [List.drop_of_length_le (by rw [List.length_take];omega)] at EO;rw [← EO.out];exact Kd.R_mono RO.out (fun _ _=>trivial)
   ·have hLb:decide (LL < 0)=false:=decide_eq_false hL;rw [show oneS LL=1 from if_neg hL] at SRQ;obtain ⟨M,rfl⟩:∃ M:Nat,LL=(M:Int):=⟨LL.toNat,by omega⟩;rw [Int.natAbs_natCast] at SRQ f3
    go_wp2_with fail
    refine HSO.out.mono ?_;rintro x w6 ⟨rfl,hs,hk⟩;have RC6:=Aside0.mk hs;have RO6:=Aside0.mk (Kd.R_kept RO.out (grow_kept hk) (fun k hk e=>by omega));have HB6:=Aside0.mk (pw_below_grown HB.out (some g2) HB.out.size hk (fun k hk=>by injection hk with hk;omega));clear hs hk HSO HB RO RC
    go_wp2_with fail
    go_loopw [15] (fun v wr=>∃ i:Int,0≤i∧i≤(M:Int)∧v = .int .i64 i∧Aside0 (Below w1.heap.size w1 wr)∧Aside0 (∃ os:List Int,os.length=ws.length∧giveC 1 os ((S.take M).drop i.toNat)=SR∧Kd.R (Kd.int .i64) 3 wr w1.heap.size (fun k=>k=g) (.slice (some ⟨g,0,none⟩) ws.length cap) os)∧Aside0 (Kd.R k106 106 wr w3.heap.size (fun k=>k=g2) (.slice (some ⟨g2,0,none⟩) ws.length cap2) S)) (fun v _=>M - (intOf v).toNat)
    case atStart=>exact ⟨0,by omega,by omega,rfl,HB6,⟨_,hlq,by rw [HSR.out];simp [SRQ],RO6.out⟩,RC6⟩
    case round =>
     clear HB6 RO6 RC6;obtain ⟨i,hi0,hi1,rfl,HB,HO,RC⟩:=hrel;obtain ⟨os,o1,o2,o3⟩:=HO.out;have RO:=Aside0.mk o3;have EO:=Aside0.mk o2;clear HO o2;by_cases hlt:i < (M:Int)
     ·obtain ⟨y0,y1,y2,y3⟩:=cut_get RC.out i hi0 (by omega);have hin:=HIN.out (rd_T106 S i) (mem_at (z:=z106) hi0 (by omega));have hi2:=hin.1;have hi3:=hin.2;obtain ⟨z0,z1⟩:=int_get o3 (rd_T106 S i).f0 hi2 hi3;clear o3 y1 y2 y3;have hwi:IntKind.i64.wrap (i+1)=i+1:=by rw [IntKind.wrap_i64];omega
      have hw1:i < 1000:=by omega
      go_wp2_with fail
      go_roundw
      case rel =>
       refine ⟨i+1,by omega,by omega,rfl,⟨below_set HB.out hg0⟩,⟨os.set (rd_T106 S i).f0.toNat (wrap64 (rd os (rd_T106 S i).f0+1)),by rw [List.length_set];exact o1,?_,?_⟩,⟨Kd.R_far RC.out (fun k hk=>by show k≠g;omega) _⟩⟩
       ·rw [← EO.out]
        conv=>rhs;rw [drop_at (l:=S.take M) (z:=z106) hi0 (by rw [List.length_take];omega)]
        rw [show (S.take M).getD i.toNat z106=rd_T106 S i by unfold rd_T106;rw [List.getD_eq_getElem?_getD,List.getD_eq_getElem?_getD,List.getElem?_take,if_pos (by omega)]];rfl
       ·rw [← i64_w];exact int_seg RO.out _ hi2 hi3 _
      case measure=>simp [intOf];omega
     ·go_wp2_with fail
      go_ret
      refine ⟨_,rfl,?_,HB.out⟩;rw [List.drop_of_length_le (by rw [List.length_take];omega)] at EO;rw [← EO.out];exact Kd.R_mono RO.out (fun _ _=>trivial)
noncomputable def impl_Shares.f (a0:Int) (l1:List Int):Option (List Int):=some (sharesR a0 l1)
theorem impl_Shares.calls (a0:Int) (A1:Option Addr) (c1:Nat) (l1:List Int) (r:List Int) (w:World) (hr1:Kd.C (Kd.int .i64) w A1 l1.length l1) (hc1:l1.length≤c1) (h:impl_Shares.f a0 l1=some r) :
 Calls Tryz.prog 29 #[.int .i64 a0,.slice A1 l1.length c1] w fun e w'=>∃ v0_:Value,e = .returned (v0_)∧Kd.R (Kd.int .i64) 3 w' w.heap.size (fun _=>True) v0_ r∧Below w.heap.size w w':=by
 obtain rfl:=Option.some.inj h;exact impl_Shares.to a0 A1 c1 l1 w hr1 hc1
end Go.Proofs.YtnknanppoenigaaGreatDoor.Q
namespace Go.Proofs.YtnknanppoenigaaGreatDoor.Q
open Go.RowKit Go.Proofs.YtnknanppoenigaaGreatDoorW.PrintWords Go.Proofs.YtnknanppoenigaaGreatDoorW.PrintLast Go.Proofs.YtnknanppoenigaaGreatDoorW.PrintMore
set_option linter.unusedVariables false
set_option linter.unusedSimpArgs false
noncomputable def perGo (l:List Per) (day:Int):Nat→Int→Int
 | 0,_=>-1
 | n+1,i=>if (rd_T63 l i).f0≤day then (if day≤(rd_T63 l i).f1 then i else perGo l day n (i+1)) else perGo l day n (i+1)
noncomputable def perV (l:List Per) (day:Int):Int:=if (l.length:Int) > 60 then -1 else perGo l day l.length 0
theorem impl_PeriodAt_l0 (l:List Per) (day:Int) (hl:l.length≤60):∀ (n k:Nat) (i:Int),0≤i→i+n=(l.length:Int)→n < k→impl_PeriodAt.l0 k day l (l.length:Int) i=some (perGo l day n i):=by
 intro n
 induction n with
 | zero =>
  intro k i h0 hi hk;obtain ⟨k,rfl⟩:∃ j,k=j+1:=⟨k - 1,by omega⟩;simp only [impl_PeriodAt.l0,perGo];rw [if_neg (by omega)]
 | succ n ih =>
  intro k i h0 hi hk;obtain ⟨k,rfl⟩:∃ j,k=j+1:=⟨k - 1,by omega⟩;simp only [impl_PeriodAt.l0,perGo];rw [if_pos (by omega),if_pos h0,if_pos (by omega),wr1 h0 (by omega),ih k (i+1) (by omega) (by omega) (by omega)]
  split
  ·split <;> rfl
  ·rfl
theorem impl_PeriodAt_is (l:List Per) (day:Int):impl_PeriodAt.f 100 l day=some (perV l day):=by
 unfold impl_PeriodAt.f perV
 split
 ·rfl
 ·exact impl_PeriodAt_l0 l day (by omega) l.length 100 0 (by omega) (by omega) (by omega)
section
variable {w0 w W W1:World} {g:Nat} {c:List Int}
theorem Drew.refl (hc:Cur w0 w g c) (hb:Below w0.heap.size w0 w):Drew w0 w w g c:=⟨hc,hb,KeepBut.refl w g none⟩
theorem Drew.size (h:Drew w0 w W g c):w.heap.size≤W.heap.size:=h.keep.1
theorem Drew.below (h:Drew w0 w W g c) (hb:Below W.heap.size W W1):Drew w0 w W1 g c:=⟨h.cur.below hb,below_step h.bel hb,KeepBut.thenK h.keep (KeepBut.of_below hb g none)⟩
theorem Drew.alloc (h:Drew w0 w W g c) (o:Obj):Drew w0 w (W.alloc o) g c:=h.below (below_alloc (Below.refl _ _) o)
theorem Drew.drewN (h:Drew w0 w W g c) (m:Nat):Drew w0 w (W.drewN m) g c:=h.below (pw_below_drewN (Below.refl _ _) m)
theorem Drew.drew (h:Drew w0 w W g c):Drew w0 w W.drew g c:=h.below (below_drew (Below.refl _ _))
theorem Drew.call (h:Drew w0 w W g c) (k:Drew w0 W W1 g c):Drew w0 w W1 g c:=⟨k.cur,k.bel,KeepBut.thenK h.keep k.keep⟩
theorem Drew.grown (h:Drew w0 w W g c) (hl:w0.heap.size≤w.heap.size) {row:Option Nat} (hg:W.grownBy W1 row) (hr:∀ k,row=some k→w.heap.size≤k∧k≠g):Drew w0 w W1 g c:=by
 refine ⟨h.cur.grown hg (fun e=>(hr g e.symm).2 rfl),pw_below_grown h.bel row h.bel.size hg (fun k hk=>Nat.le_trans hl (hr k hk).1),⟨Nat.le_trans h.keep.1 hg.size,fun i hi hne hn=>?_⟩⟩;refine (hg.block i (Nat.lt_of_lt_of_le hi h.keep.1) (fun e=>?_)).trans (h.keep.2 i hi hne hn);have:=(hr i e.symm).1;omega
theorem Drew.set (h:Drew w0 w W g c) (hl:w0.heap.size≤w.heap.size) {p:Addr} (hp:w.heap.size≤p.block) (hne:p.block≠g) (u:Value):Drew w0 w (W.setCell p u) g c:=by
 refine ⟨h.cur.far (fun e=>hne e.symm) u,h.bel.setCell (Nat.le_trans hl hp) u,⟨by simpa using h.keep.1,fun i hi hi2 hn=>?_⟩⟩;refine (Below.heap_setCell W p u i (by omega)).trans (h.keep.2 i hi hi2 hn)
theorem Drew.blk (h:Drew w0 w W g c) {b:Nat} {o:Obj} (hb:w.heap[b]?=some o) (hne:b≠g):W.heap[b]?=some o:=h.keep.blk hb hne (by simp)
theorem Drew.R {α:Type} {d:Kd α} {e base:Nat} {ok:Nat→Prop} {v:Value} {xs:List α} (h:Drew w0 w W g c) (hr:d.R e w base ok v xs) (hok:∀ k,ok k→k≠g):d.R e W base ok v xs:=Kd.R_keep hr h.keep hok
end
theorem blk3 {W:World} {g t:Nat} {z0 z1 z2:Value} (h:W.heap[g]?=some (.cells #[z0,z1,z2] t (0,0))) (u0 u1 u2:Value):(((W.setCell ⟨g,0,none⟩ u0).setCell ⟨g,1,none⟩ u1).setCell ⟨g,2,none⟩ u2).heap[g]?=some (.cells #[u0,u1,u2] t (0,0)):=by
 refine blk_put (cs:=#[u0,u1,z2]) ?_ 2 _ rfl;refine blk_put (cs:=#[u0,z1,z2]) ?_ 1 _ rfl;refine blk_put (cs:=#[z0,z1,z2]) ?_ 0 _ rfl;exact h
def goodChart (l:List Acc):Prop:=l.length≤10∧(∀ x∈l,x.f0.size≤100)∧∀ j:Int,0≤j→j < (l.length:Int)→par l j < j
theorem goodChart_nil:goodChart []:=⟨by simp,fun x hx=>by simp at hx,fun j h0 h1=>by simp at h1;omega⟩
theorem goodChart_snoc {l:List Acc} {s:ByteArray} {p k:Int} (h:goodChart l) (hl:l.length < 10) (hs:s.size≤100) (hp:p < (l.length:Int)):goodChart (l++[⟨s,p,k⟩]):=by
 obtain ⟨h1,h2,h3⟩:=h;refine ⟨by simp;omega,fun x hx=>?_,fun j j0 j1=>?_⟩
 ·rcases List.mem_append.1 hx with hx | hx
  ·exact h2 x hx
  ·obtain rfl:=List.mem_singleton.1 hx;exact hs
 ·unfold par rd_T48;by_cases q:j < (l.length:Int)
  ·rw [List.getD_eq_getElem?_getD,List.getElem?_append_left (by omega),← List.getD_eq_getElem?_getD];exact h3 j j0 q
  ·simp only [List.length_append,List.length_singleton] at j1;rw [List.getD_eq_getElem?_getD,List.getElem?_append_right (by omega),show j.toNat - l.length=0 by omega];show p < j;omega
theorem goodChart_deep {l:List Acc} (h:goodChart l) {a:Int} (ha:a < (l.length:Int)):∀ j:Int,0≤j→j≤a→par l j < j:=fun j j0 j1=>h.2.2 j j0 (by omega)
def smallB (m0:List Acc) (m1:List Ent) (m2:List Per):Prop:=m0.length≤1048576∧(m1.length≤1048576∧∀ x∈m1,x.f3.length≤1048576)∧m2.length≤1048576
end Go.Proofs.YtnknanppoenigaaGreatDoor.Q
