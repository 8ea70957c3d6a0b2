/- Parts of the proof: what functions of the program and of the reference answer.
   No condition. -/
import Derived.Test.YtnknanppoenigaaGreatDoorZSpreadBooks1
import Derived.Test.YtnknanppoenigaaGreatDoorZSpreadBooks2
import Derived.Test.YtnknanppoenigaaGreatDoorZSpreadBooks6
import Derived.Test.YtnknanppoenigaaGreatDoorZSpreadBooks8
import Derived.Test.YtnknanppoenigaaGreatDoorZSpreadBooks7
import Derived.Test.YtnknanppoenigaaGreatDoorZSpreadBooks11
import Derived.Test.YtnknanppoenigaaGreatDoorZSpreadBooks3
import Derived.Test.YtnknanppoenigaaGreatDoorZSpreadBooks4
import Derived.Test.YtnknanppoenigaaGreatDoorZSpreadBooks12
import Derived.BigRegion
namespace Go.Proofs.YtnknanppoenigaaGreatDoor.Q
open Go.RowKit Go.Proofs.YtnknanppoenigaaGreatDoorW.PrintWords Go.Proofs.YtnknanppoenigaaGreatDoorW.PrintLast Go.Proofs.YtnknanppoenigaaGreatDoorW.PrintMore
set_option linter.unusedVariables false
set_option linter.unusedSimpArgs false
def impl_Post.T8:Bool × List (List Nat × List Nat):=(true,[([],[]),([0],[0]),([],[]),([2],[2]),([3],[3]),([1,4,3],[1,4]),([0,1,2,3,4,5],[]),([6,5,5,0,1,2,3,4,5],[5,6])])
def impl_Post.B8:List Nat:=[0,1,0,4,12,31,63,127]
theorem impl_Post.bits8:waitsOk impl_Post.T8.2 impl_Post.B8=true:=by kernel_rfl
theorem impl_Post.tab8:rtab .any (opsOf Tryz.f15 8)=impl_Post.T8:=by kernel_rfl
set_option maxHeartbeats 16000000 in
set_option maxRecDepth 100000 in
theorem impl_Post.to (A0:Option Addr) (c0:Nat) (l0:List Acc) (d c:Int) (A1:Option Addr) (c1:Nat) (l1:List Ent) (h:Int) (e0 e1:Int) (e2:ByteArray) (A2:Option Addr) (c2:Nat) (l2:List Lin) (w:World)
 (hr0:Kd.C k48 w A0 l0.length l0) (hs:∀ x∈l0,x.f0.size≤maxLen) (hr1:Kd.C k41 w A1 l1.length l1) (hm:∀ e∈l1,e.f2.size≤maxLen) (hr2:Kd.C k67 w A2 l2.length l2) (he:e2.size≤maxLen) (hl1:l1.length≤1048576) (hs1:∀ y∈l1,y.f3.length≤1048576) (hl2:l2.length≤1048576) :
 Calls Tryz.prog 15 #[.agg #[.slice A0 l0.length c0,.int .i64 d,.int .i64 c],.agg #[.slice A1 l1.length c1,.int .i64 h],.agg #[.int .i64 e0,.int .i64 e1,.string e2,.slice A2 l2.length c2]] w fun e w'=>∃ v0:Value,e = .returned (.tuple #[.agg #[v0,.int .i64 (postR l0 d c l1 h ⟨e0,e1,e2,l2⟩).2.1],.int .i64 (postR l0 d c l1 h ⟨e0,e1,e2,l2⟩).2.2])∧Kd.S k41 41 w' w.heap.size (fun _=>True) v0 (postR l0 d c l1 h ⟨e0,e1,e2,l2⟩).1∧Below w.heap.size w w':=by
 have H0:=Aside0.mk hr0;have H1:=Aside0.mk hr1;have H2:=Aside0.mk hr2;have HS:=Aside0.mk hs;have HM:=Aside0.mk hm;have HE:=Aside0.mk he;have HL1:=Aside0.mk hl1;have HS1:=Aside0.mk hs1;have HL2:=Aside0.mk hl2;have HB:=Aside0.mk (below_alloc (below_alloc (below_two w (.cells #[.slice A0 l0.length c0,.int .i64 d,.int .i64 c] 26) (.cells #[.slice A1 l1.length c1,.int .i64 h] 29)) (.cells #[.int .i64 e0,.int .i64 e1,.string e2,.slice A2 l2.length c2] 41)) (.cells #[.slice none 0 0,.int .i64 0] 29));clear hr0 hr1 hr2 hs hm he hl1 hs1 hl2
 go_enter Tryz.func15,Tryz.ntmps15
 go_wp2_with fail
 refine (impl_LedgerOk.to A0 c0 l0 d c A1 c1 l1 h _ (Kd.C_below H0.out HB.out) HS.out (Kd.C_below H1.out HB.out) HM.out).mono ?_;rintro x w1 ⟨rfl,hb⟩
 have K0:w1.heap[w.heap.size]?=some (.cells #[.slice A0 l0.length c0,.int .i64 d,.int .i64 c] 26 (0,0)):=by
  have:=y03 (blk_alloc (blk_alloc (blk_alloc (blk_new (w) (.cells #[.slice A0 l0.length c0,.int .i64 d,.int .i64 c] 26)) (.cells #[.slice A1 l1.length c1,.int .i64 h] 29)) (.cells #[.int .i64 e0,.int .i64 e1,.string e2,.slice A2 l2.length c2] 41)) (.cells #[.slice none 0 0,.int .i64 0] 29)) hb
  simpa using this
 have K1:w1.heap[w.heap.size+1]?=some (.cells #[.slice A1 l1.length c1,.int .i64 h] 29 (0,0)):=by
  have:=y03 (blk_alloc (blk_alloc (blk_new ((w).alloc (.cells #[.slice A0 l0.length c0,.int .i64 d,.int .i64 c] 26)) (.cells #[.slice A1 l1.length c1,.int .i64 h] 29)) (.cells #[.int .i64 e0,.int .i64 e1,.string e2,.slice A2 l2.length c2] 41)) (.cells #[.slice none 0 0,.int .i64 0] 29)) hb
  simpa using this
 have K2:w1.heap[w.heap.size+1+1]?=some (.cells #[.int .i64 e0,.int .i64 e1,.string e2,.slice A2 l2.length c2] 41 (0,0)):=by
  have:=y03 (blk_alloc (blk_new (((w).alloc (.cells #[.slice A0 l0.length c0,.int .i64 d,.int .i64 c] 26)).alloc (.cells #[.slice A1 l1.length c1,.int .i64 h] 29)) (.cells #[.int .i64 e0,.int .i64 e1,.string e2,.slice A2 l2.length c2] 41)) (.cells #[.slice none 0 0,.int .i64 0] 29)) hb
  simpa using this
 have K3:w1.heap[w.heap.size+1+1+1]?=some (.cells #[.slice none 0 0,.int .i64 0] 29 (0,0)):=by
  have:=y03 (blk_new ((((w).alloc (.cells #[.slice A0 l0.length c0,.int .i64 d,.int .i64 c] 26)).alloc (.cells #[.slice A1 l1.length c1,.int .i64 h] 29)).alloc (.cells #[.int .i64 e0,.int .i64 e1,.string e2,.slice A2 l2.length c2] 41)) (.cells #[.slice none 0 0,.int .i64 0] 29)) hb
  simpa using this
 have HB1:=Aside0.mk (below_into (w:=w) hb HB.out);have z3:w.heap.size+1+1+1 < w1.heap.size:=blk_lt K3;clear hb HB;have f0:w1.cell? ⟨w.heap.size,0,none⟩=some (.slice A0 l0.length c0):=(y00 K0 0).trans rfl;have f1:w1.cell? ⟨w.heap.size,1,none⟩=some (.int .i64 d):=(y00 K0 1).trans rfl;have f2:w1.cell? ⟨w.heap.size,2,none⟩=some (.int .i64 c):=(y00 K0 2).trans rfl;have g0:w1.cell? ⟨w.heap.size+1,0,none⟩=some (.slice A1 l1.length c1):=(y00 K1 0).trans rfl;have g1:w1.cell? ⟨w.heap.size+1,1,none⟩=some (.int .i64 h):=(y00 K1 1).trans rfl;have u0:w1.cell? ⟨w.heap.size+1+1,0,none⟩=some (.int .i64 e0):=(y00 K2 0).trans rfl;have u1:w1.cell? ⟨w.heap.size+1+1,1,none⟩=some (.int .i64 e1):=(y00 K2 1).trans rfl;have u2:w1.cell? ⟨w.heap.size+1+1,2,none⟩=some (.string e2):=(y00 K2 2).trans rfl;have u3:w1.cell? ⟨w.heap.size+1+1,3,none⟩=some (.slice A2 l2.length c2):=(y00 K2 3).trans rfl;have y0:w1.cell? ⟨w.heap.size+1+1+1,0,none⟩=some (.slice none 0 0):=(y00 K3 0).trans rfl;have yf0:=y02 K3 0;have y1:w1.cell? ⟨w.heap.size+1+1+1,1,none⟩=some (.int .i64 0):=(y00 K3 1).trans rfl;have yf1:=y02 K3 1;have LK3:=Aside0.mk K3;have LK2:=Aside0.mk K2;have LK1:=Aside0.mk K1;have LK0:=Aside0.mk K0;clear K0 K1 K2 K3;cases q1:ledgerB l0 d c l1 h with
 | false =>
  have HN:=Aside0.mk (show postR l0 d c l1 h ⟨e0,e1,e2,l2⟩=([],0,1) from if_neg (by simp only [q1];simp));clear q1
  go_wp2_with fail
  rw [HN.out];refine bodyPost_ret (results_ct rfl _ _ (w.heap.size+1+1+1) 29 #[.slice none 0 0,.int .i64 0] (0,0) _ rfl (by exact blk2 LK3.out _ _) Tryz.underlying29 rfl (by kernel_rfl)) rfl ?_;exact ⟨.slice none 0 0,rfl,Kd.S_nil _ _ _ _ _,below_put2 HB1.out (by omega) _ _⟩
 | true =>
  have HQ:=Aside0.mk (ledgerB_true.1 q1);have HQB:=Aside0.mk q1;clear q1
  go_wp2_with fail
  refine (impl_copyLedger.to A1 c1 h l1 _ (Kd.C_below H1.out HB1.out) HL1.out HS1.out).mono ?_;rintro x w2 ⟨v,rfl,hS,hb⟩;obtain ⟨B1,q1,rfl⟩:=Kd.S_slice hS;have HO2:=Aside0.mk (Kd.S_lower (Kd.S_mono (ok':=fun k=>w1.heap.size≤k) (Kd.S_bound hS) (fun k hk=>hk.2.1)) (show w.heap.size≤w1.heap.size by omega));have HB2:=Aside0.mk (below_into (w:=w) hb HB1.out);have s12:=hb.size;replace LK0:=Aside0.mk (y03 LK0.out hb);replace LK1:=Aside0.mk (y03 LK1.out hb);replace LK2:=Aside0.mk (y03 LK2.out hb);replace LK3:=Aside0.mk (y03 LK3.out hb);replace f0:=y01 hb f0;replace f1:=y01 hb f1;replace f2:=y01 hb f2;replace g0:=y01 hb g0;replace g1:=y01 hb g1;replace u0:=y01 hb u0;replace u1:=y01 hb u1;replace u2:=y01 hb u2;replace u3:=y01 hb u3;replace y0:=y01 hb y0;replace y1:=y01 hb y1;replace yf0:=y02 LK3.out 0;replace yf1:=y02 LK3.out 1;have zb0:w.heap.size < w2.heap.size:=by omega
  have zb1:w.heap.size+1 < w2.heap.size:=by omega
  have zb2:w.heap.size+1+1 < w2.heap.size:=by omega
  have zb3:w.heap.size+1+1+1 < w2.heap.size:=by omega
  clear hb hS
  go_wp2_with fail
  refine (impl_entryIn.to A0 c0 l0 d c (⟨e0,e1,e2,l2⟩:Ent) A2 c2 _ (Kd.C_below H0.out (below_alloc HB2.out _)) (Kd.C_below H2.out (below_alloc HB2.out _)) (frame_len HQ.out.1).2.1 (frame_len HQ.out.1).2.2 HE.out).mono ?_;rintro x w3 ⟨rfl,hb⟩;have LK4:=Aside0.mk (y03 (blk_new w2 (.cells #[.slice B1 l1.length q1,.int .i64 h] 29)) hb);have HO3:=Aside0.mk (Kd.S_below (Kd.S_alloc HO2.out _) hb);have HB3:=Aside0.mk (below_into (w:=w) hb (below_alloc HB2.out _));have s23:w2.heap.size+1≤w3.heap.size:=by have:=hb.size;simpa using this
  replace LK0:=Aside0.mk (y03 (blk_alloc LK0.out _) hb);replace LK1:=Aside0.mk (y03 (blk_alloc LK1.out _) hb);replace LK2:=Aside0.mk (y03 (blk_alloc LK2.out _) hb);replace LK3:=Aside0.mk (y03 (blk_alloc LK3.out _) hb);replace f0:w3.cell? ⟨w.heap.size,0,none⟩=some (.slice A0 l0.length c0):=(y00 LK0.out 0).trans rfl;replace f1:w3.cell? ⟨w.heap.size,1,none⟩=some (.int .i64 d):=(y00 LK0.out 1).trans rfl;replace f2:w3.cell? ⟨w.heap.size,2,none⟩=some (.int .i64 c):=(y00 LK0.out 2).trans rfl;replace g0:w3.cell? ⟨w.heap.size+1,0,none⟩=some (.slice A1 l1.length c1):=(y00 LK1.out 0).trans rfl;replace g1:w3.cell? ⟨w.heap.size+1,1,none⟩=some (.int .i64 h):=(y00 LK1.out 1).trans rfl;replace u0:w3.cell? ⟨w.heap.size+1+1,0,none⟩=some (.int .i64 e0):=(y00 LK2.out 0).trans rfl;replace u1:w3.cell? ⟨w.heap.size+1+1,1,none⟩=some (.int .i64 e1):=(y00 LK2.out 1).trans rfl;replace u2:w3.cell? ⟨w.heap.size+1+1,2,none⟩=some (.string e2):=(y00 LK2.out 2).trans rfl;replace u3:w3.cell? ⟨w.heap.size+1+1,3,none⟩=some (.slice A2 l2.length c2):=(y00 LK2.out 3).trans rfl;replace y0:w3.cell? ⟨w.heap.size+1+1+1,0,none⟩=some (.slice none 0 0):=(y00 LK3.out 0).trans rfl;replace yf0:=y02 LK3.out 0;replace y1:w3.cell? ⟨w.heap.size+1+1+1,1,none⟩=some (.int .i64 0):=(y00 LK3.out 1).trans rfl;replace yf1:=y02 LK3.out 1;have o0:w3.cell? ⟨w2.heap.size,0,none⟩=some (.slice B1 l1.length q1):=(y00 LK4.out 0).trans rfl;have of0:=y02 LK4.out 0;have o1:w3.cell? ⟨w2.heap.size,1,none⟩=some (.int .i64 h):=(y00 LK4.out 1).trans rfl;have of1:=y02 LK4.out 1;clear hb HO2;cases q2:entryB l0 d c (⟨e0,e1,e2,l2⟩:Ent) with
  | false =>
   have HN:=Aside0.mk (show postR l0 d c l1 h ⟨e0,e1,e2,l2⟩=(l1,h,2) by unfold postR;rw [if_pos HQB.out,if_neg (by rw [q2];simp)]);clear q2
   go_wp2_with fail
   rw [HN.out];refine bodyPost_ret (results_ct rfl _ _ (w.heap.size+1+1+1) 29 #[.slice B1 l1.length q1,.int .i64 h] (0,0) _ rfl (by exact blk2 LK3.out _ _) Tryz.underlying29 rfl (by kernel_rfl)) rfl ?_;exact ⟨_,rfl,Kd.S_mono (S_put2 HO3.out LK3.out (by decide) _ _) (fun _ _=>trivial),below_put2 HB3.out (by omega) _ _⟩
  | true =>
   have HEP:=Aside0.mk (entryB_true.1 q2);have HEB:=Aside0.mk q2;clear q2;by_cases hn:l1.length=1000
   case pos =>
    have HN:=Aside0.mk (show postR l0 d c l1 h ⟨e0,e1,e2,l2⟩=(l1,h,3) by unfold postR;rw [if_pos HQB.out,if_pos HEB.out,if_pos hn]);have nb:((l1.length:Int) == 1000)=true:=by rw [hn];rfl
    have HNN:=Aside0.mk hn;clear hn
    go_wp2_with fail
    rw [HN.out];refine bodyPost_ret (results_ct rfl _ _ (w.heap.size+1+1+1) 29 #[.slice B1 l1.length q1,.int .i64 h] (0,0) _ rfl (by exact blk2 LK3.out _ _) Tryz.underlying29 rfl (by kernel_rfl)) rfl ?_;exact ⟨_,rfl,Kd.S_mono (S_put2 HO3.out LK3.out (by decide) _ _) (fun _ _=>trivial),below_put2 HB3.out (by omega) _ _⟩
   case neg =>
    have HN:=Aside0.mk (show postR l0 d c l1 h ⟨e0,e1,e2,l2⟩=(l1++[⟨e0,e1,e2,l2⟩],headV (l1++[⟨e0,e1,e2,l2⟩]),0) by unfold postR;rw [if_pos HQB.out,if_pos HEB.out,if_neg hn])
    have nb:((l1.length:Int) == 1000)=false:=by
     cases hq:((l1.length:Int) == 1000) with
     | false=>rfl
     | true=>exact absurd (by have:=eq_of_beq hq;omega) hn
    have hn9:l1.length≤999:=by have:=HQ.out.2.1;omega
    have HD:=Aside0.mk (head_post HQ.out hn9 HEP.out);have HI:=Aside0.mk (head_in HQ.out);have H40:=Aside0.mk (show e2.size≤40 from HEP.out.2.2.1);have HN9:=Aside0.mk hn9;clear hn hn9
    go_upto_region 8 with fail
    go_cut [32] (fun s_ wx=>∃ (B:Option Addr) (q:Nat),s_ = .slice B (l1.length+1) q∧wx.heap[w2.heap.size]?=some (.cells #[.slice B (l1.length+1) q,.int .i64 h] 29 (0,0))∧wx.heap[w.heap.size+1]?=some (.cells #[.slice A1 l1.length c1,.int .i64 h] 29 (0,0))∧wx.heap[w.heap.size+1+1]?=some (.cells #[.int .i64 e0,.int .i64 e1,.string e2,.slice A2 l2.length c2] 41 (0,0))∧wx.heap[w.heap.size+1+1+1]?=some (.cells #[.slice none 0 0,.int .i64 0] 29 (0,0))∧Aside0 (Kd.S k41 41 wx w.heap.size (fun k=>w1.heap.size≤k) (.slice B (l1.length+1) q) (l1++[⟨e0,e1,e2,l2⟩]))∧Aside0 (Below w.heap.size w wx)∧w3.heap.size≤wx.heap.size)
    case first =>
     clear f0 f1 f2 g0 g1 y0 y1 yf0 yf1;have HO0:=Aside0.mk (Kd.S_drew HO3.out);have M1:=Aside0.mk (blk_drew LK1.out);have M2:=Aside0.mk (blk_drew LK2.out);have M3:=Aside0.mk (blk_drew LK3.out);have M4:=Aside0.mk (blk_drew LK4.out);have HBD:=Aside0.mk (below_drew1 HB3.out);have sD:w3.drew.heap.size=w3.heap.size:=rfl;refine start_ (n:=8) (S:=fun w'=>w'.cell? ⟨w2.heap.size,0,none⟩=some (.slice B1 l1.length q1)∧w'.cell? ⟨w2.heap.size,1,none⟩=some (.int .i64 h)∧w'.cell? ⟨w.heap.size+1+1,0,none⟩=some (.int .i64 e0)∧w'.cell? ⟨w.heap.size+1+1,1,none⟩=some (.int .i64 e1)∧w'.cell? ⟨w.heap.size+1+1,2,none⟩=some (.string e2)∧w'.cell? ⟨w.heap.size+1+1,3,none⟩=some (.slice A2 l2.length c2)) (ds:=[7]) #[false,false,false,false,false,false,false,false] (by kernel_rfl) rfl rfl ⟨(y00 M4.out 0).trans rfl,(y00 M4.out 1).trans rfl,(y00 M2.out 0).trans rfl,(y00 M2.out 1).trans rfl,(y00 M2.out 2).trans rfl,(y00 M2.out 3).trans rfl⟩ (fun hHeld=>?_);refine with_tabW impl_Post.tab8 impl_Post.bits8 (fun HT_ HW_=>?_);have sg:w3.heap.size=w3.heap.size:=rfl;clear u0 u1 u2 u3 o0 o1 of0 of1 sg;generalize w3.drew=w5 at *;refine pa_ 0 27 HT_ ?_;refine take_ (i:=1) (N:=some 28) (v:=?_) (a':=?_) #[true,true,false,false,false,false,false,false] rfl rfl (take_ofW HT_.out HW_.out (by kernel_rfl)) (fun _ _ _ h=>h) (Or.inl ⟨by rfl,?_⟩) hHeld ?_ ?_;rotate_left
     ·rintro w' ⟨s0,s1,s2,s3,s4,s5⟩
      go_simp;with_reducible rfl
     rotate_left
     ·simp only [Act.put,List.setIfInBounds_toArray,List.set_cons_zero,List.set_cons_succ,i64_w,i32_w];rfl
     refine take_ (i:=2) (N:=some 29) (v:=?_) (a':=?_) #[true,true,true,false,false,false,false,false] rfl rfl (take_ofW HT_.out HW_.out (by kernel_rfl)) (fun _ _ _ h=>h) (Or.inl ⟨by rfl,?_⟩) hHeld ?_ ?_;rotate_left
     ·rintro w' ⟨s0,s1,s2,s3,s4,s5⟩
      go_simp;with_reducible rfl
     rotate_left
     ·simp only [Act.put,List.setIfInBounds_toArray,List.set_cons_zero,List.set_cons_succ,i64_w,i32_w];rfl
     refine one_ (i:=3) (N:=some 30) #[true,true,true,true,false,false,false,false] rfl rfl (one_of HT_.out (by kernel_rfl)) (by decide) (fun K hK=>?_);refine goes_ Tryz.func44 (by kernel_rfl) rfl #[.agg #[.int .i64 e0,.int .i64 e1,.string e2,.slice A2 l2.length c2]] (by rfl) rfl rfl (by (try simp only [List.map_toArray,List.map_cons,List.map_nil]);rfl) ?_
     with_reducible refine (impl_copyEntry.to e0 e1 e2 A2 c2 l2 _ ?side1 HL2.out).mono ?_
     (case side1=>exact Kd.C_below H2.out HBD.out)
     rintro e w6 ⟨v116,rfl,ho0,hb⟩;refine ⟨_,rfl,?_⟩;have HX:=Aside0.mk (Kd.S_elder' HO0.out (Kd.R_base ho0) hb);have HY:=Aside0.mk (Kd.R_lower (Kd.R_mono (ok':=fun k=>w5.heap.size≤k) (Kd.R_bound ho0) (fun k hk=>hk.2.1)) HBD.out.size);have HB6:=Aside0.mk (below_into (w:=w) hb HBD.out);have s56:=hb.size;replace M1:=Aside0.mk (y03 M1.out hb);replace M2:=Aside0.mk (y03 M2.out hb);replace M3:=Aside0.mk (y03 M3.out hb);replace M4:=Aside0.mk (y03 M4.out hb);clear hb ho0 HO0;obtain ⟨A5,c5,eo70⟩:=Kd.R_slice HY.out;subst eo70;refine hK.out _ _ ⟨(y00 M4.out 0).trans rfl,(y00 M4.out 1).trans rfl,(y00 M2.out 0).trans rfl,(y00 M2.out 1).trans rfl,(y00 M2.out 2).trans rfl,(y00 M2.out 3).trans rfl⟩ (fun hHeld=>?_);clear hK K;refine norm_ (a':=?_) ?_ ?_;rotate_left
     ·show Act.put _ (some 30) _=_;simp only [Act.put,List.setIfInBounds_toArray,List.set_cons_zero,List.set_cons_succ,i64_w,i32_w];rfl
     refine one_ (i:=4) (N:=some 31) #[true,true,true,true,true,false,false,false] rfl rfl (one_of HT_.out (by kernel_rfl)) (by decide) (fun K hK=>?_);refine value_ (w1:=?_) (v:=?_) (by rfl) rfl ?_ ?_;rotate_left 2
     ·go_simp
      constructor
      ·rfl
      ·rfl
     refine hK.out _ _ ⟨(y00 (blk_alloc M4.out _) 0).trans rfl,(y00 (blk_alloc M4.out _) 1).trans rfl,(y00 (blk_alloc M2.out _) 0).trans rfl,(y00 (blk_alloc M2.out _) 1).trans rfl,(y00 (blk_alloc M2.out _) 2).trans rfl,(y00 (blk_alloc M2.out _) 3).trans rfl⟩ (fun hHeld=>?_);clear hK K;refine norm_ (a':=?_) ?_ ?_;rotate_left
     ·show Act.put _ (some 31) _=_;simp only [Act.put,List.setIfInBounds_toArray,List.set_cons_zero,List.set_cons_succ,i64_w,i32_w];rfl
     refine one_ (i:=5) (N:=some 32) #[true,true,true,true,true,true,false,false] rfl rfl (one_of HT_.out (by kernel_rfl)) (by decide) (fun K hK=>?_);have HZ:=Aside0.mk (Kd.R_apart' HY.out (Kd.S_typed HX.out) (by decide));refine Kd.S_append_step k41 (w0:=w) w.heap.size (by rfl) (.tmp 28) (.tmp 31) 27 41 (.agg #[(.int .i64 0),(.int .i64 0),(.string ⟨#[]⟩),(.slice none 0 0)]) 56 rfl Tryz.underlying27 infoEntry rfl (by decide) (by omega) (.slice B1 l1.length q1) l1 (⟨e0,e1,e2,l2⟩:S41) [.int .i64 e0,.int .i64 e1,.string e2,.slice A5 l2.length c5] (fun k_=>w1.heap.size≤k_) (fun k_=>some k_=(.slice A5 l2.length c5:Value).ownBlock) rfl rfl ?aP ?aQ ?aF ?aO ?aB ?aS ?aL ?_
     (case aP=>exact k41_mkM _ _ _ (⟨e0,e1,e2,l2⟩:S41) (Kd.R_mono (Kd.R_tight rfl HZ.out) (fun _ h_=>h_)))
     (case aQ=>exact fun k_ hk_=>⟨Nat.le_trans (show w1.heap.size≤w5.heap.size by omega) (HZ.out.1 k_ hk_.symm).1,(HZ.out.1 k_ hk_.symm).2⟩)
     (case aB=>exact HB6.out)
     (case aF=>exact (fun k_ hk=>by omega))
     (case aO=>exact Kd.S_mono HX.out (fun k_ hk=>⟨hk.1,fun e_=>hk.2 e_⟩))
     (case aS=>exact HB6.out.size)
     (case aL=>have:=HN9.out;omega)
     intro v119 w7 ho hb hg hat;have M1':=Aside0.mk (blk_grown M1.out hg (Kd.S_ne HX.out M1.out (by decide)));have M2':=Aside0.mk (blk_grown M2.out hg (Kd.S_away HX.out (fun k hk=>by have:=hk.1;omega)));have M3':=Aside0.mk (blk_grown M3.out hg (Kd.S_ne HX.out M3.out (by decide)));have M4':=Aside0.mk (blk_grown M4.out hg (Kd.S_ne HX.out M4.out (by decide)));have HB7:=Aside0.mk hb;have s67:=hg.size;have HO7:=Aside0.mk ho;clear ho hb hg hat M1 M2 M3 M4 HX HY HZ HB6;obtain ⟨B2,q2,eo71⟩:=Kd.S_slice HO7.out;rw [List.length_append] at eo71;subst eo71;refine hK.out _ _ ⟨(y00 M4'.out 0).trans rfl,(y00 M4'.out 1).trans rfl,(y00 M2'.out 0).trans rfl,(y00 M2'.out 1).trans rfl,(y00 M2'.out 2).trans rfl,(y00 M2'.out 3).trans rfl⟩ (fun hHeld=>?_);clear hK K;refine norm_ (a':=?_) ?_ ?_;rotate_left
     ·show Act.put _ (some 32) _=_;simp only [Act.put,List.setIfInBounds_toArray,List.set_cons_zero,List.set_cons_succ,i64_w,i32_w];rfl
     refine pa_ 6 33 HT_ ?_;refine last_ (i:=7) (N:=none) #[true,true,true,true,true,true,true,true] rfl rfl (one_of HT_.out (by kernel_rfl)) (by decide) (fun K hK=>?_);have hs72:w7.cell? ⟨w2.heap.size,0,none⟩=some (.slice B1 l1.length q1):=(y00 M4'.out 0).trans rfl;have hfs72:=y02 M4'.out 0;refine skip_ (w1:=?_) (by rfl) rfl ?_ ?_;rotate_left
     ·go_simp;rfl
     refine hK.out _ _ ?_;clear hK K;refine done_ (done_of HT_.out (by kernel_rfl)) ?_
     try go_wp2_with fail
     go_meet
     refine ⟨B2,q2,rfl,by exact blk_put M4'.out 0 _ rfl,by exact blk_far M1'.out (by simp;omega) _,by exact blk_far M2'.out (by simp;omega) _,by exact blk_far M3'.out (by simp;omega) _,⟨?_⟩,⟨below_set HB7.out (by omega)⟩,by simp;omega⟩;exact Kd.S_mono (Kd.S_far (p:=⟨w2.heap.size,0,none⟩) (Kd.S_types HO7.out M4'.out (by decide)) (fun _ hk=>hk.2) _) (fun _ hk=>hk.1)
    clear f0 f1 f2 g0 g1 u0 u1 u2 u3 y0 y1 yf0 yf1 o0 o1 of0 of1 LK0 LK1 LK2 LK3 LK4 HO3 HB3;obtain ⟨B,q,rfl,N4,N1,N2,N3,HO,HBX,hsz⟩:=hcut;obtain ⟨w4,rfl⟩:∃ W_:World,W_=wc:=⟨_,rfl⟩;have zc:w.heap.size+1+1+1 < w4.heap.size:=by omega
    have zd:w2.heap.size < w4.heap.size:=by omega
    have ze:w.heap.size+1+1 < w4.heap.size:=by omega
    have zf:w.heap.size+1 < w4.heap.size:=by omega
    have zg:w.heap.size < w4.heap.size:=by omega
    have g1:w4.cell? ⟨w.heap.size+1,1,none⟩=some (.int .i64 h):=(y00 N1 1).trans rfl;have u0:w4.cell? ⟨w.heap.size+1+1,0,none⟩=some (.int .i64 e0):=(y00 N2 0).trans rfl;have u1:w4.cell? ⟨w.heap.size+1+1,1,none⟩=some (.int .i64 e1):=(y00 N2 1).trans rfl;have u2:w4.cell? ⟨w.heap.size+1+1,2,none⟩=some (.string e2):=(y00 N2 2).trans rfl;have u3:w4.cell? ⟨w.heap.size+1+1,3,none⟩=some (.slice A2 l2.length c2):=(y00 N2 3).trans rfl;have M4:=Aside0.mk N4;have M3:=Aside0.mk N3;clear N1 N2 N3 N4
    go_wp2_with fail
    refine (impl_numbersOf.to w4.heap.size (h,false) (⟨e0,e1,e2,l2⟩:Ent) A2 c2 w _ (blk_new w4 _) HI.out (by omega) (below_alloc HBX.out _) H2.out H40.out).mono ?_;rintro x w5 ⟨rfl,hat,hbel,hkeep⟩;rw [HD.out] at hat;have HO5:=Aside0.mk (Kd.S_keep (Kd.S_alloc (Kd.S_bound HO.out) (.cells #[.int .i64 h,.bool false] 89)) hkeep (fun k hk=>by have:=hk.2.2.1;omega));have P4:=hkeep.blk (blk_alloc M4.out _) (show w2.heap.size≠w4.heap.size by omega) (by simp);have P3:=hkeep.blk (blk_alloc M3.out _) (show w.heap.size+1+1+1≠w4.heap.size by omega) (by simp);have HB5:=Aside0.mk hbel;have i0:w5.cell? ⟨w4.heap.size,0,none⟩=some (.int .i64 (headV (l1++[⟨e0,e1,e2,l2⟩]))):=(y00 hat 0).trans rfl;have o0:w5.cell? ⟨w2.heap.size,0,none⟩=some (.slice B (l1.length+1) q):=(y00 P4 0).trans rfl;have o1:w5.cell? ⟨w2.heap.size,1,none⟩=some (.int .i64 h):=(y00 P4 1).trans rfl;have of0:=y02 P4 0;have of1:=y02 P4 1;have y0:w5.cell? ⟨w.heap.size+1+1+1,0,none⟩=some (.slice none 0 0):=(y00 P3 0).trans rfl;have y1:w5.cell? ⟨w.heap.size+1+1+1,1,none⟩=some (.int .i64 0):=(y00 P3 1).trans rfl;have yf0:=y02 P3 0;have yf1:=y02 P3 1;have P4':=Aside0.mk P4;have P3':=Aside0.mk P3;have zn:w.heap.size+1+1+1≠w2.heap.size:=by omega
    clear hkeep hbel hat P4 P3 u0 u1 u2 u3 g1 HD;generalize headV (l1++[⟨e0,e1,e2,l2⟩])=hv at *
    go_wp2_with fail
    rw [HN.out];refine bodyPost_ret (results_ct rfl _ _ (w.heap.size+1+1+1) 29 #[.slice B (l1.length+1) q,.int .i64 hv] (0,0) _ rfl (by exact blk2 (blk_far P3'.out zn _) _ _) Tryz.underlying29 rfl (by kernel_rfl)) rfl ?_;exact ⟨_,rfl,Kd.S_mono (S_put2 (Kd.S_far (p:=⟨w2.heap.size,1,none⟩) (Kd.S_types HO5.out P4'.out (by decide)) (fun _ hk=>hk.2) _) (blk_far P3'.out zn _) (by decide) _ _) (fun _ _=>trivial),below_put2 (below_set HB5.out (by omega)) (by omega) _ _⟩
theorem impl_Post.at (A0:Option Addr) (c0:Nat) (l0:List Acc) (d c:Int) (A1:Option Addr) (c1:Nat) (l1:List Ent) (h:Int) (e0 e1:Int) (e2:ByteArray) (A2:Option Addr) (c2:Nat) (l2:List Lin) (r0:List Ent) (rh rk:Int) (w:World)
 (hr0:Kd.C k48 w A0 l0.length l0) (hc0:l0.length≤c0) (hr1:Kd.C k41 w A1 l1.length l1) (hc1:l1.length≤c1) (hr2:Kd.C k67 w A2 l2.length l2) (hc2:l2.length≤c2) (hf:((∀ x∈l0,x.f0.size≤maxLen)∧(∀ e∈l1,e.f2.size≤maxLen)∧e2.size≤maxLen∧l1.length≤1048576∧(∀ y∈l1,y.f3.length≤1048576)∧l2.length≤1048576)∧postR l0 d c l1 h ⟨e0,e1,e2,l2⟩=(r0,rh,rk)) :
 Calls Tryz.prog 15 #[.agg #[.slice A0 l0.length c0,.int .i64 d,.int .i64 c],.agg #[.slice A1 l1.length c1,.int .i64 h],.agg #[.int .i64 e0,.int .i64 e1,.string e2,.slice A2 l2.length c2]] w fun e w'=>∃ v0:Value,e = .returned (.tuple #[.agg #[v0,.int .i64 rh],.int .i64 rk])∧Kd.S k41 41 w' w.heap.size (fun _=>True) v0 r0∧Below w.heap.size w w':=by
 obtain ⟨⟨h1,h2,h3,h4,h5,h6⟩,hR⟩:=hf;have:=impl_Post.to A0 c0 l0 d c A1 c1 l1 h e0 e1 e2 A2 c2 l2 w hr0 h1 hr1 h2 hr2 h3 h4 h5 h6;rw [hR] at this;exact this
def clU (B:Int→Int) (d:Int) (ls:List Int) (j:Nat):List Lin:=(ls.take j).flatMap (fun i=>if B i=0 then [] else [⟨i,d,0,-B i,-B i⟩])
def clS (B:Int→Int) (ls:List Int) (j:Nat):Int:=((ls.take j).map B).sum
def clA (B:Int→Int) (ls:List Int) (j:Nat):Bool:=(ls.take j).any (fun i=>decide (B i≠0))
def dimL (kept:Int) (B:Int→Int) (d:Int) (ls:List Int):List Lin:=clU B d ls ls.length++(if clA B ls ls.length=true then [⟨kept,d,0,clS B ls ls.length,clS B ls ls.length⟩] else [])
def allL (kept:Int) (B:Int→Int→Int) (ls:List Int):Nat→List Lin
 | 0=>[]
 | n+1=>allL kept B ls n++dimL kept (B n) n ls
theorem take_step1 (ls:List Int) (j:Nat) (h:j < ls.length):ls.take (j+1)=ls.take j++[rd ls j]:=by
 rw [List.take_add_one,List.getElem?_eq_getElem h];unfold rd;rw [List.getD_eq_getElem?_getD];simp only [Int.toNat_natCast];rw [List.getElem?_eq_getElem h];rfl
theorem clU_zero {B:Int→Int} {d:Int} {ls:List Int} {j:Nat} (h:j < ls.length) (hb:B (rd ls j)=0):clU B d ls (j+1)=clU B d ls j:=by
 unfold clU;rw [take_step1 ls j h,List.flatMap_append];simp [hb]
theorem clU_some {B:Int→Int} {d:Int} {ls:List Int} {j:Nat} (h:j < ls.length) (hb:B (rd ls j)≠0):clU B d ls (j+1)=clU B d ls j++[⟨rd ls j,d,0,-B (rd ls j),-B (rd ls j)⟩]:=by
 unfold clU;rw [take_step1 ls j h,List.flatMap_append];simp [hb]
theorem clS_step {B:Int→Int} {ls:List Int} {j:Nat} (h:j < ls.length):clS B ls (j+1)=clS B ls j+B (rd ls j):=by
 unfold clS;rw [take_step1 ls j h,List.map_append,List.sum_append];simp
theorem clA_zero {B:Int→Int} {ls:List Int} {j:Nat} (h:j < ls.length) (hb:B (rd ls j)=0):clA B ls (j+1)=clA B ls j:=by
 unfold clA;rw [take_step1 ls j h,List.any_append];simp [hb]
theorem clA_some {B:Int→Int} {ls:List Int} {j:Nat} (h:j < ls.length) (hb:B (rd ls j)≠0):clA B ls (j+1)=true:=by
 unfold clA;rw [take_step1 ls j h,List.any_append];simp [hb]
theorem clU_len (B:Int→Int) (d:Int) (ls:List Int) (j:Nat):(clU B d ls j).length≤ls.length:=by
 have:∀ l:List Int,(l.flatMap (fun i=>if B i=0 then ([]:List Lin) else [⟨i,d,0,-B i,-B i⟩])).length≤l.length:=by
  intro l
  induction l with
  | nil=>simp
  | cons x l ih =>
   rw [List.flatMap_cons,List.length_append,List.length_cons];have hx:(if B x=0 then ([]:List Lin) else [⟨x,d,0,-B x,-B x⟩]).length≤1:=by split <;> simp
   omega
 have h:=this (ls.take j);have h2:(ls.take j).length≤ls.length:=by rw [List.length_take];omega
 unfold clU;omega
theorem clS_b {B:Int→Int} (hB:∀ i,-6000000000000000≤B i∧B i≤6000000000000000) (ls:List Int) (j:Nat) (hl:ls.length≤120):-720000000000000000≤clS B ls j∧clS B ls j≤720000000000000000:=by
 have:∀ l:List Int,-6000000000000000 * (l.length:Int)≤(l.map B).sum∧(l.map B).sum≤6000000000000000 * (l.length:Int):=by
  intro l
  induction l with
  | nil=>simp
  | cons x l ih =>
   have:=hB x;simp only [List.map_cons,List.sum_cons,List.length_cons]
   push_cast
   omega
 have h:=this (ls.take j);have h2:(ls.take j).length≤ls.length:=by rw [List.length_take];omega
 unfold clS;omega
theorem dimL_len (kept:Int) (B:Int→Int) (d:Int) (ls:List Int):(dimL kept B d ls).length≤ls.length+1:=by
 have:=clU_len B d ls ls.length;unfold dimL;rw [List.length_append]
 split <;> simp <;> omega
theorem allL_len (kept:Int) (B:Int→Int→Int) (ls:List Int) (hl:ls.length≤120) (n:Nat):(allL kept B ls n).length≤121 * n:=by
 induction n with
 | zero=>simp [allL]
 | succ n ih =>
  have:=dimL_len kept (B n) n ls;simp only [allL,List.length_append];omega
def closeT:ByteArray:=⟨#[99,108,111,115,101]⟩
def clB (es:List Ent) (day d i:Int):Int:=basV i d (-1) (-4611686018427387904) day es
noncomputable def closeL (m0:List Acc) (dims:Int) (m1:List Ent) (kept day:Int):List Lin:=allL kept (clB m1 day) (leavesUpto m0 m0.length) dims.toNat
open Classical in
noncomputable def closeR (m0:List Acc) (d c:Int) (m1:List Ent) (h:Int) (m2:List Per) (a b day:Int):Int × Int × ByteArray × List Lin × Bool :=
 if booksB m0 d c m1 h m2 a b=true∧entryB m0 d c ⟨day,0,closeT,closeL m0 d m1 b day⟩=true then (day,0,closeT,closeL m0 d m1 b day,true) else (0,0,⟨#[]⟩,[],false)
theorem clB_b {es:List Ent} (hf:∀ e∈es,entFine e) (hn:es.length≤1000) (day d i:Int):-6000000000000000≤clB es day d i∧clB es day d i≤6000000000000000:=by
 have:=basV_b i d (-1) (-4611686018427387904) day es hf;unfold clB;omega
noncomputable def perChk (kd f n:Int):Bool:=match spec_Periods.f 120 kd f n with
 | some ps=>decide (1≤ps.length∧ps.length≤13)
 | none=>false
theorem per_all:([1,2,3].all fun kd=>[0,31].all fun f=>[1,2,3,4,5,6,7,8,9,10,11,12,13].all fun n=>perChk kd f n)=true:=by decide +kernel
theorem per_at {kd f n:Int} (h1:1≤kd∧kd≤3) (h2:f=0∨f=31) (h3:1≤n∧n≤13):∃ ps,spec_Periods.f 120 kd f n=some ps∧1≤ps.length∧ps.length≤13:=by
 have h:=per_all;rw [List.all_eq_true] at h;have ha:=h kd (by simp;omega);rw [List.all_eq_true] at ha;have hb:=ha f (by simp;omega);rw [List.all_eq_true] at hb;have hc:=hb n (by simp;omega);unfold perChk at hc;cases hq:spec_Periods.f 120 kd f n with
 | none=>rw [hq] at hc;cases hc
 | some ps=>rw [hq] at hc;exact ⟨ps,rfl,of_decide_eq_true hc⟩
theorem spec_Periods.e (kd f n:Int) (w:World) (h1:1≤kd∧kd≤3) (h2:f=0∨f=31) (h3:1≤n∧n≤13) :
 Calls Tryz.prog 52 #[.int .i64 kd,.int .i64 f,.int .i64 n] w fun e w'=>∃ (v:Value) (ps:List Per),e = .returned v∧Kd.R k63 63 w' w.heap.size (fun _=>True) v ps∧(1≤ps.length∧ps.length≤13)∧Below w.heap.size w w':=by
 obtain ⟨ps,e,hp⟩:=per_at h1 h2 h3;refine (spec_Periods.calls 120 kd f n ps w e).mono ?_;rintro e w' ⟨v,he,hR,hb⟩;exact ⟨v,ps,he,hR,hp,hb⟩
theorem chart_two {l:List Acc} (h:goodChart l∧3≤l.length):((l++[(⟨(⟨#[107,101,112,116]⟩:ByteArray),(-1),3⟩:S48),(⟨(⟨#[101,97,114,110,101,100]⟩:ByteArray),(-1),4⟩:S48)]).length≤20∧∀ x∈l++[(⟨(⟨#[107,101,112,116]⟩:ByteArray),(-1),3⟩:S48),(⟨(⟨#[101,97,114,110,101,100]⟩:ByteArray),(-1),4⟩:S48)],x.f0.size≤100)∧3≤(l++[(⟨(⟨#[107,101,112,116]⟩:ByteArray),(-1),3⟩:S48),(⟨(⟨#[101,97,114,110,101,100]⟩:ByteArray),(-1),4⟩:S48)]).length:=by
 obtain ⟨⟨h1,h2,_⟩,h3⟩:=h;refine ⟨⟨by simp;omega,fun x hx=>?_⟩,by simp;omega⟩;rcases List.mem_append.1 hx with hx | hx
 ·exact h2 x hx
 ·rcases List.mem_cons.1 hx with rfl | hx
  ·decide
  ·obtain rfl:=List.mem_singleton.1 hx;decide
theorem wrapk {x:Int} (h0:0≤x) (h1:x≤1):IntKind.i64.wrap (31 * x)=0∨IntKind.i64.wrap (31 * x)=31:=by
 rcases (show x=0∨x=1 by omega) with rfl | rfl
 ·exact .inl (by decide)
 ·exact .inr (by decide)
section
variable {α:Type} {dd:Kd α} {e base g t:Nat} {W:World} {ok:Nat→Prop} {v:Value} {xs:List α} {cells:Array Value}
theorem put8_blk {z0 z1 z2 z3 z4 z5 z6 z7:Value} (h:W.heap[g]?=some (.cells #[z0,z1,z2,z3,z4,z5,z6,z7] t (0,0))) (u0 u1 u2 u3 u4 u5 u6 u7:Value):((((((((W.setCell ⟨g,0,none⟩ u0).setCell ⟨g,1,none⟩ u1).setCell ⟨g,2,none⟩ u2).setCell ⟨g,3,none⟩ u3).setCell ⟨g,4,none⟩ u4).setCell ⟨g,5,none⟩ u5).setCell ⟨g,6,none⟩ u6).setCell ⟨g,7,none⟩ u7).heap[g]?=some (.cells #[u0,u1,u2,u3,u4,u5,u6,u7] t (0,0)):=by
 refine blk_put (cs:=#[u0,u1,u2,u3,u4,u5,u6,z7]) ?_ 7 _ rfl;refine blk_put (cs:=#[u0,u1,u2,u3,u4,u5,z6,z7]) ?_ 6 _ rfl;refine blk_put (cs:=#[u0,u1,u2,u3,u4,z5,z6,z7]) ?_ 5 _ rfl;refine blk_put (cs:=#[u0,u1,u2,u3,z4,z5,z6,z7]) ?_ 4 _ rfl;refine blk_put (cs:=#[u0,u1,u2,z3,z4,z5,z6,z7]) ?_ 3 _ rfl;refine blk_put (cs:=#[u0,u1,z2,z3,z4,z5,z6,z7]) ?_ 2 _ rfl;refine blk_put (cs:=#[u0,z1,z2,z3,z4,z5,z6,z7]) ?_ 1 _ rfl;refine blk_put (cs:=#[z0,z1,z2,z3,z4,z5,z6,z7]) ?_ 0 _ rfl;exact h
theorem put8_far {b:Nat} {o:Obj} (h:W.heap[b]?=some o) (hne:b≠g) (u0 u1 u2 u3 u4 u5 u6 u7:Value):((((((((W.setCell ⟨g,0,none⟩ u0).setCell ⟨g,1,none⟩ u1).setCell ⟨g,2,none⟩ u2).setCell ⟨g,3,none⟩ u3).setCell ⟨g,4,none⟩ u4).setCell ⟨g,5,none⟩ u5).setCell ⟨g,6,none⟩ u6).setCell ⟨g,7,none⟩ u7).heap[b]?=some o:=by
 repeat refine (Below.heap_setCell _ _ _ _ hne).trans ?_
 exact h
theorem put8_R (h:dd.R e W base ok v xs) (hb:W.heap[g]?=some (.cells cells t (0,0))) (ht:∀ q,q∈e :: dd.E→q≠t) (u0 u1 u2 u3 u4 u5 u6 u7:Value):dd.R e ((((((((W.setCell ⟨g,0,none⟩ u0).setCell ⟨g,1,none⟩ u1).setCell ⟨g,2,none⟩ u2).setCell ⟨g,3,none⟩ u3).setCell ⟨g,4,none⟩ u4).setCell ⟨g,5,none⟩ u5).setCell ⟨g,6,none⟩ u6).setCell ⟨g,7,none⟩ u7) base ok v xs:=by
 refine Kd.R_mono (ok:=fun k=>ok k∧k≠g) ?_ (fun _ hk=>hk.1)
 repeat refine Kd.R_far ?_ (fun _ hk=>hk.2) _
 exact Kd.R_types h hb ht
theorem put8_S (h:Kd.S dd e W base ok v xs) (hb:W.heap[g]?=some (.cells cells t (0,0))) (ht:∀ q,q∈e :: dd.E→q≠t) (u0 u1 u2 u3 u4 u5 u6 u7:Value):Kd.S dd e ((((((((W.setCell ⟨g,0,none⟩ u0).setCell ⟨g,1,none⟩ u1).setCell ⟨g,2,none⟩ u2).setCell ⟨g,3,none⟩ u3).setCell ⟨g,4,none⟩ u4).setCell ⟨g,5,none⟩ u5).setCell ⟨g,6,none⟩ u6).setCell ⟨g,7,none⟩ u7) base ok v xs:=by
 refine Kd.S_mono (ok:=fun k=>ok k∧k≠g) ?_ (fun _ hk=>hk.1)
 repeat refine Kd.S_far ?_ (fun _ hk=>hk.2) _
 exact Kd.S_types h hb ht
theorem put8_D {w0 w:World} {gg:Nat} {c:List Int} (h:Drew w0 w W gg c) (hl:w0.heap.size≤w.heap.size) (hp:w.heap.size≤g) (hne:g≠gg) (u0 u1 u2 u3 u4 u5 u6 u7:Value):Drew w0 w ((((((((W.setCell ⟨g,0,none⟩ u0).setCell ⟨g,1,none⟩ u1).setCell ⟨g,2,none⟩ u2).setCell ⟨g,3,none⟩ u3).setCell ⟨g,4,none⟩ u4).setCell ⟨g,5,none⟩ u5).setCell ⟨g,6,none⟩ u6).setCell ⟨g,7,none⟩ u7) gg c:=by
 repeat refine Drew.set ?_ hl hp hne _
 exact h
end
def goodB (ch:List Acc) (es:List Ent) (ps:List Per):Prop:=(ch.length≤20∧∀ x∈ch,x.f0.size≤100)∧goodEnts es 100∧ps.length≤20
theorem goodEnts_le {es:List Ent} {n m:Nat} (h:goodEnts es n) (hn:n≤m):goodEnts es m:=⟨Nat.le_trans h.1 hn,h.2⟩
set_option maxHeartbeats 8000000 in
set_option maxRecDepth 100000 in
theorem spec_l6DrawBooks.e2 (w0 w:World) (g:Nat) (c:List Int) (n:Int) (hI:Cur w0 w g c) (hB:Below w0.heap.size w0 w) (hc:c.length≤1048576) (hn:n≤100) :
 Calls Tryz.prog 19 #[.pointer (some ⟨g,0,none⟩),.int .i64 n] w fun e w'=>∃ (v0 v3 v5:Value) (ch:List Acc) (d u:Int) (es:List Ent) (h:Int) (ps:List Per) (cl kp:Int),e = .returned (.agg #[v0,.int .i64 d,.int .i64 u,v3,.int .i64 h,v5,.int .i64 cl,.int .i64 kp])∧Kd.R k48 48 w' w.heap.size (fun _=>True) v0 ch∧Kd.S k41 41 w' w.heap.size (fun _=>True) v3 es∧Kd.R k63 63 w' w.heap.size (fun _=>True) v5 ps∧(goodB ch es ps∧1≤ps.length∧3≤ch.length)∧((1≤d∧d≤3)∧(1≤u∧u≤3))∧Drew w0 w w' g c:=by
 have HL:=hB.size;have D:=Aside0.mk ((Drew.refl hI hB).alloc (.cells #[.slice none 0 0,.int .i64 0,.int .i64 0,.slice none 0 0,.int .i64 0,.slice none 0 0,.int .i64 0,.int .i64 0] 32));have BR:=Aside0.mk (blk_new w (.cells #[.slice none 0 0,.int .i64 0,.int .i64 0,.slice none 0 0,.int .i64 0,.slice none 0 0,.int .i64 0,.int .i64 0] 32));have NR:w.heap.size≠g:=Nat.ne_of_gt hI.lt;have ge_BR:w.heap.size≤w.heap.size:=Nat.le_refl _;have hz:w.heap.size < (w.alloc (.cells #[.slice none 0 0,.int .i64 0,.int .i64 0,.slice none 0 0,.int .i64 0,.slice none 0 0,.int .i64 0,.int .i64 0] 32)).heap.size:=by simp
 clear hI hB
 go_enter Tryz.func19,Tryz.ntmps19
 go_wp2_with fail
 generalize w.alloc (Obj.cells #[.slice none 0 0,.int .i64 0,.int .i64 0,.slice none 0 0,.int .i64 0,.slice none 0 0,.int .i64 0,.int .i64 0] 32)=w1 at *;refine (spec_l5DrawFrame.e w0 _ g c D.out.cur D.out.bel hc).mono ?_;rintro x w2 ⟨v,l,d,u,rfl,hR,hg,⟨hd,hu⟩,hD⟩;obtain ⟨A,cc,rfl⟩:=Kd.R_slice hR;replace BR:=Aside0.mk (hD.blk BR.out NR);replace D:=Aside0.mk (D.out.call hD);have RC:=Aside0.mk (Kd.R_lower (Kd.R_mono (hD.cur.apart hR (by decide)) (ok':=fun k=>k≠g) (fun k hk=>hk.2)) (Nat.le_of_lt hz));have HG:=Aside0.mk hg;have hll:=hg.1.1;clear hD hR hg;have hb:=below_alloc (Below.refl w2.heap.size w2) (Obj.cells #[.slice A l.length cc,.int .i64 d,.int .i64 u] 26);have BF:=Aside0.mk (blk_new w2 (Obj.cells #[.slice A l.length cc,.int .i64 d,.int .i64 u] 26));have NF:=Nat.ne_of_gt D.out.cur.lt;have ge_BF:=D.out.size;have ne_BR_BF:=Nat.ne_of_lt (blk_lt BR.out);replace BR:=Aside0.mk (y03 BR.out hb);replace RC:=Aside0.mk (Kd.R_below RC.out hb);replace D:=Aside0.mk (D.out.below hb);have zz_BF:w2.heap.size < (w2.alloc (Obj.cells #[.slice A l.length cc,.int .i64 d,.int .i64 u] 26)).heap.size:=by simp
 clear hb
 go_upto_region 2 with fail
 generalize w2.alloc (Obj.cells #[.slice A l.length cc,.int .i64 d,.int .i64 u] 26)=w3 at *;have y0:=(y00 BF.out 0).trans rfl;have yz0:=y02 BF.out 0;have y1:=(y00 BF.out 1).trans rfl;have yz1:=y02 BF.out 1;have y2:=(y00 BF.out 2).trans rfl;have yz2:=y02 BF.out 2
 go_upto_region 3 with (first | ((with_reducible refine gate_dst (N:=13) rfl ?_);refine Kd.R_lit k48 _ 48 ?hg (N:=13) ?hd (xs:=([(⟨(⟨#[107,101,112,116]⟩:ByteArray),(-1),3⟩:S48),(⟨(⟨#[101,97,114,110,101,100]⟩:ByteArray),(-1),4⟩:S48)]:List (S48))) (inner:=[.string (⟨#[107,101,112,116]⟩:ByteArray),.int .i64 (-1),.int .i64 3,.string (⟨#[101,97,114,110,101,100]⟩:ByteArray),.int .i64 (-1),.int .i64 4]) (ok:=fun _=>True) (okp:=fun _=>True) ?hr ?hp (fun _ hk=>hk) trivial (Below.refl _ _) (Nat.le_refl _) (by simp) ?_;(case hd=>rfl);(case hg=>rfl);(case hr=>(go_simp;done));(case hp=>exact (Reps.c3 (show Kd.M k48 _ _ _ (⟨(⟨#[107,101,112,116]⟩:ByteArray),(-1),3⟩:S48) [.string (⟨#[107,101,112,116]⟩:ByteArray),.int .i64 (-1),.int .i64 3] from (k48_mkM _ _ _ (⟨(⟨#[107,101,112,116]⟩:ByteArray),(-1),3⟩:S48) )) (Reps.c3 (show Kd.M k48 _ _ _ (⟨(⟨#[101,97,114,110,101,100]⟩:ByteArray),(-1),4⟩:S48) [.string (⟨#[101,97,114,110,101,100]⟩:ByteArray),.int .i64 (-1),.int .i64 4] from (k48_mkM _ _ _ (⟨(⟨#[101,97,114,110,101,100]⟩:ByteArray),(-1),4⟩:S48) )) (Reps.none _ _))));intro v13 w4 ho hb hg_ hnew_;clear hg_ hnew_ y0 yz0 y1 yz1 y2 yz2;have HCH:=Aside0.mk (chart_two HG.out);obtain ⟨two,htwo⟩:∃ z_:List S48,z_=[(⟨(⟨#[107,101,112,116]⟩:ByteArray),(-1),3⟩:S48),(⟨(⟨#[101,97,114,110,101,100]⟩:ByteArray),(-1),4⟩:S48)]:=⟨_,rfl⟩;rw [← htwo] at ho HCH;have htl:two.length≤2:=(by rw [htwo];simp);clear htwo;replace BR:=Aside0.mk (y03 BR.out hb);replace BF:=Aside0.mk (y03 BF.out hb);replace RC:=Aside0.mk (Kd.R_below RC.out hb);replace D:=Aside0.mk (D.out.below hb);have LIT:=Aside0.mk ho;clear hb ho;obtain ⟨AL,cL,eL⟩:=Kd.R_slice LIT.out;subst eL) | ((with_reducible refine gate_builtin (b:=.append) (xs:=#[.tmp 10,.tmp 13]) rfl ?_);at_builtin;refine Kd.R_append_rows k48 w.heap.size rfl (.tmp 10) (.tmp 13) 24 48 (.agg #[(.string ⟨#[]⟩),(.int .i64 0),(.int .i64 0)]) 32 rfl Tryz.underlying24 info48 rfl (by decide) (by omega) (.slice A l.length cc) l two _ _ _ (fun k=>k≠g) (fun _=>False) rfl rfl ?aO ?aR (fun _ _ h=>h) (fun _ h=>h.elim) ?aF (Below.refl _ _) ?aS ?aL ?_;(case aR=>exact (Kd.R_reads' LIT.out).2.2);(case aF=>exact fun k hk=>by have:=D.out.cur.lt;omega);(case aO=>exact RC.out);(case aS=>exact D.out.size);(case aL=>omega);intro v1 w5 ho hb hg hat;obtain ⟨ch,hch⟩:∃ z_,z_=l++two:=⟨_,rfl⟩;rw [← hch] at ho HCH;clear hch;obtain ⟨B,qc,hv⟩:=Kd.R_slice ho;subst hv;have BR_:=Aside0.mk (blk_grown BR.out hg (Kd.R_ne RC.out BR.out (by decide)));have BF_:=Aside0.mk (blk_grown BF.out hg (Kd.R_ne RC.out BF.out (by decide)));clear BR;have BR:=BR_;clear BR_;clear BF;have BF:=BF_;clear BF_;replace D:=Aside0.mk (D.out.grown HL hg (fun k hk=>⟨Kd.R_base RC.out k hk,RC.out.1 k hk⟩));clear RC;have RC:=Aside0.mk ho;have y0:=(y00 BF.out 0).trans rfl;have yz0:=y02 BF.out 0;clear ho hb hg hat LIT))
 clear y0 yz0;replace RC:=Aside0.mk (Kd.R_set RC.out BF.out (by decide) 0 (.slice B ch.length qc));replace BR:=Aside0.mk (blk_far BR.out (p:=⟨w2.heap.size,0,none⟩) ne_BR_BF (.slice B ch.length qc));replace BF:=Aside0.mk (blk_set BF.out 0 (.slice B ch.length qc));replace D:=Aside0.mk (D.out.set HL (p:=⟨w2.heap.size,0,none⟩) ge_BF NF (.slice B ch.length qc));generalize w5.setCell ⟨w2.heap.size,0,none⟩ (.slice B ch.length qc)=w6 at *;replace BF:=Aside0.mk (show w6.heap[w2.heap.size]?=some (.cells #[.slice B ch.length qc,.int .i64 d,.int .i64 u] 26 (0,0)) from BF.out);have HTX:=Aside0.mk (show ∀ x∈ch,x.f0.size≤maxLen from fun x hx=>Nat.le_trans (HCH.out.1.2 x hx) (by unfold maxLen;omega));have chl:=HCH.out.1.1;have chl3:=HCH.out.2;clear HG
 go_cut [6] (fun v6 wx=>∃ (b:Nat) (A3:Option Addr) (c3:Nat) (es:List Ent) (h:Int) (A5:Option Addr) (c5:Nat) (ps:List Per) (kp:Int),v6 = .pointer (some ⟨b,0,none⟩)∧(b≠g∧w.heap.size≠b∧w.heap.size≤b)∧Aside0 (wx.heap[b]?=some (.cells #[.slice B ch.length qc,.int .i64 d,.int .i64 u,.slice A3 es.length c3,.int .i64 h,.slice A5 ps.length c5,.int .i64 0,.int .i64 kp] 32 (0,0)))∧Aside0 (goodEnts es n.toNat)∧(1≤ps.length∧ps.length≤13)∧Aside0 (wx.heap[w.heap.size]?=some (.cells #[.slice none 0 0,.int .i64 0,.int .i64 0,.slice none 0 0,.int .i64 0,.slice none 0 0,.int .i64 0,.int .i64 0] 32 (0,0)))∧Aside0 (k48.R 48 wx w.heap.size (fun k=>k≠g) (.slice B ch.length qc) ch)∧Aside0 (Kd.S k41 41 wx w.heap.size (fun k=>k≠g) (.slice A3 es.length c3) es)∧Aside0 (k63.R 63 wx w.heap.size (fun k=>k≠g) (.slice A5 ps.length c5) ps)∧Aside0 (Drew w0 w wx g c))
 case first =>
  go_region_held3 (fun w'=>w'.cell? ⟨w2.heap.size,0,none⟩=some (.slice B ch.length qc)∧w'.cell? ⟨w2.heap.size,1,none⟩=some (.int .i64 d)∧w'.cell? ⟨w2.heap.size,2,none⟩=some (.int .i64 u)) ((first | exact ⟨(y00 (by repeat (with_reducible first | exact BF.out | refine blk_alloc ?_ _ | refine blk_drew ?_)) 0).trans rfl,(y00 (by repeat (with_reducible first | exact BF.out | refine blk_alloc ?_ _ | refine blk_drew ?_)) 1).trans rfl,(y00 (by repeat (with_reducible first | exact BF.out | refine blk_alloc ?_ _ | refine blk_drew ?_)) 2).trans rfl⟩ | exact ⟨by (repeat (with_reducible refine cell_off ZF _ ?_));exact (y00 BF.out 0).trans rfl,by (repeat (with_reducible refine cell_off ZF _ ?_));exact (y00 BF.out 1).trans rfl,by (repeat (with_reducible refine cell_off ZF _ ?_));exact (y00 BF.out 2).trans rfl⟩))
   ((first | (go_at_call 51;refine (spec_l5DrawLedger.e w0 _ g c B qc ch d u n (Drew.cur (w:=w) (by repeat (with_reducible first | exact D.out | apply Drew.alloc | apply Drew.drew))) (Drew.bel (w:=w) (by repeat (with_reducible first | exact D.out | apply Drew.alloc | apply Drew.drew))) hc (fun W' hk=>(Kd.R_reads' (Kd.R_keep (by repeat (with_reducible first | exact RC.out | apply Kd.R_alloc | apply Kd.R_drew)) hk (fun _ h=>h))).2.2) HTX.out (by omega) (by omega) (by omega) (by omega) (by omega)).mono ?_;rintro x wA ⟨v3,es,h,rfl,hS,hg,hD⟩;obtain ⟨A3,c3,rfl⟩:=Kd.S_slice hS;(first | (have NZ:=Nat.ne_of_gt D.out.cur.lt;have GZ:=D.out.size;have ZR:=Nat.ne_of_lt (blk_lt BR.out);have ZF:=Nat.ne_of_lt (blk_lt BF.out);have BZ:=Aside0.mk (Drew.blk hD (o:=.cells #[.slice none 0 0,.int .i64 0,.int .i64 0,.slice none 0 0,.int .i64 0,.slice none 0 0,.int .i64 0,.int .i64 0] 32 (0,0)) (by (with_reducible repeat (refine blk_drew ?_));with_reducible exact blk_new _ _) NZ)) | skip);replace BF:=Aside0.mk (Drew.blk hD (b:=w2.heap.size) (o:=.cells #[.slice B ch.length qc,.int .i64 d,.int .i64 u] 26 (0,0)) (by repeat (with_reducible first | exact BF.out | refine blk_alloc ?_ _ | refine blk_drew ?_)) NF);replace BR:=Aside0.mk (Drew.blk hD (b:=w.heap.size) (o:=.cells #[.slice none 0 0,.int .i64 0,.int .i64 0,.slice none 0 0,.int .i64 0,.slice none 0 0,.int .i64 0,.int .i64 0] 32 (0,0)) (by repeat (with_reducible first | exact BR.out | refine blk_alloc ?_ _ | refine blk_drew ?_)) NR);replace RC:=Aside0.mk (Drew.R hD (by repeat (with_reducible first | exact RC.out | apply Kd.R_alloc | apply Kd.R_drew)) (fun _ hk=>hk));have RE:=Aside0.mk (Kd.S_mono (hD.cur.apartS (Kd.S_lower hS (Drew.size (w0:=w0) (g:=g) (c:=c) (by repeat (with_reducible first | exact D.out | apply Drew.alloc | apply Drew.drew)))) (by decide)) (ok':=fun k=>k≠g) (fun k hk=>hk.2));have HES:=Aside0.mk hg;replace D:=Aside0.mk (Drew.call (by repeat (with_reducible first | exact D.out | apply Drew.alloc | apply Drew.drew)) hD);clear hS hg hD) | (go_at_call 20;refine (spec_l1Below.e _ (Drew.cur (w:=w) (by repeat (with_reducible first | exact D.out | apply Drew.alloc))) (Drew.bel (w:=w) (by repeat (with_reducible first | exact D.out | apply Drew.alloc))) hc (by omega)).mono ?_;rintro x wA ⟨r,rfl,⟨hr0,hr1,_⟩,hD⟩;replace hr1:=hr1 (by omega);(first | (replace BZ:=Aside0.mk (Drew.blk hD (o:=.cells #[.slice none 0 0,.int .i64 0,.int .i64 0,.slice none 0 0,.int .i64 0,.slice none 0 0,.int .i64 0,.int .i64 0] 32 (0,0)) (by repeat (with_reducible exact BZ.out)) NZ)) | (have NZ:=Nat.ne_of_gt D.out.cur.lt;have GZ:=D.out.size;have ZR:=Nat.ne_of_lt (blk_lt BR.out);have ZF:=Nat.ne_of_lt (blk_lt BF.out);have BZ:=Aside0.mk (Drew.blk hD (o:=.cells #[.slice none 0 0,.int .i64 0,.int .i64 0,.slice none 0 0,.int .i64 0,.slice none 0 0,.int .i64 0,.int .i64 0] 32 (0,0)) (by with_reducible exact blk_new _ _) NZ)) | skip);replace BF:=Aside0.mk (Drew.blk hD (b:=w2.heap.size) (o:=.cells #[.slice B ch.length qc,.int .i64 d,.int .i64 u] 26 (0,0)) (by repeat (with_reducible first | exact BF.out | refine blk_alloc ?_ _)) NF);replace BR:=Aside0.mk (Drew.blk hD (b:=w.heap.size) (o:=.cells #[.slice none 0 0,.int .i64 0,.int .i64 0,.slice none 0 0,.int .i64 0,.slice none 0 0,.int .i64 0,.int .i64 0] 32 (0,0)) (by repeat (with_reducible first | exact BR.out | refine blk_alloc ?_ _)) NR);replace RC:=Aside0.mk (Drew.R hD (by repeat (with_reducible first | exact RC.out | apply Kd.R_alloc)) (fun _ hk=>hk));replace RE:=Aside0.mk (Drew.S hD (by repeat (with_reducible first | exact RE.out | apply Kd.S_alloc)) (fun _ hk=>hk));replace D:=Aside0.mk (Drew.call (by repeat (with_reducible first | exact D.out | apply Drew.alloc)) hD);clear hD) | (go_at_call 52;refine (spec_Periods.e _ _ _ _ (by (rw [IntKind.wrap_i64];omega)) (by exact wrapk (by omega) (by omega)) (by (rw [IntKind.wrap_i64];omega))).mono ?_;rintro x wA ⟨v5,ps,rfl,hR,hg,hb⟩;obtain ⟨A5,c5,rfl⟩:=Kd.R_slice hR;have hD:=Drew.below (Drew.refl (w0:=w0) (g:=g) (c:=c) (Drew.cur (w:=w) (by repeat (with_reducible first | exact D.out | apply Drew.alloc))) (Drew.bel (w:=w) (by repeat (with_reducible first | exact D.out | apply Drew.alloc)))) hb;(first | (replace BZ:=Aside0.mk (Drew.blk hD (o:=.cells #[.slice none 0 0,.int .i64 0,.int .i64 0,.slice none 0 0,.int .i64 0,.slice none 0 0,.int .i64 0,.int .i64 0] 32 (0,0)) (by repeat (with_reducible exact BZ.out)) NZ)) | (have NZ:=Nat.ne_of_gt D.out.cur.lt;have GZ:=D.out.size;have ZR:=Nat.ne_of_lt (blk_lt BR.out);have ZF:=Nat.ne_of_lt (blk_lt BF.out);have BZ:=Aside0.mk (Drew.blk hD (o:=.cells #[.slice none 0 0,.int .i64 0,.int .i64 0,.slice none 0 0,.int .i64 0,.slice none 0 0,.int .i64 0,.int .i64 0] 32 (0,0)) (by with_reducible exact blk_new _ _) NZ)) | skip);replace BF:=Aside0.mk (Drew.blk hD (b:=w2.heap.size) (o:=.cells #[.slice B ch.length qc,.int .i64 d,.int .i64 u] 26 (0,0)) (by repeat (with_reducible first | exact BF.out | refine blk_alloc ?_ _)) NF);replace BR:=Aside0.mk (Drew.blk hD (b:=w.heap.size) (o:=.cells #[.slice none 0 0,.int .i64 0,.int .i64 0,.slice none 0 0,.int .i64 0,.slice none 0 0,.int .i64 0,.int .i64 0] 32 (0,0)) (by repeat (with_reducible first | exact BR.out | refine blk_alloc ?_ _)) NR);replace RC:=Aside0.mk (Drew.R hD (by repeat (with_reducible first | exact RC.out | apply Kd.R_alloc)) (fun _ hk=>hk));replace RE:=Aside0.mk (Drew.S hD (by repeat (with_reducible first | exact RE.out | apply Kd.S_alloc)) (fun _ hk=>hk));have RP:=Aside0.mk (Kd.R_mono (hD.cur.apart (Kd.R_lower hR (Drew.size (w0:=w0) (g:=g) (c:=c) (by repeat (with_reducible first | exact D.out | apply Drew.alloc)))) (by decide)) (ok':=fun k=>k≠g) (fun k hk=>hk.2));have HPS:=Aside0.mk hg;replace D:=Aside0.mk (Drew.call (by repeat (with_reducible first | exact D.out | apply Drew.alloc)) hD);clear hR hg hb hD;(try (have y0:=(y00 BZ.out 0).trans rfl;have yz0:=y02 BZ.out 0;have y1:=(y00 BZ.out 1).trans rfl;have yz1:=y02 BZ.out 1;have y2:=(y00 BZ.out 2).trans rfl;have yz2:=y02 BZ.out 2;have y3:=(y00 BZ.out 3).trans rfl;have yz3:=y02 BZ.out 3;have y4:=(y00 BZ.out 4).trans rfl;have yz4:=y02 BZ.out 4;have y5:=(y00 BZ.out 5).trans rfl;have yz5:=y02 BZ.out 5;have y6:=(y00 BZ.out 6).trans rfl;have yz6:=y02 BZ.out 6;have y7:=(y00 BZ.out 7).trans rfl;have yz7:=y02 BZ.out 7)))))
  all_goals (try go_wp2_with fail)
  all_goals go_meet
  all_goals (
   refine ⟨_,A3,c3,es,h,A5,c5,ps,IntKind.i64.wrap (↑ch.length - 2),rfl,?_,⟨?_⟩,HES,HPS.out,⟨?_⟩,⟨?_⟩,⟨?_⟩,⟨?_⟩,⟨?_⟩⟩
   ·first | exact ⟨NZ,ZR,GZ⟩ | exact ⟨Nat.ne_of_gt D.out.cur.lt,Nat.ne_of_lt (blk_lt BR.out),D.out.size⟩
   ·first | exact put8_blk BZ.out _ _ _ _ _ _ _ _ | exact blk_new _ _
   ·first | exact put8_far BR.out ZR _ _ _ _ _ _ _ _ | exact blk_alloc BR.out _
   ·first | exact put8_R RC.out BZ.out (by decide) _ _ _ _ _ _ _ _ | exact Kd.R_alloc RC.out _
   ·first | exact put8_S RE.out BZ.out (by decide) _ _ _ _ _ _ _ _ | exact Kd.S_alloc RE.out _
   ·first | exact put8_R RP.out BZ.out (by decide) _ _ _ _ _ _ _ _ | exact Kd.R_alloc RP.out _
   ·first | exact put8_D D.out HL GZ NZ _ _ _ _ _ _ _ _ | exact D.out.alloc _)
 case rest =>
  clear BF BR RC D;obtain ⟨b,A3,c3,es,h,A5,c5,ps,kp,rfl,⟨NZ,ZR,GZ⟩,BZ,HES,HPS,BR,RC,RE,RP,D⟩:=hcut;have ps13:=HPS.2
  go_wp2_with fail
  refine (spec_l1Below.e 3 D.out.cur D.out.bel hc (by omega)).mono ?_;rintro x w7 ⟨cl,rfl,⟨cl0,cl1,_⟩,hD⟩;have cl2:=cl1 (by omega);replace BZ:=Aside0.mk (hD.blk BZ.out NZ);replace BR:=Aside0.mk (hD.blk BR.out NR);replace RC:=Aside0.mk (hD.R RC.out (fun _ hk=>hk));replace RE:=Aside0.mk (hD.S RE.out (fun _ hk=>hk));replace RP:=Aside0.mk (hD.R RP.out (fun _ hk=>hk));replace D:=Aside0.mk (D.out.call hD);clear hD cl1;have y6:=(y00 BZ.out 6).trans rfl;have yz6:=y02 BZ.out 6
  go_upto_region 5 with fail
  clear y6 yz6;replace RC:=Aside0.mk (Kd.R_set RC.out BZ.out (by decide) 6 (.int .i64 cl));replace RE:=Aside0.mk (Kd.S_set RE.out BZ.out (by decide) 6 (.int .i64 cl));replace RP:=Aside0.mk (Kd.R_set RP.out BZ.out (by decide) 6 (.int .i64 cl));replace BR:=Aside0.mk (blk_far BR.out (p:=⟨b,6,none⟩) ZR (.int .i64 cl));replace BZ:=Aside0.mk (show (w7.setCell ⟨b,6,none⟩ (.int .i64 cl)).heap[b]?=some (.cells #[.slice B ch.length qc,.int .i64 d,.int .i64 u,.slice A3 es.length c3,.int .i64 h,.slice A5 ps.length c5,.int .i64 cl,.int .i64 kp] 32 (0,0)) from blk_set BZ.out 6 (.int .i64 cl));replace D:=Aside0.mk (D.out.set HL (p:=⟨b,6,none⟩) GZ NZ (.int .i64 cl));generalize w7.setCell ⟨b,6,none⟩ (.int .i64 cl)=w8 at *;have y5:=(y00 BZ.out 5).trans rfl;have yz5:=y02 BZ.out 5;have y6:=(y00 BZ.out 6).trans rfl;have yz6:=y02 BZ.out 6
  go_upto_if 44 with fail
  go_cut [] (fun W=>∃ cl:Int,Aside0 (W.heap[b]?=some (.cells #[.slice B ch.length qc,.int .i64 d,.int .i64 u,.slice A3 es.length c3,.int .i64 h,.slice A5 ps.length c5,.int .i64 cl,.int .i64 kp] 32 (0,0)))∧Aside0 (W.heap[w.heap.size]?=some (.cells #[.slice none 0 0,.int .i64 0,.int .i64 0,.slice none 0 0,.int .i64 0,.slice none 0 0,.int .i64 0,.int .i64 0] 32 (0,0)))∧Aside0 (k48.R 48 W w.heap.size (fun k=>k≠g) (.slice B ch.length qc) ch)∧Aside0 (Kd.S k41 41 W w.heap.size (fun k=>k≠g) (.slice A3 es.length c3) es)∧Aside0 (k63.R 63 W w.heap.size (fun k=>k≠g) (.slice A5 ps.length c5) ps)∧Aside0 (Drew w0 w W g c))
  case first =>
   by_cases hcl:cl > (ps.length:Int)
   ·clear y5 yz5 y6 yz6;have y6:=(y00 BZ.out 6).trans rfl;have yz6:=y02 BZ.out 6
    go_wp2_with fail
    clear y6 yz6;replace RC:=Aside0.mk (Kd.R_set RC.out BZ.out (by decide) 6 (.int .i64 0));replace RE:=Aside0.mk (Kd.S_set RE.out BZ.out (by decide) 6 (.int .i64 0));replace RP:=Aside0.mk (Kd.R_set RP.out BZ.out (by decide) 6 (.int .i64 0));replace BR:=Aside0.mk (blk_far BR.out (p:=⟨b,6,none⟩) ZR (.int .i64 0));replace BZ:=Aside0.mk (show (w8.setCell ⟨b,6,none⟩ (.int .i64 0)).heap[b]?=some (.cells #[.slice B ch.length qc,.int .i64 d,.int .i64 u,.slice A3 es.length c3,.int .i64 h,.slice A5 ps.length c5,.int .i64 0,.int .i64 kp] 32 (0,0)) from blk_set BZ.out 6 (.int .i64 0));replace D:=Aside0.mk (D.out.set HL (p:=⟨b,6,none⟩) GZ NZ (.int .i64 0))
    go_meet
    exact ⟨0,BZ,BR,RC,RE,RP,D⟩
   ·go_wp2_with fail
    go_meet
    exact ⟨cl,BZ,BR,RC,RE,RP,D⟩
  case rest =>
   clear BZ BR RC RE RP D y5 yz5 y6 yz6 cl2;obtain ⟨cl1,BZ,BR,RC,RE,RP,D⟩:=hcut;have y0:=(y00 BZ.out 0).trans rfl;have yz0:=y02 BZ.out 0;have y1:=(y00 BZ.out 1).trans rfl;have yz1:=y02 BZ.out 1;have y2:=(y00 BZ.out 2).trans rfl;have yz2:=y02 BZ.out 2;have y3:=(y00 BZ.out 3).trans rfl;have yz3:=y02 BZ.out 3;have y4:=(y00 BZ.out 4).trans rfl;have yz4:=y02 BZ.out 4;have y5:=(y00 BZ.out 5).trans rfl;have yz5:=y02 BZ.out 5;have y6:=(y00 BZ.out 6).trans rfl;have yz6:=y02 BZ.out 6;have y7:=(y00 BZ.out 7).trans rfl;have yz7:=y02 BZ.out 7;have z0:=(y00 BR.out 0).trans rfl;have zz0:=y02 BR.out 0;have z1:=(y00 BR.out 1).trans rfl;have zz1:=y02 BR.out 1;have z2:=(y00 BR.out 2).trans rfl;have zz2:=y02 BR.out 2;have z3:=(y00 BR.out 3).trans rfl;have zz3:=y02 BR.out 3;have z4:=(y00 BR.out 4).trans rfl;have zz4:=y02 BR.out 4;have z5:=(y00 BR.out 5).trans rfl;have zz5:=y02 BR.out 5;have z6:=(y00 BR.out 6).trans rfl;have zz6:=y02 BR.out 6;have z7:=(y00 BR.out 7).trans rfl;have zz7:=y02 BR.out 7
   go_wp2_with fail
   have BR2:=Aside0.mk (put8_blk BR.out (.slice B ch.length qc) (.int .i64 d) (.int .i64 u) (.slice A3 es.length c3) (.int .i64 h) (.slice A5 ps.length c5) (.int .i64 cl1) (.int .i64 kp));refine bodyPost_ret (results_c1 rfl _ _ w.heap.size 32 #[.slice B ch.length qc,.int .i64 d,.int .i64 u,.slice A3 es.length c3,.int .i64 h,.slice A5 ps.length c5,.int .i64 cl1,.int .i64 kp] (0,0) _ rfl BR2.out Tryz.underlying32 rfl (by kernel_rfl)) rfl ?_;exact ⟨_,_,_,ch,d,u,es,h,ps,_,_,rfl,Kd.R_mono (put8_R RC.out BR.out (by decide) _ _ _ _ _ _ _ _) (fun _ _=>trivial),Kd.S_mono (put8_S RE.out BR.out (by decide) _ _ _ _ _ _ _ _) (fun _ _=>trivial),Kd.R_mono (put8_R RP.out BR.out (by decide) _ _ _ _ _ _ _ _) (fun _ _=>trivial),⟨⟨HCH.out.1,goodEnts_le HES.out (by omega),by omega⟩,HPS.1,HCH.out.2⟩,⟨hd,hu⟩,put8_D D.out HL (Nat.le_refl _) NR _ _ _ _ _ _ _ _⟩
theorem spec_l6DrawBooks.e (w0 w:World) (g:Nat) (c:List Int) (n:Int) (hI:Cur w0 w g c) (hB:Below w0.heap.size w0 w) (hc:c.length≤1048576) (hn:n≤100) :
 Calls Tryz.prog 19 #[.pointer (some ⟨g,0,none⟩),.int .i64 n] w fun e w'=>∃ (v0 v3 v5:Value) (ch:List Acc) (d u:Int) (es:List Ent) (h:Int) (ps:List Per) (cl kp:Int),e = .returned (.agg #[v0,.int .i64 d,.int .i64 u,v3,.int .i64 h,v5,.int .i64 cl,.int .i64 kp])∧Kd.R k48 48 w' w.heap.size (fun _=>True) v0 ch∧Kd.S k41 41 w' w.heap.size (fun _=>True) v3 es∧Kd.R k63 63 w' w.heap.size (fun _=>True) v5 ps∧(goodB ch es ps∧1≤ps.length∧3≤ch.length)∧Drew w0 w w' g c:=by
 refine (spec_l6DrawBooks.e2 w0 w g c n hI hB hc hn).mono ?_;rintro e w' ⟨v0,v3,v5,ch,d,u,es,h,ps,cl,kp,he,h1,h2,h3,h4,_,hD⟩;exact ⟨v0,v3,v5,ch,d,u,es,h,ps,cl,kp,he,h1,h2,h3,h4,hD⟩
theorem basV_app (a d c fr tt:Int) (l m:List Ent):basV a d c fr tt (l++m)=basV a d c fr tt l+basV a d c fr tt m:=by
 induction l with
 | nil=>simp [basV]
 | cons e l ih=>simp only [List.cons_append,basV,ih];omega
theorem post_right {ch:List Acc} {d c:Int} {es:List Ent} {h:Int} {e:Ent} {r:List Ent} {rh rk:Int} (q:ledgerP ch d c es h) (qe:entryP ch d c e) (hR:postR ch d c es h e=(r,rh,rk)):rk=3∨(rk=0∧r=es++[e]∧r.length≤1000):=by
 unfold postR at hR;rw [if_pos (ledgerB_true.2 q),if_pos (entryB_true.2 qe)] at hR;by_cases q3:es.length=1000
 ·rw [if_pos q3] at hR;injection hR with a b;injection b with b k
  exact .inl k.symm
 ·rw [if_neg q3] at hR;injection hR with a b;injection b with b k
  exact .inr ⟨k.symm,a.symm,by rw [← a];have:=q.2.1;simp;omega⟩
theorem post_ways {ch:List Acc} {d c:Int} {es:List Ent} {h:Int} {e:Ent} {r:List Ent} {rh rk:Int} (hR:postR ch d c es h e=(r,rh,rk)) :
 (rk=1∧r=[])∨(ledgerP ch d c r rh∧((rk=0∧r.length=es.length+1)∨((rk=2∨rk=3)∧r=es∧rh=h))):=by
 unfold postR at hR;by_cases q:ledgerB ch d c es h=true
 ·rw [if_pos q] at hR;have qp:=ledgerB_true.1 q;by_cases q2:entryB ch d c e=true
  ·rw [if_pos q2] at hR;have qe:=entryB_true.1 q2;by_cases q3:es.length=1000
   ·rw [if_pos q3] at hR;injection hR with a b;injection b with b k
    subst a b k;exact .inr ⟨qp,.inr ⟨.inr rfl,rfl,rfl⟩⟩
   ·rw [if_neg q3] at hR;injection hR with a b;injection b with b k
    subst a b k;refine .inr ⟨⟨qp.1,by have:=qp.2.1;simp;omega,fun x hx=>?_,rfl⟩,.inl ⟨rfl,by simp⟩⟩;rcases List.mem_append.1 hx with hx | hx
    ·exact qp.2.2.1 x hx
    ·rw [List.mem_singleton.1 hx];exact qe
  ·rw [if_neg q2] at hR;injection hR with a b;injection b with b k
   subst a b k;exact .inr ⟨qp,.inr ⟨.inl rfl,rfl,rfl⟩⟩
 ·rw [if_neg q] at hR;injection hR with a b;injection b with b k
  subst a b k;exact .inl ⟨rfl,rfl⟩
end Go.Proofs.YtnknanppoenigaaGreatDoor.Q
namespace Go.Proofs.YtnknanppoenigaaGreatDoor.Q
open Go.RowKit Go.Proofs.YtnknanppoenigaaGreatDoorW.PrintWords Go.Proofs.YtnknanppoenigaaGreatDoorW.PrintLast Go.Proofs.YtnknanppoenigaaGreatDoorW.PrintMore
attribute [local go_sem] max2_int min2_int max_two min_two max_three min_three max_four min_four
set_option linter.unusedVariables false
set_option linter.unusedSimpArgs false
def IvM (a b:Nat) (k:Nat):Prop:=a≤k∧k < b
def mvX (chart:List Acc) (es:List Ent) (f0 tt:Int) (a:Nat):Int:=if knd chart a=4∨knd chart a=5 then basV a (-1) (-1) f0 tt es else basV a (-1) (-1) (-4611686018427387904) tt es
open Classical in
noncomputable def movesR (chart:List Acc) (dims curs:Int) (es:List Ent) (h:Int) (ps:List Per) (closed kept at_:Int):List Int × List Int × List Int :=
 if booksB chart dims curs es h ps closed kept=true∧0≤at_∧at_ < (ps.length:Int) then
  (mapN chart.length (mvX chart es (rd_T63 ps 0).f0 ((rd_T63 ps at_).f0 - 1)),mapN chart.length (fun a=>basV a (-1) (-1) (rd_T63 ps at_).f0 (rd_T63 ps at_).f1 es),
   mapN chart.length (fun a=>mvX chart es (rd_T63 ps 0).f0 ((rd_T63 ps at_).f0 - 1) a+basV a (-1) (-1) (rd_T63 ps at_).f0 (rd_T63 ps at_).f1 es))
 else ([],[],[])
def Three (w w':World) (v0 v1 v2:Value) (r:List Int × List Int × List Int):Prop :=
 ∃ a0 b0 a1 b1 a2 b2,w.heap.size≤a0∧a0≤b0∧b0≤a1∧a1≤b1∧b1≤a2∧a2≤b2∧b2≤w'.heap.size∧Kd.R (Kd.int .i64) 3 w' w.heap.size (IvM a0 b0) v0 r.1∧Kd.R (Kd.int .i64) 3 w' w.heap.size (IvM a1 b1) v1 r.2.1∧Kd.R (Kd.int .i64) 3 w' w.heap.size (IvM a2 b2) v2 r.2.2
theorem R_iv0 {α:Type} {d:Kd α} {e:Nat} {w w0 w1:World} {v:Value} {l:List α} (h:d.R e w1 w.heap.size (fun _=>True) v l) (hle:w0.heap.size≤w.heap.size):d.R e w1 w0.heap.size (IvM w.heap.size w1.heap.size) v l:=Kd.R_lower (Kd.R_mono (Kd.R_bound h) (fun _ hk=>⟨hk.2.1,hk.2.2.1⟩)) hle
theorem books_fine {chart:List Acc} {dims curs:Int} {es:List Ent} {h:Int} {ps:List Per} {closed kept:Int} (q:booksB chart dims curs es h ps closed kept=true):basesP chart.length es∧(1≤ps.length∧ps.length≤60)∧(∀ i:Int,0≤i→i < (ps.length:Int)→perOk ps i)∧(∀ e∈es,0≤e.f0∧e.f0≤40000)∧(∀ i:Int,0≤i→i < (chart.length:Int)→1≤knd chart i∧knd chart i≤5):=by
 obtain ⟨h1,h2,_⟩:=booksB_true.1 q;obtain ⟨hf,hl,he,_⟩:=h1;obtain ⟨hc,_,_⟩:=frame_parts hf;obtain ⟨n1,n2,hr⟩:=chartOk_iff.1 hc;refine ⟨⟨n1,by omega,hl,fun e q=>⟨(he e q).2.2.2.1.2,fun x hx=>?_⟩,fun e q x hx=>?_⟩,h2.1,h2.2,fun e q=>(he e q).1,fun i i0 i1=>(hr i i0 i1).2.2.1⟩
 ·have:=(he e q).2.2.2.2.2.1 x hx;exact ⟨this.2.2.2.1,this.2.2.2.2.1⟩
 ·have:=(he e q).2.2.2.2.2.1 x hx;exact ⟨this.1.1,this.1.2.1⟩
set_option maxHeartbeats 32000000 in
set_option maxRecDepth 100000 in
theorem impl_Moves.to (A0:Option Addr) (c0:Nat) (l0:List Acc) (dims curs:Int) (A1:Option Addr) (c1:Nat) (l1:List Ent) (h:Int) (A2:Option Addr) (c2:Nat) (l2:List Per) (closed kept at_:Int) (w:World) (hr0:Kd.C k48 w A0 l0.length l0) (hs:∀ x∈l0,x.f0.size≤maxLen) (hr1:Kd.C k41 w A1 l1.length l1) (hm:∀ e∈l1,e.f2.size≤maxLen) (hr2:Kd.C k63 w A2 l2.length l2) :
 Calls Tryz.prog 12 #[.agg #[.slice A0 l0.length c0,.int .i64 dims,.int .i64 curs,.slice A1 l1.length c1,.int .i64 h,.slice A2 l2.length c2,.int .i64 closed,.int .i64 kept],.int .i64 at_] w fun e w'=>∃ v0 v1 v2:Value,e = .returned (.tuple #[v0,v1,v2])∧Three w w' v0 v1 v2 (movesR l0 dims curs l1 h l2 closed kept at_)∧Below w.heap.size w w':=by
 have H0:=Aside0.mk hr0;have H1:=Aside0.mk hr1;have H2:=Aside0.mk hr2;have HS:=Aside0.mk hs;have HM:=Aside0.mk hm;have HB0:=Aside0.mk (below_alloc (Below.refl w.heap.size w) (.cells #[.slice A0 l0.length c0,.int .i64 dims,.int .i64 curs,.slice A1 l1.length c1,.int .i64 h,.slice A2 l2.length c2,.int .i64 closed,.int .i64 kept] 32));clear hr0 hr1 hr2 hs hm
 go_enter Tryz.func12,Tryz.ntmps12
 go_wp2_with fail
 refine (impl_BooksOk.to A0 c0 l0 dims curs A1 c1 l1 h A2 c2 l2 closed kept _ (Kd.C_below H0.out HB0.out) HS.out (Kd.C_below H1.out HB0.out) HM.out (Kd.C_below H2.out HB0.out)).mono ?_;rintro x w1 ⟨rfl,hb⟩;have HB:=Aside0.mk (below_into (w:=w) hb HB0.out);have f0:w1.cell? ⟨w.heap.size,0,none⟩=some (.slice A0 l0.length c0):=y01 hb (by go_simp);have f3:w1.cell? ⟨w.heap.size,3,none⟩=some (.slice A1 l1.length c1):=y01 hb (by go_simp);have f4:w1.cell? ⟨w.heap.size,4,none⟩=some (.int .i64 h):=y01 hb (by go_simp);have f5:w1.cell? ⟨w.heap.size,5,none⟩=some (.slice A2 l2.length c2):=y01 hb (by go_simp);clear hb HB0
 have HNO:=Aside0.mk (show (¬ (booksB l0 dims curs l1 h l2 closed kept=true∧0≤at_∧at_ < (l2.length:Int)))→∀ W,Below w.heap.size w W→Three w W (.slice none 0 0) (.slice none 0 0) (.slice none 0 0) (movesR l0 dims curs l1 h l2 closed kept at_) from fun hn W hW=>by
  unfold movesR;rw [if_neg hn]
  exact ⟨w.heap.size,w.heap.size,w.heap.size,w.heap.size,w.heap.size,w.heap.size,Nat.le_refl _,Nat.le_refl _,Nat.le_refl _,Nat.le_refl _,Nat.le_refl _,Nat.le_refl _,hW.size,Kd.R_nil _ _ _ _ _,Kd.R_nil _ _ _ _ _,Kd.R_nil _ _ _ _ _⟩)
 cases q1:booksB l0 dims curs l1 h l2 closed kept with
 | false =>
  have HN:=Aside0.mk (HNO.out (fun q=>by rw [q1] at q;cases q.1));clear q1
  go_wp2_with fail
  exact bodyPost_ret (v:=.tuple #[.slice none 0 0,.slice none 0 0,.slice none 0 0]) (by simp [results,Tryz.results12,go_sem]) rfl ⟨_,_,_,rfl,HN.out _ HB.out,HB.out⟩
 | true =>
  have HQ:=Aside0.mk q1;clear q1;by_cases h1:at_ < 0
  case pos =>
   have h1b:decide (at_ < 0)=true:=decide_eq_true h1;have HN:=Aside0.mk (HNO.out (fun q=>by have:=q.2.1;omega))
   go_wp2_with fail
   exact bodyPost_ret (v:=.tuple #[.slice none 0 0,.slice none 0 0,.slice none 0 0]) (by simp [results,Tryz.results12,go_sem]) rfl ⟨_,_,_,rfl,HN.out _ HB.out,HB.out⟩
  by_cases h2:at_ < (l2.length:Int)
  case neg =>
   have h2b:decide ((l2.length:Int)≤at_)=true:=decide_eq_true (by omega);have h1b:decide (at_ < 0)=false:=decide_eq_false h1;have HN:=Aside0.mk (HNO.out (fun q=>by have:=q.2.2;omega))
   go_wp2_with fail
   exact bodyPost_ret (v:=.tuple #[.slice none 0 0,.slice none 0 0,.slice none 0 0]) (by simp [results,Tryz.results12,go_sem]) rfl ⟨_,_,_,rfl,HN.out _ HB.out,HB.out⟩
  have h1b:decide (at_ < 0)=false:=decide_eq_false h1;have h2b:decide ((l2.length:Int)≤at_)=false:=decide_eq_false (by omega);have h1c:0≤at_:=by omega
  have h2c:0 < l2.length:=by omega
  obtain ⟨hbp,hpl,hper,hday,hkn⟩:=books_fine HQ.out;have hp:=hper at_ (by omega) h2;have hp00:=hper 0 (by omega) (by omega);have HBP:=Aside0.mk hbp;have HDY:=Aside0.mk hday;have HKN:=Aside0.mk hkn;have NL:=hbp.1;have NL2:=hbp.2.1;obtain ⟨⟨u0,u1⟩,⟨u2,u3⟩,_⟩:=hp;obtain ⟨⟨u4,u5⟩,_⟩:=hp00;have HRV:=Aside0.mk (show movesR l0 dims curs l1 h l2 closed kept at_=_ from if_pos ⟨HQ.out,by omega,h2⟩);obtain ⟨ad,e0,x0,x1⟩:=at_T63 (Kd.C_below H2.out HB.out) at_ (by omega) h2;obtain ⟨bd,e1,z0,z1⟩:=at_T63 (Kd.C_below H2.out HB.out) 0 (by omega) (by omega);cases e0;obtain rfl:ad=bd:=by injection e1
  rw [show (0:Int).toNat * 2=0 from rfl,Addr.add_zero'] at z0;generalize (rd_T63 l2 at_).f0=p0 at *;generalize (rd_T63 l2 at_).f1=p1 at *;generalize (rd_T63 l2 0).f0=s0 at *;clear hbp hper hday hkn e1 HNO h1;have zz0:=World.block_lt_of_cell? _ _ f0;have zz1:=World.block_lt_of_cell? _ _ z0
  go_wp2_with fail
  have y0:(w1.alloc (.cells #[.int .i64 p0,.int .i64 p1] 63)).cell? ⟨w1.heap.size,0,none⟩=some (.int .i64 p0):=by go_simp
  have y1:(w1.alloc (.cells #[.int .i64 p0,.int .i64 p1] 63)).cell? ⟨w1.heap.size,1,none⟩=some (.int .i64 p1):=by go_simp
  have hb:=below_alloc (Below.refl w1.heap.size w1) (.cells #[.int .i64 p0,.int .i64 p1] 63);replace f0:=y01 hb f0;replace f3:=y01 hb f3;replace f4:=y01 hb f4;replace f5:=y01 hb f5;replace z0:=y01 hb z0;replace HB:=Aside0.mk (below_into (w:=w) hb HB.out);clear hb x0 x1 z1;generalize w1.alloc (.cells #[.int .i64 p0,.int .i64 p1] 63)=wp at *;refine (impl_bases.to l0.length A1 c1 l1 h (-1) (-4611686018427387904) (p0 - 1) _ (Kd.C_below H1.out HB.out) HBP.out).mono ?_;rintro x w2 ⟨v9,rfl,hR,hb⟩;obtain ⟨g9,k9,e9,_⟩:=Kd.R_form hR (by rw [mapN_len];omega);subst e9;rw [mapN_len] at hR;have sA:=hb.size;have RA:=Aside0.mk (R_iv0 hR HB.out.size);replace f0:=y01 hb f0;replace f3:=y01 hb f3;replace f4:=y01 hb f4;replace f5:=y01 hb f5;replace y0:=y01 hb y0;replace y1:=y01 hb y1;replace z0:=y01 hb z0;have HBA:=HB;replace HB:=Aside0.mk (below_into (w:=w) hb HB.out);clear hb hR;have hwr:IntKind.i64.wrap (p0 - 1)=p0 - 1:=by rw [IntKind.wrap_i64];omega
  rw [mapN_len]
  go_wp2_with fail
  have HV:=Aside0.mk (Below.refl w2.heap.size w2)
  go_region_held3 (fun w'=>w'.cell? ⟨w.heap.size,3,none⟩=some (.slice A1 l1.length c1)∧w'.cell? ⟨w.heap.size,4,none⟩=some (.int .i64 h)∧w'.cell? ⟨w.heap.size,5,none⟩=some (.slice (some ad) l2.length c2)∧w'.cell? ⟨w1.heap.size,0,none⟩=some (.int .i64 p0)∧w'.cell? ad=some (.int .i64 s0)) ((first | go_keep | exact ⟨y01 hb (by assumption),y01 hb (by assumption),y01 hb (by assumption),y01 hb (by assumption),y01 hb (by assumption)⟩))
   ((go_at_call 37;refine (impl_bases.to l0.length A1 c1 l1 h (-1) s0 (p0 - 1) _ (Kd.C_below H1.out (by repeat (first | exact HB.out | refine below_drew1 ?_))) HBP.out).mono ?_;rintro x w3 ⟨v10,rfl,hR,hb⟩;have RY:=Aside0.mk (R_iv0 (w0:=w) hR (by repeat (exact HB.out.size)));have HVY:=Aside0.mk (below_into (w:=w2) hb (by repeat (first | exact HV.out | refine below_drew1 ?_)))))
  have hH:=‹_∧_›;have hb:=HVY.out;obtain ⟨g10,k10,e10,_⟩:=Kd.R_form RY.out (by rw [mapN_len];omega);subst e10;replace RY:=RY.out;rw [mapN_len] at RY ⊢;replace f3:=hH.1;replace f4:=hH.2.1;replace f0:=y01 hb f0;replace y0:=y01 hb y0;replace y1:=y01 hb y1;replace RA:=Aside0.mk (Kd.R_below RA.out hb);have HBY:=HB;replace HB:=Aside0.mk (below_into (w:=w) hb HB.out);have sY:=hb.size;clear hb hH hwr f5 z0;have RY':=Aside0.mk (show Kd.R (Kd.int .i64) 3 w3 w.heap.size (IvM w2.heap.size w3.heap.size) (.slice (some ⟨g10,0,none⟩) l0.length k10) _ from RY);clear RY
  go_wp2_with fail
  refine (impl_bases.to l0.length A1 c1 l1 h (-1) p0 p1 _ (Kd.C_below H1.out HB.out) HBP.out).mono ?_;rintro x w4 ⟨v11,rfl,hR,hb⟩;obtain ⟨g11,k11,e11,_⟩:=Kd.R_form hR (by rw [mapN_len];omega);subst e11;rw [mapN_len] at hR ⊢;have RM:=Aside0.mk (R_iv0 hR HB.out.size);replace f0:=y01 hb f0;replace RA:=Aside0.mk (Kd.R_below RA.out hb);replace RY':=Aside0.mk (Kd.R_below RY'.out hb);replace HB:=Aside0.mk (below_into (w:=w) hb HB.out);have sM:=hb.size;clear hb hR f3 f4 y0 y1
  go_wp2_with ((with_reducible refine gate_dst (N:=66) rfl ?_);refine Kd.R_make (Kd.int .i64) _ 3 rfl (N:=66) rfl 42 _ _ rfl (l0.length:Int) rfl rfl Tryz.underlying42 (.int .i64 0) 8 info3 rfl (by decide) (by omega) 0 (ok:=fun _=>True) (okp:=fun _=>True) rfl (fun _ hk=>hk) trivial (by omega) (by simp;omega) (Below.refl _ _) (Nat.le_refl _) ?_;intro v12 w5 ho hb hg hnew;replace f0:=y01 hb f0;replace RA:=Aside0.mk (Kd.R_below RA.out hb);replace RY':=Aside0.mk (Kd.R_below RY'.out hb);replace RM:=Aside0.mk (Kd.R_below RM.out hb);have RB:=Aside0.mk (R_iv0 ho HB.out.size);replace HB:=Aside0.mk (below_into (w:=w) hb HB.out);have sB:=hb.size;obtain ⟨g12,k12,e12,_⟩:=Kd.R_form RB.out (by simp;omega);subst e12;clear ho hb hg hnew)
  rw [show (List.replicate ((l0.length:Int)).toNat (0:Int))=mapN l0.length (fun _=>0) from (by rw [Int.toNat_natCast];exact mapN_zero _)] at RB;rw [mapN_len] at RB;obtain ⟨Y,hY⟩:∃ Y:Nat→Int,Y=fun (a:Nat)=>basV (a:Int) (-1) (-1) (-4611686018427387904) (p0 - 1) l1:=⟨_,rfl⟩
  obtain ⟨Z,hZ⟩:∃ Y:Nat→Int,Y=fun (a:Nat)=>basV (a:Int) (-1) (-1) s0 (p0 - 1) l1:=⟨_,rfl⟩
  obtain ⟨M,hM⟩:∃ Y:Nat→Int,Y=fun (a:Nat)=>basV (a:Int) (-1) (-1) p0 p1 l1:=⟨_,rfl⟩
  rw [← hY] at RA;rw [← hZ] at RY';rw [← hM] at RM;have bY:∀ a,-6000000000000000≤Y a∧Y a≤6000000000000000:=fun a=>by have:=basV_b (a:Int) (-1) (-1) (-4611686018427387904) (p0 - 1) l1 HBP.out.2.2.2.1;have:=HBP.out.2.2.1;rw [hY];simp only;constructor <;> omega
  have bZ:∀ a,-6000000000000000≤Z a∧Z a≤6000000000000000:=fun a=>by have:=basV_b (a:Int) (-1) (-1) s0 (p0 - 1) l1 HBP.out.2.2.2.1;have:=HBP.out.2.2.1;rw [hZ];simp only;constructor <;> omega
  have bM:∀ a,-6000000000000000≤M a∧M a≤6000000000000000:=fun a=>by have:=basV_b (a:Int) (-1) (-1) p0 p1 l1 HBP.out.2.2.2.1;have:=HBP.out.2.2.1;rw [hM];simp only;constructor <;> omega
  have BY:=Aside0.mk bY;have BZ:=Aside0.mk bZ;have BM:=Aside0.mk bM;have HXX:=Aside0.mk (show ∀ a:Nat,mvX l0 l1 s0 (p0 - 1) a=if knd l0 a=4∨knd l0 a=5 then Z a else Y a from fun a=>by rw [hY,hZ];rfl);have HMM:=Aside0.mk hM;clear bY bZ bM hY hZ hM;have o9:=RA.out.1 g9 rfl;have o10:=RY'.out.1 g10 rfl;have o11:=RM.out.1 g11 rfl;have o12:=RB.out.1 g12 rfl
  have OO:=Aside0.mk (show g9≠g10∧g9≠g11∧g9≠g12∧g10≠g12∧g11≠g12∧w.heap.size≤g9∧w.heap.size≤g12 from by
   have t9:=o9.1;have u9:=o9.2;have t10:=o10.1;have u10:=o10.2;have t11:=o11.1;have u11:=o11.2;have t12:=o12.1;have u12:=o12.2;have:=HBA.out.size
   refine ⟨?_,?_,?_,?_,?_,?_,?_⟩ <;> omega)
  have OR:=Aside0.mk (show (∀ k,IvM wp.heap.size w2.heap.size k→k≠g12)∧(∀ k,IvM w2.heap.size w3.heap.size k→k≠g9∧k≠g12)∧(∀ k,IvM w3.heap.size w4.heap.size k→k≠g9∧k≠g12)∧(∀ k,IvM w4.heap.size w5.heap.size k→k≠g9) from by
   have t9:=o9.1;have u9:=o9.2;have t12:=o12.1;have u12:=o12.2
   refine ⟨fun k hk=>?_,fun k hk=>⟨?_,?_⟩,fun k hk=>⟨?_,?_⟩,fun k hk=>?_⟩ <;> (have:=hk.1;have:=hk.2;omega))
  have HB5:=HB;clear o9 o10 o11 o12
  go_loopw [71] (fun v wr=>∃ i:Int,0≤i∧i≤(l0.length:Int)∧v = .int .i64 i∧Aside0 (Below w.heap.size w wr)∧Aside0 (w5.heap.size≤wr.heap.size)∧Aside0 (Kd.R (Kd.int .i64) 3 wr w.heap.size (IvM w2.heap.size w3.heap.size) (.slice (some ⟨g10,0,none⟩) l0.length k10) (mapN l0.length Z))∧Aside0 (Kd.R (Kd.int .i64) 3 wr w.heap.size (IvM w3.heap.size w4.heap.size) (.slice (some ⟨g11,0,none⟩) l0.length k11) (mapN l0.length M))∧Aside0 (∃ G H:Nat→Int,Kd.R (Kd.int .i64) 3 wr w.heap.size (IvM wp.heap.size w2.heap.size) (.slice (some ⟨g9,0,none⟩) l0.length k9) (mapN l0.length G)∧Kd.R (Kd.int .i64) 3 wr w.heap.size (IvM w4.heap.size w5.heap.size) (.slice (some ⟨g12,0,none⟩) l0.length k12) (mapN l0.length H)∧∀ a:Nat,(a < i.toNat→G a=mvX l0 l1 s0 (p0 - 1) a∧H a=mvX l0 l1 s0 (p0 - 1) a+M a)∧(i.toNat≤a→G a=Y a))) (fun v _=>(l0.length - (intOf v).toNat))
  case atStart=>exact ⟨0,by omega,by omega,rfl,HB,⟨Nat.le_refl _⟩,RY',RM,⟨Y,fun _=>0,RA.out,RB.out,fun a=>⟨fun h=>by simp at h,fun _=>rfl⟩⟩⟩
  case round =>
   clear HB RY' RM RA RB f0;obtain ⟨i,hi0,hi1,rfl,HB,HSZ,RY',RM,HGH⟩:=hrel;by_cases hlt:i < (l0.length:Int)
   ·obtain ⟨ae,e0,x0,x1,x2⟩:=at_T48 (Kd.C_below H0.out HB.out) i hi0 hlt;cases e0;obtain ⟨G,H,ga,gb,gc⟩:=HGH.out;have RA:=Aside0.mk ga;have RB:=Aside0.mk gb;have GC:=Aside0.mk gc;have hkn:=HKN.out i hi0 hlt;have hgi:G i.toNat=Y i.toNat:=(gc i.toNat).2 (Nat.le_refl _);have by1:=BY.out i.toNat;have bz1:=BZ.out i.toNat;have bm1:=BM.out i.toNat;have hX:=HXX.out i.toNat;rw [show ((i.toNat:Nat):Int)=i by omega] at hX;have hks:knd l0 i=(rd_T48 l0 i).f2:=rfl;rw [hks] at hkn hX;have HBX:=Aside0.mk (below_alloc HB.out (.cells #[.string (rd_T48 l0 i).f0,.int .i64 (rd_T48 l0 i).f1,.int .i64 (rd_T48 l0 i).f2] 48));generalize hkd:(rd_T48 l0 i).f2=kd at *;have HKD:=Aside0.mk hkd;clear ga gb gc hkd hks HGH;have hb:=below_alloc (Below.refl wr.heap.size wr) (.cells #[.string (rd_T48 l0 i).f0,.int .i64 (rd_T48 l0 i).f1,.int .i64 kd] 48);have u2:(wr.alloc (.cells #[.string (rd_T48 l0 i).f0,.int .i64 (rd_T48 l0 i).f1,.int .i64 kd] 48)).cell? ⟨wr.heap.size,2,none⟩=some (.int .i64 kd):=by go_simp
    replace RA:=Aside0.mk (Kd.R_below RA.out hb);replace RB:=Aside0.mk (Kd.R_below RB.out hb);replace RY':=Aside0.mk (Kd.R_below RY'.out hb);replace RM:=Aside0.mk (Kd.R_below RM.out hb);have hsz:=hb.size;obtain ⟨q9,r9⟩:=int_get RA.out i hi0 hlt;obtain ⟨q10,_⟩:=int_get RY'.out i hi0 hlt;obtain ⟨q11,_⟩:=int_get RM.out i hi0 hlt;obtain ⟨q12,r12⟩:=int_get RB.out i hi0 hlt;rw [mapN_rd hi0 hlt] at q9 q10 q11 q12;rw [hgi] at q9;have HGI:=Aside0.mk hgi;have HXI:=Aside0.mk hX;have HSZ2:=Aside0.mk (Nat.le_trans HSZ.out hsz);generalize hgh:H i.toNat=hh at *;generalize hgy:Y i.toNat=yy at *;generalize hgz:Z i.toNat=zz at *;generalize hgm:M i.toNat=mm at *;have EQ:=Aside0.mk (And.intro hgh (And.intro hgy (And.intro hgz hgm)));clear hb hsz hgh hgy hgz hgm hgi hX;by_cases hk4:kd=4
    ·have hk4b:(kd == 4)=true:=by rw [hk4];rfl
     have HK4:=Aside0.mk hk4;clear hk4
     go_wp2_with fail
     replace RM:=Aside0.mk (Kd.R_far (p:=⟨g9,i.toNat,none⟩) RM.out (fun k hk=>(OR.out.2.2.1 k hk).1) (.int .i64 zz));replace RY':=Aside0.mk (Kd.R_far (p:=⟨g9,i.toNat,none⟩) RY'.out (fun k hk=>(OR.out.2.1 k hk).1) (.int .i64 zz));replace RB:=Aside0.mk (Kd.R_far (p:=⟨g9,i.toNat,none⟩) RB.out (fun k hk=>OR.out.2.2.2 k hk) (.int .i64 zz));have hra:=int_seg RA.out i hi0 hlt zz;rw [mapN_set] at hra;replace RA:=Aside0.mk hra;replace HBX:=Aside0.mk (below_set (j:=i.toNat) (v:=.int .i64 zz) HBX.out OO.out.2.2.2.2.2.1);replace HSZ2:=Aside0.mk (show w5.heap.size≤((wr.alloc (.cells #[.string (rd_T48 l0 i).f0,.int .i64 (rd_T48 l0 i).f1,.int .i64 kd] 48)).setCell ⟨g9,i.toNat,none⟩ (.int .i64 zz)).heap.size by have:=HSZ2.out;simpa [World.setCell] using this);clear hra q9 q10 q11 q12 r9 r12 u2;obtain ⟨G2,hG2⟩:∃ G2:Nat→Int,G2=fun j=>if j=i.toNat then zz else G j:=⟨_,rfl⟩
     rw [← hG2] at RA;have HG2:=Aside0.mk (show G2 i.toNat=zz∧∀ a,a≠i.toNat→G2 a=G a from ⟨by rw [hG2];simp,fun a ha=>by rw [hG2];simp [ha]⟩);obtain ⟨q9,r9⟩:=int_get RA.out i hi0 hlt;obtain ⟨q11,_⟩:=int_get RM.out i hi0 hlt;obtain ⟨q12,r12⟩:=int_get RB.out i hi0 hlt;rw [mapN_rd hi0 hlt] at q9 q11 q12;rw [HG2.out.1] at q9;rw [EQ.out.2.2.2] at q11;rw [EQ.out.1] at q12;clear hG2;generalize ((wr.alloc (.cells #[.string (rd_T48 l0 i).f0,.int .i64 (rd_T48 l0 i).f1,.int .i64 kd] 48)).setCell ⟨g9,i.toNat,none⟩ (.int .i64 zz))=wq at *
     go_region
     go_wp2_with fail
     go_roundw
     case rel =>
      exact ⟨i+1,by omega,by omega,rfl,⟨pw_below_drewN (below_set HBX.out OO.out.2.2.2.2.2.2) 1⟩,⟨by have:=HSZ2.out;simpa [World.setCell] using this⟩,⟨Kd.R_drew (Kd.R_far (p:=⟨g12,i.toNat,none⟩) RY'.out (fun k hk=>(OR.out.2.1 k hk).2) _)⟩,⟨Kd.R_drew (Kd.R_far (p:=⟨g12,i.toNat,none⟩) RM.out (fun k hk=>(OR.out.2.2.1 k hk).2) _)⟩,
       ⟨G2,fun j=>if j=i.toNat then zz+mm else H j,Kd.R_drew (Kd.R_far (p:=⟨g12,i.toNat,none⟩) RA.out (fun k hk=>OR.out.1 k hk) _),by have:=int_seg RB.out i hi0 hlt (zz+mm);rw [mapN_set] at this;exact Kd.R_drew this,fun a=>⟨fun ha=>by
        show G2 a=mvX l0 l1 s0 (p0 - 1) a∧(if a=i.toNat then _ else H a)=mvX l0 l1 s0 (p0 - 1) a+M a;by_cases e:a=i.toNat
        ·rw [if_pos e,e,HG2.out.1,EQ.out.2.2.2,HXI.out,if_pos (.inl HK4.out)];exact ⟨rfl,rfl⟩
        ·rw [if_neg e,HG2.out.2 a e]
         exact (GC.out a).1 (by omega),fun ha=>by rw [HG2.out.2 a (by omega)];exact (GC.out a).2 (by omega)⟩⟩⟩
     case measure=>simp [intOf];omega
    ·have hk4b:(kd == 4)=false:=beq_eq_false_iff_ne.2 hk4;have HK4:=Aside0.mk hk4;clear hk4;by_cases hk5:kd=5
     ·have hk5b:(kd == 5)=true:=by rw [hk5];rfl
      have HK5:=Aside0.mk hk5;clear hk5
      go_wp2_with fail
      replace RM:=Aside0.mk (Kd.R_far (p:=⟨g9,i.toNat,none⟩) RM.out (fun k hk=>(OR.out.2.2.1 k hk).1) (.int .i64 zz));replace RY':=Aside0.mk (Kd.R_far (p:=⟨g9,i.toNat,none⟩) RY'.out (fun k hk=>(OR.out.2.1 k hk).1) (.int .i64 zz));replace RB:=Aside0.mk (Kd.R_far (p:=⟨g9,i.toNat,none⟩) RB.out (fun k hk=>OR.out.2.2.2 k hk) (.int .i64 zz));have hra:=int_seg RA.out i hi0 hlt zz;rw [mapN_set] at hra;replace RA:=Aside0.mk hra;replace HBX:=Aside0.mk (below_set (j:=i.toNat) (v:=.int .i64 zz) HBX.out OO.out.2.2.2.2.2.1);replace HSZ2:=Aside0.mk (show w5.heap.size≤((wr.alloc (.cells #[.string (rd_T48 l0 i).f0,.int .i64 (rd_T48 l0 i).f1,.int .i64 kd] 48)).setCell ⟨g9,i.toNat,none⟩ (.int .i64 zz)).heap.size by have:=HSZ2.out;simpa [World.setCell] using this);clear hra q9 q10 q11 q12 r9 r12 u2;obtain ⟨G2,hG2⟩:∃ G2:Nat→Int,G2=fun j=>if j=i.toNat then zz else G j:=⟨_,rfl⟩
      rw [← hG2] at RA;have HG2:=Aside0.mk (show G2 i.toNat=zz∧∀ a,a≠i.toNat→G2 a=G a from ⟨by rw [hG2];simp,fun a ha=>by rw [hG2];simp [ha]⟩);obtain ⟨q9,r9⟩:=int_get RA.out i hi0 hlt;obtain ⟨q11,_⟩:=int_get RM.out i hi0 hlt;obtain ⟨q12,r12⟩:=int_get RB.out i hi0 hlt;rw [mapN_rd hi0 hlt] at q9 q11 q12;rw [HG2.out.1] at q9;rw [EQ.out.2.2.2] at q11;rw [EQ.out.1] at q12;clear hG2;generalize ((wr.alloc (.cells #[.string (rd_T48 l0 i).f0,.int .i64 (rd_T48 l0 i).f1,.int .i64 kd] 48)).setCell ⟨g9,i.toNat,none⟩ (.int .i64 zz))=wq at *
      go_region
      go_wp2_with fail
      go_roundw
      case rel =>
       exact ⟨i+1,by omega,by omega,rfl,⟨pw_below_drewN (below_set HBX.out OO.out.2.2.2.2.2.2) 1⟩,⟨by have:=HSZ2.out;simpa [World.setCell] using this⟩,⟨Kd.R_drew (Kd.R_far (p:=⟨g12,i.toNat,none⟩) RY'.out (fun k hk=>(OR.out.2.1 k hk).2) _)⟩,⟨Kd.R_drew (Kd.R_far (p:=⟨g12,i.toNat,none⟩) RM.out (fun k hk=>(OR.out.2.2.1 k hk).2) _)⟩,
        ⟨G2,fun j=>if j=i.toNat then zz+mm else H j,Kd.R_drew (Kd.R_far (p:=⟨g12,i.toNat,none⟩) RA.out (fun k hk=>OR.out.1 k hk) _),by have:=int_seg RB.out i hi0 hlt (zz+mm);rw [mapN_set] at this;exact Kd.R_drew this,fun a=>⟨fun ha=>by
         show G2 a=mvX l0 l1 s0 (p0 - 1) a∧(if a=i.toNat then _ else H a)=mvX l0 l1 s0 (p0 - 1) a+M a;by_cases e:a=i.toNat
         ·rw [if_pos e,e,HG2.out.1,EQ.out.2.2.2,HXI.out,if_pos (.inr HK5.out)];exact ⟨rfl,rfl⟩
         ·rw [if_neg e,HG2.out.2 a e]
          exact (GC.out a).1 (by omega),fun ha=>by rw [HG2.out.2 a (by omega)];exact (GC.out a).2 (by omega)⟩⟩⟩
      case measure=>simp [intOf];omega
     ·have hk5b:(kd == 5)=false:=beq_eq_false_iff_ne.2 hk5;have HK5:=Aside0.mk hk5;clear hk5
      go_wp2_with fail
      obtain ⟨G2,hG2⟩:∃ G2:Nat→Int,G2=G:=⟨_,rfl⟩;rw [← hG2] at RA;have HG2:=Aside0.mk (show G2 i.toNat=yy∧∀ a,a≠i.toNat→G2 a=G a from ⟨by rw [hG2];exact HGI.out,fun a ha=>by rw [hG2]⟩);clear hG2 u2;generalize wr.alloc (.cells #[.string (rd_T48 l0 i).f0,.int .i64 (rd_T48 l0 i).f1,.int .i64 kd] 48)=wq at *
      go_region
      go_wp2_with fail
      go_roundw
      case rel =>
       exact ⟨i+1,by omega,by omega,rfl,⟨pw_below_drewN (below_set HBX.out OO.out.2.2.2.2.2.2) 1⟩,⟨by have:=HSZ2.out;simpa [World.setCell] using this⟩,⟨Kd.R_drew (Kd.R_far (p:=⟨g12,i.toNat,none⟩) RY'.out (fun k hk=>(OR.out.2.1 k hk).2) _)⟩,⟨Kd.R_drew (Kd.R_far (p:=⟨g12,i.toNat,none⟩) RM.out (fun k hk=>(OR.out.2.2.1 k hk).2) _)⟩,
        ⟨G2,fun j=>if j=i.toNat then yy+mm else H j,Kd.R_drew (Kd.R_far (p:=⟨g12,i.toNat,none⟩) RA.out (fun k hk=>OR.out.1 k hk) _),by have:=int_seg RB.out i hi0 hlt (yy+mm);rw [mapN_set] at this;exact Kd.R_drew this,fun a=>⟨fun ha=>by
         show G2 a=mvX l0 l1 s0 (p0 - 1) a∧(if a=i.toNat then _ else H a)=mvX l0 l1 s0 (p0 - 1) a+M a;by_cases e:a=i.toNat
         ·rw [if_pos e,e,HG2.out.1,EQ.out.2.2.2,HXI.out,if_neg (fun q=>q.elim HK4.out HK5.out)];exact ⟨rfl,rfl⟩
         ·rw [if_neg e,HG2.out.2 a e]
          exact (GC.out a).1 (by omega),fun ha=>by rw [HG2.out.2 a (by omega)];exact (GC.out a).2 (by omega)⟩⟩⟩
      case measure=>simp [intOf];omega
   ·go_wp2_with fail
    obtain ⟨G,H,ga,gb,gc⟩:=HGH.out;refine bodyPost_ret (v:=.tuple #[(.slice (some ⟨g9,0,none⟩) l0.length k9),(.slice (some ⟨g11,0,none⟩) l0.length k11),(.slice (some ⟨g12,0,none⟩) l0.length k12)]) (by simp [results,Tryz.results12,go_sem]) rfl ⟨_,_,_,rfl,?_,HB.out⟩;rw [HRV.out];have e1:mapN l0.length G=mapN l0.length (mvX l0 l1 s0 (p0 - 1)):=mapN_congr (fun a ha=>((gc a).1 (by omega)).1);have e2:mapN l0.length H=mapN l0.length (fun a=>mvX l0 l1 s0 (p0 - 1) a+basV a (-1) (-1) p0 p1 l1):=mapN_congr (fun a ha=>by rw [((gc a).1 (by omega)).2,HMM.out]);rw [e1] at ga;rw [e2] at gb;have gm:=RM.out;rw [HMM.out] at gm;exact ⟨wp.heap.size,w2.heap.size,w3.heap.size,w4.heap.size,w4.heap.size,w5.heap.size,HBA.out.size,sA,sY,sM,Nat.le_refl _,sB,HSZ.out,ga,gm,gb⟩
end Go.Proofs.YtnknanppoenigaaGreatDoor.Q
