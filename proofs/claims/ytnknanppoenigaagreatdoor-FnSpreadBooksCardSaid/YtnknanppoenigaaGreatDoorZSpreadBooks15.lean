/- Parts of the proof: what functions of the program and of the reference answer.
   No condition. -/
import Derived.Test.YtnknanppoenigaaGreatDoorZSpreadBooks1
import Derived.Test.YtnknanppoenigaaGreatDoorZSpreadBooks3
import Derived.Test.YtnknanppoenigaaGreatDoorZSpreadBooks11
import Derived.Test.YtnknanppoenigaaGreatDoorZSpreadBooks12
import Derived.Test.YtnknanppoenigaaGreatDoorZSpreadBooks6
import Derived.Test.YtnknanppoenigaaGreatDoorZSpreadBooks8
import Derived.Test.YtnknanppoenigaaGreatDoorZSpreadBooks7
import Derived.Test.YtnknanppoenigaaGreatDoorZSpreadBooks2
import Derived.Test.YtnknanppoenigaaGreatDoorZSpreadBooks14
import Derived.Test.YtnknanppoenigaaGreatDoorZSpreadBooks5
import Derived.Test.YtnknanppoenigaaGreatDoorZSpreadBooks4
import Derived.Test.YtnknanppoenigaaGreatDoorZSpreadBooks13
namespace Go.Proofs.YtnknanppoenigaaGreatDoor.Q
open Go.RowKit Go.Proofs.YtnknanppoenigaaGreatDoorW.PrintWords Go.Proofs.YtnknanppoenigaaGreatDoorW.PrintLast Go.Proofs.YtnknanppoenigaaGreatDoorW.PrintMore
set_option linter.unusedVariables false
set_option linter.unusedSimpArgs false
open Classical in
noncomputable def recC (m0:List Acc) (d c:Int) (m1:List Ent) (h:Int) (m2:List Per) (a b:Int) (e:Ent):Int :=
 if booksB m0 d c m1 h m2 a b=true then (if entryB m0 d c e=true then (if perV m2 e.f0 < 0 then 3 else if perV m2 e.f0 < a then 4 else if m1.length=1000 then 5 else 0) else 2) else 1
def RecPost (A:Nat→Addr) (l0:List Acc) (d c:Int) (l1:List Ent) (h:Int) (l2:List Per) (a b:Int) (x:Ent) (w:World) (e:Ending) (w':World):Prop :=
 Below w.heap.size w w'∧((recC l0 d c l1 h l2 a b x=0∧∃ v0:Value,e = .returned (.tuple #[.agg #[v0,.int .i64 (headV (l1++[x]))],.nilIface])∧Kd.S k41 41 w' w.heap.size (fun _=>True) v0 (l1++[x])) ∨
  (∃ k:Nat,k < 5∧recC l0 d c l1 h l2 a b x=(k:Int)+1∧∃ pb:Nat,w.heap.size≤pb∧e = .returned (.tuple #[.agg #[.slice none 0 0,.int .i64 0],.iface 112 (.pointer (some ⟨pb,0,none⟩))])∧w'.cell? ⟨pb,0+1,none⟩=some (.iface 155 (.pointer (some (A k))))))
theorem blk_drewI {W:World} {g:Nat} {o:Obj} (h:W.heap[g]?=some o):W.drew.heap[g]?=some o:=h
set_option maxHeartbeats 16000000 in
set_option maxRecDepth 100000 in
theorem impl_record.to (A:Nat→Addr) (A0:Option Addr) (c0:Nat) (l0:List Acc) (d c:Int) (A1:Option Addr) (c1:Nat) (l1:List Ent) (h:Int) (A2:Option Addr) (c2:Nat) (l2:List Per) (a b:Int) (e0 e1:Int) (e2:ByteArray) (A3:Option Addr) (c3:Nat) (l3:List Lin) (w:World) (hS:Sent w A) (hr0:Kd.C k48 w A0 l0.length l0) (hc0:l0.length≤c0) (hs:∀ x∈l0,x.f0.size≤maxLen) (hr1:Kd.C k41 w A1 l1.length l1) (hc1:l1.length≤c1) (hm:∀ e∈l1,e.f2.size≤maxLen) (hr2:Kd.C k63 w A2 l2.length l2) (hc2:l2.length≤c2) (hsm:(l1.length≤1048576∧∀ y∈l1,y.f3.length≤1048576)) (hr3:Kd.C k67 w A3 l3.length l3) (hc3:l3.length≤c3) (he:e2.size≤maxLen) (hl3:l3.length≤1048576) :
 Calls Tryz.prog 34 #[.agg #[.slice A0 l0.length c0,.int .i64 d,.int .i64 c,.slice A1 l1.length c1,.int .i64 h,.slice A2 l2.length c2,.int .i64 a,.int .i64 b],.agg #[.int .i64 e0,.int .i64 e1,.string e2,.slice A3 l3.length c3]] w fun e w'=>RecPost A l0 d c l1 h l2 a b ⟨e0,e1,e2,l3⟩ w e w':=by
 have HR0:=Aside0.mk hr0;have HR1:=Aside0.mk hr1;have HR2:=Aside0.mk hr2;have HR3:=Aside0.mk hr3;have HC0:=Aside0.mk hc0;have HC1:=Aside0.mk hc1;have HC2:=Aside0.mk hc2;have HC3:=Aside0.mk hc3;have HS:=Aside0.mk hs;have HM:=Aside0.mk hm;have HSM:=Aside0.mk hsm;have HE:=Aside0.mk he;have HL3:=Aside0.mk hl3;have HB:=Aside0.mk (below_alloc (below_two w (.cells #[.slice A0 l0.length c0,.int .i64 d,.int .i64 c,.slice A1 l1.length c1,.int .i64 h,.slice A2 l2.length c2,.int .i64 a,.int .i64 b] 32) (.cells #[.int .i64 e0,.int .i64 e1,.string e2,.slice A3 l3.length c3] 41)) (.cells #[.slice none 0 0,.int .i64 0] 29));have SN:=Aside0.mk (hS.below HB.out rfl);have hz:=World.block_lt_of_cell? _ _ (hS.cell 4 (by omega));have hz0:¬ w.heap.size=0:=by simp only at hz;omega
 have hz1:¬ w.heap.size=1:=by simp only at hz;omega
 have hz2:¬ w.heap.size=2:=by simp only at hz;omega
 have hn2:¬ 2=w.heap.size+1+1:=by omega
 have hn3:¬ 3=w.heap.size+1+1:=by omega
 have hn4:¬ 4=w.heap.size+1+1:=by omega
 clear hr0 hr1 hr2 hr3 hc0 hc1 hc2 hc3 hs hm hsm he hl3 hS
 go_enter Tryz.func34,Tryz.ntmps34
 go_wp2_with fail
 refine (impl_BooksOk.to A0 c0 l0 d c A1 c1 l1 h A2 c2 l2 a b _ (Kd.C_below HR0.out HB.out) HS.out (Kd.C_below HR1.out HB.out) HM.out (Kd.C_below HR2.out HB.out)).mono ?_;rintro x w1 ⟨rfl,hb⟩
 have K0:w1.heap[w.heap.size]?=some (.cells #[.slice A0 l0.length c0,.int .i64 d,.int .i64 c,.slice A1 l1.length c1,.int .i64 h,.slice A2 l2.length c2,.int .i64 a,.int .i64 b] 32 (0,0)):=by
  have:=y03 (blk_alloc (blk_alloc (blk_new (w) (.cells #[.slice A0 l0.length c0,.int .i64 d,.int .i64 c,.slice A1 l1.length c1,.int .i64 h,.slice A2 l2.length c2,.int .i64 a,.int .i64 b] 32)) (.cells #[.int .i64 e0,.int .i64 e1,.string e2,.slice A3 l3.length c3] 41)) (.cells #[.slice none 0 0,.int .i64 0] 29)) hb
  simpa using this
 have K1:w1.heap[w.heap.size+1]?=some (.cells #[.int .i64 e0,.int .i64 e1,.string e2,.slice A3 l3.length c3] 41 (0,0)):=by
  have:=y03 (blk_alloc (blk_new ((w).alloc (.cells #[.slice A0 l0.length c0,.int .i64 d,.int .i64 c,.slice A1 l1.length c1,.int .i64 h,.slice A2 l2.length c2,.int .i64 a,.int .i64 b] 32)) (.cells #[.int .i64 e0,.int .i64 e1,.string e2,.slice A3 l3.length c3] 41)) (.cells #[.slice none 0 0,.int .i64 0] 29)) hb
  simpa using this
 have K2:w1.heap[w.heap.size+1+1]?=some (.cells #[.slice none 0 0,.int .i64 0] 29 (0,0)):=by
  have:=y03 (blk_new (((w).alloc (.cells #[.slice A0 l0.length c0,.int .i64 d,.int .i64 c,.slice A1 l1.length c1,.int .i64 h,.slice A2 l2.length c2,.int .i64 a,.int .i64 b] 32)).alloc (.cells #[.int .i64 e0,.int .i64 e1,.string e2,.slice A3 l3.length c3] 41)) (.cells #[.slice none 0 0,.int .i64 0] 29)) hb
  simpa using this
 have HB1:=Aside0.mk (below_into (w:=w) hb HB.out);replace SN:=Aside0.mk (SN.out.below hb rfl);have z2:w.heap.size+1+1 < w1.heap.size:=blk_lt K2;clear hb HB;have f0:w1.cell? ⟨w.heap.size,0,none⟩=some (.slice A0 l0.length c0):=(y00 K0 0).trans rfl;have f1:w1.cell? ⟨w.heap.size,1,none⟩=some (.int .i64 d):=(y00 K0 1).trans rfl;have f2:w1.cell? ⟨w.heap.size,2,none⟩=some (.int .i64 c):=(y00 K0 2).trans rfl;have f3:w1.cell? ⟨w.heap.size,3,none⟩=some (.slice A1 l1.length c1):=(y00 K0 3).trans rfl;have f4:w1.cell? ⟨w.heap.size,4,none⟩=some (.int .i64 h):=(y00 K0 4).trans rfl;have f5:w1.cell? ⟨w.heap.size,5,none⟩=some (.slice A2 l2.length c2):=(y00 K0 5).trans rfl;have f6:w1.cell? ⟨w.heap.size,6,none⟩=some (.int .i64 a):=(y00 K0 6).trans rfl;have f7:w1.cell? ⟨w.heap.size,7,none⟩=some (.int .i64 b):=(y00 K0 7).trans rfl;have u0:w1.cell? ⟨w.heap.size+1,0,none⟩=some (.int .i64 e0):=(y00 K1 0).trans rfl;have u1:w1.cell? ⟨w.heap.size+1,1,none⟩=some (.int .i64 e1):=(y00 K1 1).trans rfl;have u2:w1.cell? ⟨w.heap.size+1,2,none⟩=some (.string e2):=(y00 K1 2).trans rfl;have u3:w1.cell? ⟨w.heap.size+1,3,none⟩=some (.slice A3 l3.length c3):=(y00 K1 3).trans rfl;have y0:w1.cell? ⟨w.heap.size+1+1,0,none⟩=some (.slice none 0 0):=(y00 K2 0).trans rfl;have yf0:=y02 K2 0;have y1:w1.cell? ⟨w.heap.size+1+1,1,none⟩=some (.int .i64 0):=(y00 K2 1).trans rfl;have yf1:=y02 K2 1;have s0:=SN.out.cell 0 (by omega);have s1:=SN.out.cell 1 (by omega);have s2:=SN.out.cell 2 (by omega);have s3:=SN.out.cell 3 (by omega);have s4:=SN.out.cell 4 (by omega);have LK2:=Aside0.mk K2;have LK1:=Aside0.mk K1;have LK0:=Aside0.mk K0;clear K0 K1 K2;cases q1:booksB l0 d c l1 h l2 a b with
 | false =>
  have HN:=Aside0.mk (show recC l0 d c l1 h l2 a b ⟨e0,e1,e2,l3⟩=((0:Nat):Int)+1 from if_neg (by simp only [q1];simp));clear q1
  go_wp2_with fail
  go_region
  go_wp2_with fail
  refine bodyPost_ret (results_ct rfl _ _ (w.heap.size+1+1) 29 #[.slice none 0 0,.int .i64 0] (0,0) _ rfl (by exact blk_drewI (blk_alloc (blk2 LK2.out _ _) _)) Tryz.underlying29 rfl (by kernel_rfl)) rfl ?_;exact ⟨below_drew1 (below_alloc (below_put2 HB1.out (by omega) _ _) _),.inr ⟨0,by omega,HN.out,w1.heap.size,by omega,rfl,by go_simp⟩⟩
 | true =>
  have HQ:=Aside0.mk q1;have q3:=(booksB_true.1 q1).1;have q2:=ledgerB_true.2 q3;have fl:=frame_len q3.1;have z_w1:=z2;clear q1
  go_wp2_with fail
  refine (impl_entryIn.to A0 c0 l0 d c ⟨e0,e1,e2,l3⟩ A3 c3 _ (Kd.C_below HR0.out HB1.out) (Kd.C_below HR3.out HB1.out) fl.2.1 fl.2.2 HE.out).mono ?_;rintro x w2 ⟨rfl,hb⟩;replace f0:=y01 hb f0;replace f1:=y01 hb f1;replace f2:=y01 hb f2;replace f3:=y01 hb f3;replace f4:=y01 hb f4;replace f5:=y01 hb f5;replace f6:=y01 hb f6;replace f7:=y01 hb f7;replace u0:=y01 hb u0;replace u1:=y01 hb u1;replace u2:=y01 hb u2;replace u3:=y01 hb u3;replace y0:=y01 hb y0;replace yf0:=(hb.frozen (p:=⟨w.heap.size+1+1,0,none⟩) (by omega)).trans yf0;replace y1:=y01 hb y1;replace yf1:=(hb.frozen (p:=⟨w.heap.size+1+1,1,none⟩) (by omega)).trans yf1;replace s0:=y01 hb s0;replace s1:=y01 hb s1;replace s2:=y01 hb s2;replace s3:=y01 hb s3;replace s4:=y01 hb s4;replace LK0:=Aside0.mk (y03 LK0.out hb);replace LK1:=Aside0.mk (y03 LK1.out hb);replace LK2:=Aside0.mk (y03 LK2.out hb);have HB2:=Aside0.mk (below_into (w:=w) hb HB1.out);have zz_w2:=hb.size;have z_w2:w.heap.size+1+1 < w2.heap.size:=blk_lt LK2.out;clear hb;cases q4:entryB l0 d c ⟨e0,e1,e2,l3⟩ with
  | false =>
   have HN:=Aside0.mk (show recC l0 d c l1 h l2 a b ⟨e0,e1,e2,l3⟩=((1:Nat):Int)+1 by unfold recC;rw [if_pos HQ.out,if_neg (by simp only [q4];simp)];rfl);clear q4 q2 q3 fl
   go_wp2_with fail
   go_region
   go_wp2_with fail
   refine bodyPost_ret (results_ct rfl _ _ (w.heap.size+1+1) 29 #[.slice none 0 0,.int .i64 0] (0,0) _ rfl (by exact blk_drewI (blk_alloc (blk2 LK2.out _ _) _)) Tryz.underlying29 rfl (by kernel_rfl)) rfl ?_;exact ⟨below_drew1 (below_alloc (below_put2 HB2.out (by omega) _ _) _),.inr ⟨1,by omega,HN.out,w2.heap.size,by omega,rfl,by go_simp⟩⟩
  | true =>
   have HQ4:=Aside0.mk q4;have QL:=Aside0.mk q2;clear q4 q2 q3 fl
   go_wp2_with fail
   refine (impl_PeriodAt.calls 100 A2 c2 l2 e0 (perV l2 e0) _ (Kd.C_below HR2.out HB2.out) HC2.out (impl_PeriodAt_is l2 e0)).mono ?_;rintro x w3 ⟨rfl,hb⟩;have hpv:=Aside0.mk (rfl:perV l2 e0=perV l2 e0);replace f0:=y01 hb f0;replace f1:=y01 hb f1;replace f2:=y01 hb f2;replace f3:=y01 hb f3;replace f4:=y01 hb f4;replace f5:=y01 hb f5;replace f6:=y01 hb f6;replace f7:=y01 hb f7;replace u0:=y01 hb u0;replace u1:=y01 hb u1;replace u2:=y01 hb u2;replace u3:=y01 hb u3;replace y0:=y01 hb y0;replace yf0:=(hb.frozen (p:=⟨w.heap.size+1+1,0,none⟩) (by omega)).trans yf0;replace y1:=y01 hb y1;replace yf1:=(hb.frozen (p:=⟨w.heap.size+1+1,1,none⟩) (by omega)).trans yf1;replace s0:=y01 hb s0;replace s1:=y01 hb s1;replace s2:=y01 hb s2;replace s3:=y01 hb s3;replace s4:=y01 hb s4;replace LK0:=Aside0.mk (y03 LK0.out hb);replace LK1:=Aside0.mk (y03 LK1.out hb);replace LK2:=Aside0.mk (y03 LK2.out hb);have HB3:=Aside0.mk (below_into (w:=w) hb HB2.out);have zz_w3:=hb.size;have z_w3:w.heap.size+1+1 < w3.heap.size:=blk_lt LK2.out;clear hb;by_cases q5:perV l2 e0 < 0
   ·have HN:=Aside0.mk (show recC l0 d c l1 h l2 a b ⟨e0,e1,e2,l3⟩=((2:Nat):Int)+1 by unfold recC;rw [if_pos HQ.out,if_pos HQ4.out,if_pos (show perV l2 e0 < 0 from q5)];rfl);have q5':decide (perV l2 e0 < 0)=true:=decide_eq_true q5;clear q5 hpv;generalize perV l2 e0=pv at *
    go_wp2_with fail
    go_region
    go_wp2_with fail
    refine bodyPost_ret (results_ct rfl _ _ (w.heap.size+1+1) 29 #[.slice none 0 0,.int .i64 0] (0,0) _ rfl (by exact blk_drewI (blk_alloc (blk2 LK2.out _ _) _)) Tryz.underlying29 rfl (by kernel_rfl)) rfl ?_;exact ⟨below_drew1 (below_alloc (below_put2 HB3.out (by omega) _ _) _),.inr ⟨2,by omega,HN.out,w3.heap.size,by omega,rfl,by go_simp⟩⟩
   by_cases q6:perV l2 e0 < a
   ·have HN:=Aside0.mk (show recC l0 d c l1 h l2 a b ⟨e0,e1,e2,l3⟩=((3:Nat):Int)+1 by unfold recC;rw [if_pos HQ.out,if_pos HQ4.out,if_neg (show ¬ perV l2 e0 < 0 from q5),if_pos (show perV l2 e0 < a from q6)];rfl);clear hpv;generalize perV l2 e0=pv at *
    go_wp2_with fail
    go_region
    go_wp2_with fail
    refine bodyPost_ret (results_ct rfl _ _ (w.heap.size+1+1) 29 #[.slice none 0 0,.int .i64 0] (0,0) _ rfl (by exact blk_drewI (blk_alloc (blk2 LK2.out _ _) _)) Tryz.underlying29 rfl (by kernel_rfl)) rfl ?_;exact ⟨below_drew1 (below_alloc (below_put2 HB3.out (by omega) _ _) _),.inr ⟨3,by omega,HN.out,w3.heap.size,by omega,rfl,by go_simp⟩⟩
   by_cases q7:l1.length=1000
   ·have HN:=Aside0.mk (show recC l0 d c l1 h l2 a b ⟨e0,e1,e2,l3⟩=((4:Nat):Int)+1 by unfold recC;rw [if_pos HQ.out,if_pos HQ4.out,if_neg (show ¬ perV l2 e0 < 0 from q5),if_neg (show ¬ perV l2 e0 < a from q6),if_pos (show l1.length=1000 from q7)];rfl);have HR:=Aside0.mk (show postR l0 d c l1 h ⟨e0,e1,e2,l3⟩=(l1,h,3) by unfold postR;rw [if_pos QL.out,if_pos HQ4.out,if_pos q7]);have q5':decide (perV l2 e0 < 0)=false:=decide_eq_false q5;have q6':decide (perV l2 e0 < a)=false:=decide_eq_false q6;clear hpv q7;generalize perV l2 e0=pv at *
    go_wp2_with fail
    refine (impl_Post.at A0 c0 l0 d c A1 c1 l1 h e0 e1 e2 A3 c3 l3 l1 h 3 _ (Kd.C_below HR0.out HB3.out) HC0.out (Kd.C_below HR1.out HB3.out) HC1.out (Kd.C_below HR3.out HB3.out) HC3.out ⟨⟨HS.out,HM.out,HE.out,HSM.out.1,HSM.out.2,HL3.out⟩,HR.out⟩).mono ?_;rintro x w4 ⟨v0,rfl,hO,hb⟩;replace f0:=y01 hb f0;replace f1:=y01 hb f1;replace f2:=y01 hb f2;replace f3:=y01 hb f3;replace f4:=y01 hb f4;replace f5:=y01 hb f5;replace f6:=y01 hb f6;replace f7:=y01 hb f7;replace u0:=y01 hb u0;replace u1:=y01 hb u1;replace u2:=y01 hb u2;replace u3:=y01 hb u3;replace y0:=y01 hb y0;replace yf0:=(hb.frozen (p:=⟨w.heap.size+1+1,0,none⟩) (by omega)).trans yf0;replace y1:=y01 hb y1;replace yf1:=(hb.frozen (p:=⟨w.heap.size+1+1,1,none⟩) (by omega)).trans yf1;replace s0:=y01 hb s0;replace s1:=y01 hb s1;replace s2:=y01 hb s2;replace s3:=y01 hb s3;replace s4:=y01 hb s4;replace LK0:=Aside0.mk (y03 LK0.out hb);replace LK1:=Aside0.mk (y03 LK1.out hb);replace LK2:=Aside0.mk (y03 LK2.out hb);have HB4:=Aside0.mk (below_into (w:=w) hb HB3.out);have zz_w4:=hb.size;have z_w4:w.heap.size+1+1 < w4.heap.size:=blk_lt LK2.out;clear hb;obtain ⟨B0,b0,rfl⟩:=Kd.S_slice hO;clear hO
    go_wp2_with fail
    have hb:=below_alloc (Below.refl w4.heap.size w4) (.cells #[.slice B0 l1.length b0,.int .i64 h] 29);generalize w4.alloc (.cells #[.slice B0 l1.length b0,.int .i64 h] 29)=w5 at *;replace f0:=y01 hb f0;replace f1:=y01 hb f1;replace f2:=y01 hb f2;replace f3:=y01 hb f3;replace f4:=y01 hb f4;replace f5:=y01 hb f5;replace f6:=y01 hb f6;replace f7:=y01 hb f7;replace u0:=y01 hb u0;replace u1:=y01 hb u1;replace u2:=y01 hb u2;replace u3:=y01 hb u3;replace y0:=y01 hb y0;replace yf0:=(hb.frozen (p:=⟨w.heap.size+1+1,0,none⟩) (by omega)).trans yf0;replace y1:=y01 hb y1;replace yf1:=(hb.frozen (p:=⟨w.heap.size+1+1,1,none⟩) (by omega)).trans yf1;replace s0:=y01 hb s0;replace s1:=y01 hb s1;replace s2:=y01 hb s2;replace s3:=y01 hb s3;replace s4:=y01 hb s4;replace LK0:=Aside0.mk (y03 LK0.out hb);replace LK1:=Aside0.mk (y03 LK1.out hb);replace LK2:=Aside0.mk (y03 LK2.out hb);have HB5:=Aside0.mk (below_into (w:=w) hb HB4.out);have zz_w5:=hb.size;have z_w5:w.heap.size+1+1 < w5.heap.size:=blk_lt LK2.out;clear hb
    go_region
    go_wp2_with fail
    refine bodyPost_ret (results_ct rfl _ _ (w.heap.size+1+1) 29 #[.slice none 0 0,.int .i64 0] (0,0) _ rfl (by exact blk_drewI (blk_alloc (blk2 LK2.out _ _) _)) Tryz.underlying29 rfl (by kernel_rfl)) rfl ?_;exact ⟨below_drew1 (below_alloc (below_put2 HB5.out (by omega) _ _) _),.inr ⟨4,by omega,HN.out,w5.heap.size,by omega,rfl,by go_simp⟩⟩
   ·have HN:=Aside0.mk (show recC l0 d c l1 h l2 a b ⟨e0,e1,e2,l3⟩=0 by unfold recC;rw [if_pos HQ.out,if_pos HQ4.out,if_neg (show ¬ perV l2 e0 < 0 from q5),if_neg (show ¬ perV l2 e0 < a from q6),if_neg (show ¬ l1.length=1000 from q7)]);have HR:=Aside0.mk (show postR l0 d c l1 h ⟨e0,e1,e2,l3⟩=(l1++[⟨e0,e1,e2,l3⟩],headV (l1++[⟨e0,e1,e2,l3⟩]),0) by unfold postR;rw [if_pos QL.out,if_pos HQ4.out,if_neg q7]);have q5':decide (perV l2 e0 < 0)=false:=decide_eq_false q5;have q6':decide (perV l2 e0 < a)=false:=decide_eq_false q6;clear hpv q7;generalize perV l2 e0=pv at *
    go_wp2_with fail
    refine (impl_Post.at A0 c0 l0 d c A1 c1 l1 h e0 e1 e2 A3 c3 l3 (l1++[⟨e0,e1,e2,l3⟩]) (headV (l1++[⟨e0,e1,e2,l3⟩])) 0 _ (Kd.C_below HR0.out HB3.out) HC0.out (Kd.C_below HR1.out HB3.out) HC1.out (Kd.C_below HR3.out HB3.out) HC3.out ⟨⟨HS.out,HM.out,HE.out,HSM.out.1,HSM.out.2,HL3.out⟩,HR.out⟩).mono ?_;rintro x w4 ⟨v0,rfl,hO,hb⟩;replace f0:=y01 hb f0;replace f1:=y01 hb f1;replace f2:=y01 hb f2;replace f3:=y01 hb f3;replace f4:=y01 hb f4;replace f5:=y01 hb f5;replace f6:=y01 hb f6;replace f7:=y01 hb f7;replace u0:=y01 hb u0;replace u1:=y01 hb u1;replace u2:=y01 hb u2;replace u3:=y01 hb u3;replace y0:=y01 hb y0;replace yf0:=(hb.frozen (p:=⟨w.heap.size+1+1,0,none⟩) (by omega)).trans yf0;replace y1:=y01 hb y1;replace yf1:=(hb.frozen (p:=⟨w.heap.size+1+1,1,none⟩) (by omega)).trans yf1;replace s0:=y01 hb s0;replace s1:=y01 hb s1;replace s2:=y01 hb s2;replace s3:=y01 hb s3;replace s4:=y01 hb s4;replace LK0:=Aside0.mk (y03 LK0.out hb);replace LK1:=Aside0.mk (y03 LK1.out hb);replace LK2:=Aside0.mk (y03 LK2.out hb);have HB4:=Aside0.mk (below_into (w:=w) hb HB3.out);have zz_w4:=hb.size;have z_w4:w.heap.size+1+1 < w4.heap.size:=blk_lt LK2.out;clear hb;obtain ⟨B0,b0,rfl⟩:=Kd.S_slice hO;have HO:=Aside0.mk (Kd.S_lower (Kd.S_mono (ok':=fun k=>w3.heap.size≤k) (Kd.S_bound hO) (fun k hk=>hk.2.1)) (show w.heap.size≤w3.heap.size by omega));clear hO;obtain ⟨hv,hhv⟩:∃ hv,hv=headV (l1++[⟨e0,e1,e2,l3⟩]):=⟨_,rfl⟩;rw [← hhv];have HV:=Aside0.mk hhv;clear hhv HR
    go_wp2_with fail
    refine bodyPost_ret (results_ct rfl _ _ (w.heap.size+1+1) 29 #[.slice B0 (l1.length+1) b0,.int .i64 hv] (0,0) _ rfl (by exact blk_alloc (blk2 LK2.out _ _) _) Tryz.underlying29 rfl (by kernel_rfl)) rfl ?_;refine ⟨below_alloc (below_put2 HB4.out (by omega) _ _) _,.inl ⟨HN.out,.slice B0 (l1.length+1) b0,HV.out ▸ rfl,Kd.S_mono (Kd.S_alloc (Kd.S_far (Kd.S_far (by simpa using HO.out) (fun k hk=>by simp only;omega) _) (fun k hk=>by simp only;omega) _) _) (fun _ _=>trivial)⟩⟩
set_option maxHeartbeats 32000000 in
set_option maxRecDepth 100000 in
theorem impl_CloseYear.to (A0:Option Addr) (c0:Nat) (l0:List Acc) (d c:Int) (A1:Option Addr) (c1:Nat) (l1:List Ent) (h:Int) (A2:Option Addr) (c2:Nat) (l2:List Per) (a b day:Int) (w:World) (hr0:Kd.C k48 w A0 l0.length l0) (hs:∀ x∈l0,x.f0.size≤maxLen) (hr1:Kd.C k41 w A1 l1.length l1) (hm:∀ e∈l1,e.f2.size≤maxLen) (hr2:Kd.C k63 w A2 l2.length l2) :
 Calls Tryz.prog 13 #[.agg #[.slice A0 l0.length c0,.int .i64 d,.int .i64 c,.slice A1 l1.length c1,.int .i64 h,.slice A2 l2.length c2,.int .i64 a,.int .i64 b],.int .i64 day] w fun e w'=>∃ v3:Value,e = .returned (.tuple #[.agg #[.int .i64 (closeR l0 d c l1 h l2 a b day).1,.int .i64 (closeR l0 d c l1 h l2 a b day).2.1,.string (closeR l0 d c l1 h l2 a b day).2.2.1,v3],.bool (closeR l0 d c l1 h l2 a b day).2.2.2.2])∧Kd.R k67 67 w' w.heap.size (fun _=>True) v3 (closeR l0 d c l1 h l2 a b day).2.2.2.1∧Below w.heap.size w w':=by
 have H0:=Aside0.mk hr0;have H1:=Aside0.mk hr1;have H2:=Aside0.mk hr2;have HS:=Aside0.mk hs;have HM:=Aside0.mk hm;have HB:=Aside0.mk (below_two w (.cells #[.slice A0 l0.length c0,.int .i64 d,.int .i64 c,.slice A1 l1.length c1,.int .i64 h,.slice A2 l2.length c2,.int .i64 a,.int .i64 b] 32) (.cells #[.int .i64 0,.int .i64 0,.string ⟨#[]⟩,.slice none 0 0] 41));clear hr0 hr1 hr2 hs hm
 go_enter Tryz.func13,Tryz.ntmps13
 go_wp2_with fail
 refine (impl_BooksOk.to A0 c0 l0 d c A1 c1 l1 h A2 c2 l2 a b _ (Kd.C_below H0.out HB.out) HS.out (Kd.C_below H1.out HB.out) HM.out (Kd.C_below H2.out HB.out)).mono ?_;rintro x w1 ⟨rfl,hb⟩;have K0:=Aside0.mk (show w1.heap[w.heap.size]?=some (.cells #[.slice A0 l0.length c0,.int .i64 d,.int .i64 c,.slice A1 l1.length c1,.int .i64 h,.slice A2 l2.length c2,.int .i64 a,.int .i64 b] 32 (0,0)) from y03 (blk_alloc (blk_new w (.cells #[.slice A0 l0.length c0,.int .i64 d,.int .i64 c,.slice A1 l1.length c1,.int .i64 h,.slice A2 l2.length c2,.int .i64 a,.int .i64 b] 32)) _) hb);have K1:=Aside0.mk (show w1.heap[w.heap.size+1]?=some (.cells #[.int .i64 0,.int .i64 0,.string ⟨#[]⟩,.slice none 0 0] 41 (0,0)) from y03 (by have:=blk_new (w.alloc (.cells #[.slice A0 l0.length c0,.int .i64 d,.int .i64 c,.slice A1 l1.length c1,.int .i64 h,.slice A2 l2.length c2,.int .i64 a,.int .i64 b] 32)) (.cells #[.int .i64 0,.int .i64 0,.string ⟨#[]⟩,.slice none 0 0] 41);simpa using this) hb);have HB1:=Aside0.mk (below_into (w:=w) hb HB.out);have z1:w.heap.size+1 < w1.heap.size:=blk_lt K1.out;clear hb HB;have f0:w1.cell? ⟨w.heap.size,0,none⟩=some (.slice A0 l0.length c0):=(y00 K0.out 0).trans rfl;have f1:w1.cell? ⟨w.heap.size,1,none⟩=some (.int .i64 d):=(y00 K0.out 1).trans rfl;have f2:w1.cell? ⟨w.heap.size,2,none⟩=some (.int .i64 c):=(y00 K0.out 2).trans rfl;have f3:w1.cell? ⟨w.heap.size,3,none⟩=some (.slice A1 l1.length c1):=(y00 K0.out 3).trans rfl;have f4:w1.cell? ⟨w.heap.size,4,none⟩=some (.int .i64 h):=(y00 K0.out 4).trans rfl;have f5:w1.cell? ⟨w.heap.size,5,none⟩=some (.slice A2 l2.length c2):=(y00 K0.out 5).trans rfl;have f6:w1.cell? ⟨w.heap.size,6,none⟩=some (.int .i64 a):=(y00 K0.out 6).trans rfl;have f7:w1.cell? ⟨w.heap.size,7,none⟩=some (.int .i64 b):=(y00 K0.out 7).trans rfl;have g0:w1.cell? ⟨w.heap.size+1,0,none⟩=some (.int .i64 0):=(y00 K1.out 0).trans rfl;have gf0:=y02 K1.out 0;have g1:w1.cell? ⟨w.heap.size+1,1,none⟩=some (.int .i64 0):=(y00 K1.out 1).trans rfl;have gf1:=y02 K1.out 1;have g2:w1.cell? ⟨w.heap.size+1,2,none⟩=some (.string ⟨#[]⟩):=(y00 K1.out 2).trans rfl;have gf2:=y02 K1.out 2;have g3:w1.cell? ⟨w.heap.size+1,3,none⟩=some (.slice none 0 0):=(y00 K1.out 3).trans rfl;have gf3:=y02 K1.out 3;cases q1:booksB l0 d c l1 h l2 a b with
 | false =>
  have HN:=Aside0.mk (show closeR l0 d c l1 h l2 a b day=(0,0,⟨#[]⟩,[],false) from if_neg (fun q=>by rw [q1] at q;cases q.1));clear q1
  go_wp2_with fail
  rw [HN.out];refine bodyPost_ret (results_ct rfl _ _ (w.heap.size+1) 41 #[.int .i64 0,.int .i64 0,.string ⟨#[]⟩,.slice none 0 0] (0,0) _ rfl (by exact blk4 K1.out _ _ _ _) Tryz.underlying41 rfl (by kernel_rfl)) rfl ?_;exact ⟨.slice none 0 0,rfl,Kd.R_nil _ _ _ _ _,below_put4 HB1.out (by omega) _ _ _ _⟩
 | true =>
  have HQ:=Aside0.mk (booksB_true.1 q1);have HQB:=Aside0.mk q1;clear q1;have hfr:=frame_len HQ.out.1.1;obtain ⟨hcl,⟨hd1,hd2⟩,⟨hc1,hc2⟩⟩:=hfr;obtain ⟨hln,_,hfine,_⟩:=ledger_fine (ledgerB_true.2 HQ.out.1);have HFI:=Aside0.mk hfine;have HFF:=Aside0.mk (show ∀ e∈l1,entFine e from hfine);clear hfine
  go_wp2_with fail
  refine (impl_open.to A0 l0.length c0 d c A1 l1.length c1 h A2 l2.length c2 a b _).mono ?_;rintro x w2 ⟨rfl,hb⟩;have K0':=Aside0.mk (y03 K0.out hb);have K1':=Aside0.mk (y03 K1.out hb);have HB2:=Aside0.mk (below_into (w:=w) hb HB1.out);have z2:w.heap.size+1 < w2.heap.size:=by have:=hb.size;omega
  have z2':w.heap.size < w2.heap.size:=by omega
  clear hb f0 f1 f2 f3 f4 f5 f6 f7 g0 g1 g2 g3 gf0 gf1 gf2 gf3 K0 K1;have N0:=Aside0.mk (blk_alloc (blk_alloc K0'.out (.cells #[.slice A0 l0.length c0,.int .i64 d,.int .i64 c,.slice A1 l1.length c1,.int .i64 h,.slice A0 l0.length c0,.int .i64 d,.int .i64 c,.slice A1 l1.length c1,.int .i64 h,.slice A2 l2.length c2,.int .i64 a,.int .i64 b] 81)) (.cells #[.int .i64 day,.int .i64 0,.string closeT,.slice none 0 0] 41));have N1:=Aside0.mk (blk_alloc (blk_alloc K1'.out (.cells #[.slice A0 l0.length c0,.int .i64 d,.int .i64 c,.slice A1 l1.length c1,.int .i64 h,.slice A0 l0.length c0,.int .i64 d,.int .i64 c,.slice A1 l1.length c1,.int .i64 h,.slice A2 l2.length c2,.int .i64 a,.int .i64 b] 81)) (.cells #[.int .i64 day,.int .i64 0,.string closeT,.slice none 0 0] 41));have N2:=Aside0.mk (blk_alloc (blk_new w2 (.cells #[.slice A0 l0.length c0,.int .i64 d,.int .i64 c,.slice A1 l1.length c1,.int .i64 h,.slice A0 l0.length c0,.int .i64 d,.int .i64 c,.slice A1 l1.length c1,.int .i64 h,.slice A2 l2.length c2,.int .i64 a,.int .i64 b] 81)) (.cells #[.int .i64 day,.int .i64 0,.string closeT,.slice none 0 0] 41));have N3:=Aside0.mk (show ((w2.alloc (.cells #[.slice A0 l0.length c0,.int .i64 d,.int .i64 c,.slice A1 l1.length c1,.int .i64 h,.slice A0 l0.length c0,.int .i64 d,.int .i64 c,.slice A1 l1.length c1,.int .i64 h,.slice A2 l2.length c2,.int .i64 a,.int .i64 b] 81)).alloc (.cells #[.int .i64 day,.int .i64 0,.string closeT,.slice none 0 0] 41)).heap[w2.heap.size+1]?=some (.cells #[.int .i64 day,.int .i64 0,.string closeT,.slice none 0 0] 41 (0,0)) from by have:=blk_new (w2.alloc (.cells #[.slice A0 l0.length c0,.int .i64 d,.int .i64 c,.slice A1 l1.length c1,.int .i64 h,.slice A0 l0.length c0,.int .i64 d,.int .i64 c,.slice A1 l1.length c1,.int .i64 h,.slice A2 l2.length c2,.int .i64 a,.int .i64 b] 81)) (.cells #[.int .i64 day,.int .i64 0,.string closeT,.slice none 0 0] 41);simpa using this);have HBN:=Aside0.mk (below_alloc (below_alloc HB2.out (.cells #[.slice A0 l0.length c0,.int .i64 d,.int .i64 c,.slice A1 l1.length c1,.int .i64 h,.slice A0 l0.length c0,.int .i64 d,.int .i64 c,.slice A1 l1.length c1,.int .i64 h,.slice A2 l2.length c2,.int .i64 a,.int .i64 b] 81)) (.cells #[.int .i64 day,.int .i64 0,.string closeT,.slice none 0 0] 41));clear K0' K1' HB1;obtain ⟨ls,hls⟩:∃ ls,ls=leavesUpto l0 l0.length:=⟨_,rfl⟩;have hll:ls.length≤120:=by have:=leavesUpto_len l0 l0.length;rw [hls];omega
  have HLS:=Aside0.mk hls;have BB:=Aside0.mk (fun (x i:Int)=>clB_b HFF.out hln day x i);clear hls
  go_wp2_with fail
  go_loopg [8] d.toNat (fun kq v8 wr=>∃ (n:Nat) (v:Value),v8 = .int .i64 (n:Int)∧(n:Int)≤d∧kq+n=d.toNat∧Aside0 (wr.heap[w.heap.size]?=some (.cells #[.slice A0 l0.length c0,.int .i64 d,.int .i64 c,.slice A1 l1.length c1,.int .i64 h,.slice A2 l2.length c2,.int .i64 a,.int .i64 b] 32 (0,0)))∧Aside0 (wr.heap[w.heap.size+1]?=some (.cells #[.int .i64 0,.int .i64 0,.string ⟨#[]⟩,.slice none 0 0] 41 (0,0)))∧Aside0 (wr.heap[w2.heap.size]?=some (.cells #[.slice A0 l0.length c0,.int .i64 d,.int .i64 c,.slice A1 l1.length c1,.int .i64 h,.slice A0 l0.length c0,.int .i64 d,.int .i64 c,.slice A1 l1.length c1,.int .i64 h,.slice A2 l2.length c2,.int .i64 a,.int .i64 b] 81 (0,0)))∧Aside0 (wr.heap[w2.heap.size+1]?=some (.cells #[.int .i64 day,.int .i64 0,.string closeT,v] 41 (0,0)))∧Aside0 (Kd.R k67 67 wr w.heap.size (fun k=>w2.heap.size+1 < k) v (allL b (clB l1 day) ls n))∧Aside0 (Below w.heap.size w wr))
  case atStart=>exact ⟨0,.slice none 0 0,rfl,by omega,by omega,N0,N1,N2,N3,⟨Kd.R_nil _ _ _ _ _⟩,HBN⟩
  case round =>
   clear N0 N1 N2 N3 HBN HB2;obtain ⟨n,v,rfl,hn,hkq,N0,N1,N2,N3,RR,HB⟩:=hrel;have zb3:=blk_lt N3.out;have zb2:w2.heap.size < wr.heap.size:=by omega
   have zb1:w.heap.size+1 < wr.heap.size:=by omega
   have zb0:w.heap.size < wr.heap.size:=by omega
   have f0:wr.cell? ⟨w.heap.size,0,none⟩=some (.slice A0 l0.length c0):=(y00 N0.out 0).trans rfl;have f1:wr.cell? ⟨w.heap.size,1,none⟩=some (.int .i64 d):=(y00 N0.out 1).trans rfl;have f2:wr.cell? ⟨w.heap.size,2,none⟩=some (.int .i64 c):=(y00 N0.out 2).trans rfl;have f7:wr.cell? ⟨w.heap.size,7,none⟩=some (.int .i64 b):=(y00 N0.out 7).trans rfl;by_cases hlt:(n:Int) < d
   case neg =>
    have hnd:n=d.toNat:=by omega
    have cc:decide ((n:Int) < d)=false:=decide_eq_false hlt;have HCL:=Aside0.mk (show allL b (clB l1 day) ls n=closeL l0 d l1 b day by unfold closeL;rw [hnd,HLS.out]);have RC:=Aside0.mk (show Kd.R k67 67 wr w.heap.size (fun k=>w2.heap.size+1 < k) v (closeL l0 d l1 b day) from HCL.out ▸ RR.out)
    have HRES:=Aside0.mk (show ∀ q,entryB l0 d c ⟨day,0,closeT,closeL l0 d l1 b day⟩=q→closeR l0 d c l1 h l2 a b day=if q=true then (day,0,closeT,closeL l0 d l1 b day,true) else (0,0,⟨#[]⟩,[],false) from fun q hq=>by
     unfold closeR;cases q with
     | true=>rw [if_pos ⟨HQB.out,hq⟩,if_pos rfl]
     | false=>rw [if_neg (fun k=>by rw [hq] at k;cases k.2),if_neg (by simp)])
    obtain ⟨A3,c3,hv⟩:=Kd.R_slice RC.out;subst hv;have HC3:=Aside0.mk (Kd.R_reads' RC.out).2.2;clear RR HCL hnd hlt;generalize closeL l0 d l1 b day=cl at *;have y0:wr.cell? ⟨w2.heap.size+1,0,none⟩=some (.int .i64 day):=(y00 N3.out 0).trans rfl;have y1:wr.cell? ⟨w2.heap.size+1,1,none⟩=some (.int .i64 0):=(y00 N3.out 1).trans rfl;have y2:wr.cell? ⟨w2.heap.size+1,2,none⟩=some (.string closeT):=(y00 N3.out 2).trans rfl;have y3:wr.cell? ⟨w2.heap.size+1,3,none⟩=some (.slice A3 cl.length c3):=(y00 N3.out 3).trans rfl;have g0:wr.cell? ⟨w.heap.size+1,0,none⟩=some (.int .i64 0):=(y00 N1.out 0).trans rfl;have gf0:=y02 N1.out 0;have g1:wr.cell? ⟨w.heap.size+1,1,none⟩=some (.int .i64 0):=(y00 N1.out 1).trans rfl;have gf1:=y02 N1.out 1;have g2:wr.cell? ⟨w.heap.size+1,2,none⟩=some (.string ⟨#[]⟩):=(y00 N1.out 2).trans rfl;have gf2:=y02 N1.out 2;have g3:wr.cell? ⟨w.heap.size+1,3,none⟩=some (.slice none 0 0):=(y00 N1.out 3).trans rfl;have gf3:=y02 N1.out 3
    go_wp2_with fail
    refine (impl_entryIn.to A0 c0 l0 d c (⟨day,0,closeT,cl⟩:Ent) A3 c3 _ (Kd.C_below H0.out HB.out) HC3.out ⟨hd1,hd2⟩ ⟨hc1,hc2⟩ (show closeT.size≤maxLen from by decide)).mono ?_;rintro x w4 ⟨rfl,hb⟩;have M1:=Aside0.mk (y03 N1.out hb);have M3:=Aside0.mk (y03 N3.out hb);have RX:=Aside0.mk (Kd.R_below RC.out hb);have HBX:=Aside0.mk (below_into (w:=w) hb HB.out);have s4:=hb.size;clear hb y0 y1 y2 y3 g0 g1 g2 g3 gf0 gf1 gf2 gf3 f0 f1 f2 f7 N0 N1 N2 N3 RC HB HC3;have y0:w4.cell? ⟨w2.heap.size+1,0,none⟩=some (.int .i64 day):=(y00 M3.out 0).trans rfl;have y1:w4.cell? ⟨w2.heap.size+1,1,none⟩=some (.int .i64 0):=(y00 M3.out 1).trans rfl;have y2:w4.cell? ⟨w2.heap.size+1,2,none⟩=some (.string closeT):=(y00 M3.out 2).trans rfl;have y3:w4.cell? ⟨w2.heap.size+1,3,none⟩=some (.slice A3 cl.length c3):=(y00 M3.out 3).trans rfl;have g0:w4.cell? ⟨w.heap.size+1,0,none⟩=some (.int .i64 0):=(y00 M1.out 0).trans rfl;have gf0:=y02 M1.out 0;have g1:w4.cell? ⟨w.heap.size+1,1,none⟩=some (.int .i64 0):=(y00 M1.out 1).trans rfl;have gf1:=y02 M1.out 1;have g2:w4.cell? ⟨w.heap.size+1,2,none⟩=some (.string ⟨#[]⟩):=(y00 M1.out 2).trans rfl;have gf2:=y02 M1.out 2;have g3:w4.cell? ⟨w.heap.size+1,3,none⟩=some (.slice none 0 0):=(y00 M1.out 3).trans rfl;have gf3:=y02 M1.out 3;cases q3:entryB l0 d c (⟨day,0,closeT,cl⟩:Ent) with
    | false =>
     have HN:=Aside0.mk (HRES.out false q3);clear q3
     go_wp2_with fail
     rw [HN.out];refine bodyPost_ret (results_ct rfl _ _ (w.heap.size+1) 41 #[.int .i64 0,.int .i64 0,.string ⟨#[]⟩,.slice none 0 0] (0,0) _ rfl (by exact blk4 M1.out _ _ _ _) Tryz.underlying41 rfl (by kernel_rfl)) rfl ?_;exact ⟨.slice none 0 0,rfl,Kd.R_nil _ _ _ _ _,below_put4 HBX.out (by omega) _ _ _ _⟩
    | true =>
     have HN:=Aside0.mk (HRES.out true q3);clear q3
     go_wp2_with fail
     rw [HN.out];refine bodyPost_ret (results_ct rfl _ _ (w.heap.size+1) 41 #[.int .i64 day,.int .i64 0,.string closeT,.slice A3 cl.length c3] (0,0) _ rfl (by exact blk4 M1.out _ _ _ _) Tryz.underlying41 rfl (by kernel_rfl)) rfl ?_;exact ⟨.slice A3 cl.length c3,rfl,Kd.R_mono (R_put4 RX.out M1.out (by decide) _ _ _ _) (fun _ _=>trivial),below_put4 HBX.out (by omega) _ _ _ _⟩
   case pos =>
    obtain ⟨k1,rfl⟩:∃ k1,gk=k1+1:=⟨gk - 1,by omega⟩;have cc:decide ((n:Int) < d)=true:=decide_eq_true hlt;have hn20:n≤20:=by omega
    have s0:wr.cell? ⟨w2.heap.size,0,none⟩=some (.slice A0 l0.length c0):=(y00 N2.out 0).trans rfl;have s1:wr.cell? ⟨w2.heap.size,1,none⟩=some (.int .i64 d):=(y00 N2.out 1).trans rfl;have s2:wr.cell? ⟨w2.heap.size,2,none⟩=some (.int .i64 c):=(y00 N2.out 2).trans rfl;have hab:=below_alloc (Below.refl wr.heap.size wr) (.cells #[.int .i64 4,.int .i64 5] 3);have HG:=Aside0.mk (blk_new wr (.cells #[.int .i64 4,.int .i64 5] 3));have HBA:=Aside0.mk (below_into (w:=w) hab HB.out)
    go_wp2_with fail
    refine (impl_leaves.to A0 c0 l0 d c wr.heap.size _ (Kd.C_below H0.out HBA.out) (by omega) HG.out).mono ?_;rintro x w4 ⟨vl,rfl,hRL,hb⟩;rw [← HLS.out] at hRL;obtain ⟨AL,cL,hvl⟩:=Kd.R_slice hRL;subst hvl;have hb':=below_into (w:=wr) hb hab;have RL:=Aside0.mk (Kd.R_mono (Kd.R_bound hRL) (ok':=fun k=>wr.heap.size≤k) (fun k hk=>by have:=hk.2.1;simp at this;omega));have RL2:=Aside0.mk (Kd.R_lower RL.out (show w.heap.size≤_ from by have:=HBA.out.size;simpa using this));have M0:=Aside0.mk (y03 N0.out hb');have M1:=Aside0.mk (y03 N1.out hb');have M2:=Aside0.mk (y03 N2.out hb');have M3:=Aside0.mk (y03 N3.out hb');have RX:=Aside0.mk (Kd.R_below RR.out hb');have RXL:=Aside0.mk (Kd.R_lt RR.out);have HBX:=Aside0.mk (below_into (w:=w) hb' HB.out);have s4:=hb'.size;clear hab HG HBA hb hb' hRL RL f0 f1 f2 f7 s0 s1 s2 N0 N1 N2 N3 RR HB
    go_wp2_with fail
    go_loopg [9,10,35] ls.length (fun kj v9 v10 v35 wr=>∃ (jx:Nat) (v:Value),v35 = .int .i64 (jx:Int)∧jx≤ls.length∧kj+jx=ls.length∧v9 = .int .i64 (clS (clB l1 day n) ls jx)∧v10 = .bool (clA (clB l1 day n) ls jx)∧Aside0 (wr.heap[w.heap.size]?=some (.cells #[.slice A0 l0.length c0,.int .i64 d,.int .i64 c,.slice A1 l1.length c1,.int .i64 h,.slice A2 l2.length c2,.int .i64 a,.int .i64 b] 32 (0,0)))∧Aside0 (wr.heap[w.heap.size+1]?=some (.cells #[.int .i64 0,.int .i64 0,.string ⟨#[]⟩,.slice none 0 0] 41 (0,0)))∧Aside0 (wr.heap[w2.heap.size]?=some (.cells #[.slice A0 l0.length c0,.int .i64 d,.int .i64 c,.slice A1 l1.length c1,.int .i64 h,.slice A0 l0.length c0,.int .i64 d,.int .i64 c,.slice A1 l1.length c1,.int .i64 h,.slice A2 l2.length c2,.int .i64 a,.int .i64 b] 81 (0,0)))∧Aside0 (wr.heap[w2.heap.size+1]?=some (.cells #[.int .i64 day,.int .i64 0,.string closeT,v] 41 (0,0)))∧Aside0 (Kd.R k67 67 wr w.heap.size (fun k=>w2.heap.size+1 < k) v (allL b (clB l1 day) ls n++clU (clB l1 day n) n ls jx))∧Aside0 (Kd.R (Kd.int .i64) 3 wr w.heap.size (fun k=>w2.heap.size+1 < k) (.slice AL ls.length cL) ls)∧Aside0 (Below w.heap.size w wr))
    case atStart=>exact ⟨0,v,rfl,by omega,by omega,rfl,rfl,M0,M1,M2,M3,⟨by rw [show clU (clB l1 day n) n ls 0=[] from rfl,List.append_nil];exact RX.out⟩,⟨Kd.R_mono RL2.out (fun k hk=>by omega)⟩,HBX⟩
    case round =>
     clear M0 M1 M2 M3 RX RL2 HBX RXL s4 zb0 zb1 zb2 zb3;obtain ⟨jx,v,rfl,hjl,hkj,rfl,rfl,N0,N1,N2,N3,RX,RL,HB⟩:=hrel;have zb3:=blk_lt N3.out;have zb2:w2.heap.size < wr.heap.size:=by omega
     have zb1:w.heap.size+1 < wr.heap.size:=by omega
     have zb0:w.heap.size < wr.heap.size:=by omega
     have NBV:=Aside0.mk (show ∀ q,q≤w2.heap.size+1→some q≠v.ownBlock from fun q hq e=>by have:=RX.out.1 _ e.symm;omega);have hsb:=clS_b (fun i=>BB.out n i) ls jx hll;have hal:=allL_len b (clB l1 day) ls hll n;have hul:=clU_len (clB l1 day n) n ls jx;have HLEN:=Aside0.mk (show (allL b (clB l1 day) ls n++clU (clB l1 day n) n ls jx).length≤3000 from by rw [List.length_append];omega);clear hal hul;by_cases hj:jx < ls.length
     case neg =>
      obtain rfl:jx=ls.length:=by omega
      have cj:decide ((ls.length:Int) < (ls.length:Int))=false:=decide_eq_false (by omega);have f7:wr.cell? ⟨w.heap.size,7,none⟩=some (.int .i64 b):=(y00 N0.out 7).trans rfl;have u3:wr.cell? ⟨w2.heap.size+1,3,none⟩=some (v):=(y00 N3.out 3).trans rfl;cases hA:clA (clB l1 day n) ls ls.length with
      | false =>
       have HD:=Aside0.mk (show allL b (clB l1 day) ls n++clU (clB l1 day n) n ls ls.length=allL b (clB l1 day) ls (n+1) from by simp only [allL,dimL];rw [hA,if_neg (by simp),List.append_nil]);clear hA
       go_wp2_with fail
       go_roundg k1
       case rel=>exact ⟨n+1,v,by go_num,by omega,by omega,N0,N1,N2,N3,⟨by rw [← HD.out];exact RX.out⟩,HB⟩
       case measure=>omega
      | true =>
       have HD:=Aside0.mk (show (allL b (clB l1 day) ls n++clU (clB l1 day n) n ls ls.length)++[⟨b,n,0,clS (clB l1 day n) ls ls.length,clS (clB l1 day n) ls ls.length⟩]=allL b (clB l1 day) ls (n+1) from by simp only [allL,dimL];rw [hA,if_pos rfl,List.append_assoc]);clear hA;generalize clS (clB l1 day n) ls ls.length=sm at *;generalize hLL:allL b (clB l1 day) ls n++clU (clB l1 day n) n ls ls.length=LL at *;clear hLL
       go_wp2_with (((with_reducible refine gate_builtin (b:=.append) (xs:=#[.tmp 68,.tmp 75]) rfl ?_);at_builtin;refine Kd.R_append k67 (w0:=w) w.heap.size rfl (.tmp 68) (.tmp 75) 39 67 (.agg #[(.int .i64 0),(.int .i64 0),(.int .i64 0),(.int .i64 0),(.int .i64 0)]) 40 rfl Tryz.underlying39 info67 rfl (by decide) (by omega) v (LL) (⟨b,n,0,sm,sm⟩:S67) [.int .i64 b,.int .i64 n,.int .i64 0,.int .i64 sm,.int .i64 sm] (fun k=>w2.heap.size+1 < k) (fun _=>False) rfl rfl (k67_mkM _ _ _ (⟨b,n,0,sm,sm⟩:S67)) (fun _ hk=>hk.elim) (fun k hk=>by omega) RX.out HB.out HB.out.size (by have:=HLEN.out;omega) ?_;intro v7 wa ho hb hg hat;obtain ⟨B7,q7,hv7⟩:=Kd.R_slice ho;rw [List.length_append,List.length_singleton] at hv7;subst hv7;have P0:=Aside0.mk (blk_grown N0.out hg (NBV.out _ (by omega)));have P1:=Aside0.mk (blk_grown N1.out hg (NBV.out _ (by omega)));have P2:=Aside0.mk (blk_grown N2.out hg (NBV.out _ (by omega)));have P3:=Aside0.mk (blk_grown N3.out hg (NBV.out _ (by omega)));have PX:=Aside0.mk ho;have PL:=Aside0.mk (Kd.R_over' RL.out (Kd.R_typed RX.out) (by decide) hg);have PB:=Aside0.mk hb;have y3:=(y00 P3.out 3).trans (show _=some v from rfl);have yf3:=y02 P3.out 3;have w7l:=hg.size;clear ho hb hg hat NBV RX RL HB N0 N1 N2 N3 f7 u3))
       go_roundg k1
       case rel=>exact ⟨n+1,_,by go_num,by omega,by omega,⟨by exact blk_far P0.out (by simp <;> omega) _⟩,⟨by exact blk_far P1.out (by simp <;> omega) _⟩,⟨by exact blk_far P2.out (by simp <;> omega) _⟩,⟨by exact blk_put P3.out 3 _ rfl⟩,⟨by rw [← HD.out];exact Kd.R_mono (Kd.R_far (p:=⟨w2.heap.size+1,3,none⟩) (Kd.R_types PX.out P3.out (by decide)) (fun _ hk=>hk.2) _) (fun _ hk=>hk.1)⟩,⟨below_set PB.out (by omega)⟩⟩
       case measure=>omega
     case pos =>
      obtain ⟨k2,rfl⟩:∃ k2,gk=k2+1:=⟨gk - 1,by omega⟩;have cj:decide ((jx:Int) < (ls.length:Int))=true:=decide_eq_true (by omega);obtain ⟨gL,cL',hvL,_,_⟩:=Kd.R_form RL.out (by omega);injection hvL with hA1 _ hA2
      subst hA1 hA2;have hci:=Kd.foot_int (Kd.R_reads' RL.out).2.2 (jx:Int) (by omega) (by omega);rw [add_plain] at hci;simp only [Int.toNat_natCast] at hci;have hbx:=BB.out n (rd ls jx);have HC:=Aside0.mk (fun W hC=>impl_upTo.to A1 c1 l1 h (rd ls jx) n (-1) day W hC hln HFF.out);obtain ⟨bx,hbe⟩:∃ bx,bx=clB l1 day n (rd ls jx):=⟨_,rfl⟩;have hb2:basV (rd ls jx) n (-1) (-4611686018427387904) day l1=bx:=hbe.symm;rw [hb2] at HC;rw [← hbe] at hbx;have HBE:=Aside0.mk hbe;clear hbe hb2;generalize amtV (rd ls jx) n (-1) (-4611686018427387904) day l1=am at *;have ST:=Aside0.mk (clS_step (B:=clB l1 day n) hj);have HJ:=Aside0.mk hj;have HJL:=Aside0.mk hjl;have jj0:(0:Int)≤(jx:Int):=by omega
      have jj1:(jx:Int) < (ls.length:Int):=by omega
      have jj2:jx≤120:=by omega
      have s3:wr.cell? ⟨w2.heap.size,3,none⟩=some (.slice A1 l1.length c1):=(y00 N2.out 3).trans rfl;have s4:wr.cell? ⟨w2.heap.size,4,none⟩=some (.int .i64 h):=(y00 N2.out 4).trans rfl
      go_wp2_with fail
      refine (HC.out _ (Kd.C_below H1.out HB.out)).mono ?_;rintro x w6 ⟨rfl,hb⟩;replace N0:=Aside0.mk (y03 N0.out hb);replace N1:=Aside0.mk (y03 N1.out hb);replace N2:=Aside0.mk (y03 N2.out hb);replace N3:=Aside0.mk (y03 N3.out hb);replace RL:=Aside0.mk (Kd.R_below RL.out hb);replace RX:=Aside0.mk (Kd.R_below RX.out hb);replace HB:=Aside0.mk (below_into (w:=w) hb HB.out);have s6:=hb.size;clear hb hci s3 s4;by_cases hz:bx=0
      case pos =>
       have nb:(bx != 0)=false:=by rw [hz];rfl
       have E1:=Aside0.mk (clU_zero (B:=clB l1 day n) (d:=n) HJ.out (by rw [← HBE.out];exact hz));have E2:=Aside0.mk (clA_zero (B:=clB l1 day n) HJ.out (by rw [← HBE.out];exact hz));have E3:=Aside0.mk (show clS (clB l1 day n) ls (jx+1)=clS (clB l1 day n) ls jx from by rw [ST.out,← HBE.out,hz];omega);clear hz
       go_wp2_with fail
       go_roundg k2
       case rel=>exact ⟨jx+1,v,by go_num,by have:=HJ.out;omega,by omega,by rw [E3.out],by rw [E2.out],N0,N1,N2,N3,⟨by rw [E1.out];exact RX.out⟩,RL,HB⟩
       case measure=>omega
      case neg =>
       have nb:(bx != 0)=true:=by simpa using hz
       have E1:=Aside0.mk (clU_some (B:=clB l1 day n) (d:=n) HJ.out (by rw [← HBE.out];exact hz));have E2:=Aside0.mk (clA_some (B:=clB l1 day n) HJ.out (by rw [← HBE.out];exact hz));have E3:=Aside0.mk (show clS (clB l1 day n) ls (jx+1)=clS (clB l1 day n) ls jx+bx from by rw [ST.out,← HBE.out]);have E4:=Aside0.mk (show allL b (clB l1 day) ls n++clU (clB l1 day n) n ls (jx+1)=(allL b (clB l1 day) ls n++clU (clB l1 day n) n ls jx)++[⟨rd ls jx,n,0,-bx,-bx⟩] from by rw [E1.out,← HBE.out,List.append_assoc]);clear hz ST E1;generalize rd ls jx=at_ at *;generalize clS (clB l1 day n) ls jx=sm at *;generalize clA (clB l1 day n) ls jx=am_ at *;generalize hLL:allL b (clB l1 day) ls n++clU (clB l1 day n) n ls jx=LL at *;clear hLL;have u3:w6.cell? ⟨w2.heap.size+1,3,none⟩=some (v):=(y00 N3.out 3).trans rfl
       go_wp2_with (((with_reducible refine gate_builtin (b:=.append) (xs:=#[.tmp 51,.tmp 59]) rfl ?_);at_builtin;refine Kd.R_append k67 (w0:=w) w.heap.size rfl (.tmp 51) (.tmp 59) 39 67 (.agg #[(.int .i64 0),(.int .i64 0),(.int .i64 0),(.int .i64 0),(.int .i64 0)]) 40 rfl Tryz.underlying39 info67 rfl (by decide) (by omega) v (LL) (⟨at_,n,0,-bx,-bx⟩:S67) [.int .i64 at_,.int .i64 n,.int .i64 0,.int .i64 (-bx),.int .i64 (-bx)] (fun k=>w2.heap.size+1 < k) (fun _=>False) rfl rfl (k67_mkM _ _ _ (⟨at_,n,0,-bx,-bx⟩:S67)) (fun _ hk=>hk.elim) (fun k hk=>by omega) RX.out HB.out HB.out.size (by have:=HLEN.out;omega) ?_;intro v7 wa ho hb hg hat;obtain ⟨B7,q7,hv7⟩:=Kd.R_slice ho;rw [List.length_append,List.length_singleton] at hv7;subst hv7;have P0:=Aside0.mk (blk_grown N0.out hg (NBV.out _ (by omega)));have P1:=Aside0.mk (blk_grown N1.out hg (NBV.out _ (by omega)));have P2:=Aside0.mk (blk_grown N2.out hg (NBV.out _ (by omega)));have P3:=Aside0.mk (blk_grown N3.out hg (NBV.out _ (by omega)));have PX:=Aside0.mk ho;have PL:=Aside0.mk (Kd.R_over' RL.out (Kd.R_typed RX.out) (by decide) hg);have PB:=Aside0.mk hb;have y3:=(y00 P3.out 3).trans (show _=some v from rfl);have yf3:=y02 P3.out 3;have w7l:=hg.size;clear ho hb hg hat NBV RX RL HB N0 N1 N2 N3 u3))
       go_roundg k2
       case rel=>exact ⟨jx+1,_,by go_num,by have:=HJ.out;omega,by omega,by rw [E3.out],by rw [E2.out],⟨by exact blk_far P0.out (by simp <;> omega) _⟩,⟨by exact blk_far P1.out (by simp <;> omega) _⟩,⟨by exact blk_far P2.out (by simp <;> omega) _⟩,⟨by exact blk_put P3.out 3 _ rfl⟩,⟨by rw [E4.out];exact Kd.R_mono (Kd.R_far (p:=⟨w2.heap.size+1,3,none⟩) (Kd.R_types PX.out P3.out (by decide)) (fun _ hk=>hk.2) _) (fun _ hk=>hk.1)⟩,⟨Kd.R_mono (Kd.R_far (p:=⟨w2.heap.size+1,3,none⟩) (Kd.R_types PL.out P3.out (by decide)) (fun _ hk=>hk.2) _) (fun _ hk=>hk.1)⟩,⟨below_set PB.out (by omega)⟩⟩
       case measure=>omega
theorem impl_CloseYear.at (A0:Option Addr) (c0:Nat) (l0:List Acc) (d c:Int) (A1:Option Addr) (c1:Nat) (l1:List Ent) (h:Int) (A2:Option Addr) (c2:Nat) (l2:List Per) (a b day:Int) (re0 re1:Int) (re2:ByteArray) (r0:List Lin) (rk:Bool) (w:World) (hr0:Kd.C k48 w A0 l0.length l0) (hc0:l0.length≤c0) (hr1:Kd.C k41 w A1 l1.length l1) (hc1:l1.length≤c1) (hr2:Kd.C k63 w A2 l2.length l2) (hc2:l2.length≤c2) (hf:((∀ x∈l0,x.f0.size≤maxLen)∧(∀ e∈l1,e.f2.size≤maxLen))∧closeR l0 d c l1 h l2 a b day=(re0,re1,re2,r0,rk)) :
 Calls Tryz.prog 13 #[.agg #[.slice A0 l0.length c0,.int .i64 d,.int .i64 c,.slice A1 l1.length c1,.int .i64 h,.slice A2 l2.length c2,.int .i64 a,.int .i64 b],.int .i64 day] w fun e w'=>∃ v3:Value,e = .returned (.tuple #[.agg #[.int .i64 re0,.int .i64 re1,.string re2,v3],.bool rk])∧Kd.R k67 67 w' w.heap.size (fun _=>True) v3 r0∧Below w.heap.size w w':=by
 have:=impl_CloseYear.to A0 c0 l0 d c A1 c1 l1 h A2 c2 l2 a b day w hr0 hf.1.1 hr1 hf.1.2 hr2;rw [hf.2] at this;exact this
def fU (B:Int→Int) (d:Int) (ls:List Int):List Lin:=ls.flatMap (fun i=>if B i=0 then [] else [⟨i,d,0,-B i,-B i⟩])
theorem clU_full (B:Int→Int) (d:Int) (ls:List Int):clU B d ls ls.length=fU B d ls:=by unfold clU fU;rw [List.take_length]
theorem clS_full (B:Int→Int) (ls:List Int):clS B ls ls.length=(ls.map B).sum:=by unfold clS;rw [List.take_length]
theorem clA_full (B:Int→Int) (ls:List Int):clA B ls ls.length=ls.any (fun i=>decide (B i≠0)):=by unfold clA;rw [List.take_length]
theorem basV_fr {a d c fr fr' tt:Int} {es:List Ent} (h:∀ e∈es,fr≤e.f0∧fr'≤e.f0):basV a d c fr tt es=basV a d c fr' tt es:=by
 induction es with
 | nil=>rfl
 | cons e l ih =>
  have h1:=h e List.mem_cons_self;simp only [basV];rw [ih (fun x hx=>h x (List.mem_cons_of_mem _ hx))];have:inB e.f0 fr tt=inB e.f0 fr' tt:=by unfold inB;rw [decide_eq_true h1.1,decide_eq_true h1.2]
  rw [this]
theorem leavesUpto_yes {chart:List Acc} {n:Nat} (h:leafK chart n=true):leavesUpto chart (n+1)=leavesUpto chart n++[(n:Int)]:=by simp only [leavesUpto];rw [if_pos h]
theorem leavesUpto_no {chart:List Acc} {n:Nat} (h:¬ leafK chart n=true):leavesUpto chart (n+1)=leavesUpto chart n:=by simp only [leavesUpto];rw [if_neg h,List.append_nil]
theorem spec_CloseYear_l1 (m0:List Acc) (d c:Int) (m1:List Ent) (h:Int) (m2:List Per) (a b day dm:Int) (T:ByteArray) (base:List Lin) (h1:∀ x∈m0,x.f0.size≤maxLen) (hch:chartOk m0=true) (hcl:m0.length≤120) (hn:m1.length≤1000) (hf:∀ e∈m1,entFine e) (hd:∀ e∈m1,0≤e.f0) (hb:base.length≤100000) :
 ∀ (r n k:Nat),n+r=m0.length →
 spec_CloseYear.l1 (k+2 * r) day dm ((leavesUpto m0 n).map (clB m1 day dm)).sum ((leavesUpto m0 n).any (fun i=>decide (clB m1 day dm i≠0))) (n:Int) m0 d c m1 h m2 a b m0 d c day 0 T (base++fU (clB m1 day dm) dm (leavesUpto m0 n)) =
 spec_CloseYear.l1 k day dm ((leavesUpto m0 m0.length).map (clB m1 day dm)).sum ((leavesUpto m0 m0.length).any (fun i=>decide (clB m1 day dm i≠0))) (m0.length:Int) m0 d c m1 h m2 a b m0 d c day 0 T (base++fU (clB m1 day dm) dm (leavesUpto m0 m0.length)):=by
 intro r
 induction r with
 | zero =>
  intro n k hr;obtain rfl:n=m0.length:=by omega
  rfl
 | succ r ih =>
  intro n k hr
  have hl:spec_Leaf.f m0 (n:Int)=some (leafB m0 n):=by
   unfold spec_Leaf.f;rw [if_pos h1,hch,Bool.true_and]
  have hS:=clS_b (fun i=>clB_b hf hn day dm i) (leavesUpto m0 n) (leavesUpto m0 n).length (by have:=leavesUpto_len m0 n;omega);rw [clS_full] at hS;have hB:=clB_b hf hn day dm n
  have hul:(fU (clB m1 day dm) dm (leavesUpto m0 n)).length≤120:=by
   have:=clU_len (clB m1 day dm) dm (leavesUpto m0 n) (leavesUpto m0 n).length;have:=leavesUpto_len m0 n;rw [clU_full] at *;omega
  have hbal:spec_Balance.f m1 h n dm (-1) 0 day=some (amtV n dm (-1) 0 day m1,clB m1 day dm n):=by
   unfold spec_Balance.f clB;rw [if_pos ⟨hn,hf⟩,basV_fr (fr:=0) (fr':=-4611686018427387904) (fun e he=>⟨hd e he,by have:=hd e he;omega⟩)]
  have hw:wrap64 ((n:Int)+1)=((n+1:Nat):Int):=by rw [wrin (by omega) (by omega)];push_cast;rfl
  rw [show k+2 * (r+1)=(k+2 * r)+1+1 by omega];simp only [spec_CloseYear.l1];rw [if_pos (by omega),hl];simp only [Option.bind_some];by_cases hk:leafK m0 n=true
  ·have hk2:=hk;unfold leafK at hk2;simp only [Bool.and_eq_true,Bool.or_eq_true,decide_eq_true_eq] at hk2;rw [if_pos hk2.1,if_pos (by omega)]
   have hj:(if (rd_T48 m0 (n:Int)).f2=4 then spec_CloseYear.j2 (k+2 * r+1) day dm ((leavesUpto m0 n).map (clB m1 day dm)).sum ((leavesUpto m0 n).any (fun i=>decide (clB m1 day dm i≠0))) (n:Int) false m0 d c m1 h m2 a b m0 d c day 0 T (base++fU (clB m1 day dm) dm (leavesUpto m0 n)) else spec_CloseYear.j2 (k+2 * r+1) day dm ((leavesUpto m0 n).map (clB m1 day dm)).sum ((leavesUpto m0 n).any (fun i=>decide (clB m1 day dm i≠0))) (n:Int) ((rd_T48 m0 (n:Int)).f2 != 5) m0 d c m1 h m2 a b m0 d c day 0 T (base++fU (clB m1 day dm) dm (leavesUpto m0 n)))=spec_CloseYear.j2 (k+2 * r+1) day dm ((leavesUpto m0 n).map (clB m1 day dm)).sum ((leavesUpto m0 n).any (fun i=>decide (clB m1 day dm i≠0))) (n:Int) false m0 d c m1 h m2 a b m0 d c day 0 T (base++fU (clB m1 day dm) dm (leavesUpto m0 n)):=by
    by_cases h4:(rd_T48 m0 (n:Int)).f2=4
    ·rw [if_pos h4]
    ·rw [if_neg h4];have h5:(rd_T48 m0 (n:Int)).f2=5:=by rcases hk2.2 with q | q;(· exact absurd q h4);(· exact q)
     rw [h5];rfl
   rw [hj];simp only [spec_CloseYear.j2];rw [if_neg (by simp),hbal];simp only [Option.bind_some];rw [hw];by_cases hz:clB m1 day dm n=0
   ·rw [if_pos hz];have:=ih (n+1) k (by omega);rw [leavesUpto_yes hk] at this;simp only [List.map_append,List.sum_append,List.map_cons,List.map_nil,List.sum_cons,List.sum_nil,List.any_append,List.any_cons,List.any_nil,hz,Bool.or_false,Int.add_zero,ne_eq,not_true_eq_false,decide_false] at this;rw [← this]
    congr 2
    unfold fU;rw [List.flatMap_append];simp [hz]
   ·rw [if_neg hz,if_pos (by rw [List.length_append];omega)];rw [wrin (p:=((leavesUpto m0 n).map (clB m1 day dm)).sum+clB m1 day dm n) (by omega) (by omega),wrin (p:=-clB m1 day dm n) (by omega) (by omega)];have:=ih (n+1) k (by omega);rw [leavesUpto_yes hk] at this;simp only [List.map_append,List.sum_append,List.map_cons,List.map_nil,List.sum_cons,List.sum_nil,List.any_append,List.any_cons,List.any_nil,hz,Bool.or_false,Int.add_zero,ne_eq,not_false_eq_true,decide_true,Bool.or_true] at this;rw [← this]
    congr 1
    unfold fU;rw [List.flatMap_append,List.append_assoc];simp [hz]
  ·have:=ih (n+1) k (by omega);rw [leavesUpto_no hk] at this;rw [← this];by_cases hlf:leafB m0 n=true
   ·have h45:(rd_T48 m0 (n:Int)).f2≠4∧(rd_T48 m0 (n:Int)).f2≠5:=by
     refine ⟨fun q=>hk ?_,fun q=>hk ?_⟩ <;> (unfold leafK knd;rw [hlf,q];rfl)
    rw [if_pos hlf,if_pos (by omega),if_neg h45.1,show ((rd_T48 m0 (n:Int)).f2 != 5)=true by simpa using h45.2];simp only [spec_CloseYear.j2];rw [if_pos trivial,hw]
   ·rw [if_neg hlf];simp only [spec_CloseYear.j2];rw [if_pos trivial,hw]
theorem spec_CloseYear_l0 (m0:List Acc) (d c:Int) (m1:List Ent) (h:Int) (m2:List Per) (a b day:Int) (h1:∀ x∈m0,x.f0.size≤maxLen) (hfr:frameB m0 d c=true) (hn:m1.length≤1000) (hf:∀ e∈m1,entFine e) (hd:∀ e∈m1,0≤e.f0) :
 ∀ (r n k:Nat),(n:Int)+r=d →
 spec_CloseYear.l0 (k+1+(2 * m0.length+2) * r) day (n:Int) m0 d c m1 h m2 a b m0 d c day 0 closeT (allL b (clB m1 day) (leavesUpto m0 m0.length) n) =
 if entryB m0 d c ⟨day,0,closeT,closeL m0 d m1 b day⟩=true then some (day,0,closeT,closeL m0 d m1 b day,true) else some (0,0,⟨#[]⟩,[],false):=by
 obtain ⟨hcl,⟨hd1,hd2⟩,_⟩:=frame_len hfr;have hch:=(frame_parts hfr).1;intro r
 induction r with
 | zero =>
  intro n k hr;have hnd:n=d.toNat:=by omega
  have he:spec_EntryOk.f m0 d c day 0 closeT (closeL m0 d m1 b day)=some (entryB m0 d c ⟨day,0,closeT,closeL m0 d m1 b day⟩):=by
   unfold spec_EntryOk.f;rw [if_pos ⟨h1,by decide⟩,hfr,Bool.true_and]
  simp only [Nat.mul_zero,Nat.add_zero,spec_CloseYear.l0];rw [if_neg (by omega),show allL b (clB m1 day) (leavesUpto m0 m0.length) n=closeL m0 d m1 b day by unfold closeL;rw [hnd],he];rfl
 | succ r ih =>
  intro n k hr;have hlen:=allL_len b (clB m1 day) (leavesUpto m0 m0.length) (by have:=leavesUpto_len m0 m0.length;omega) n;have hul:=clU_len (clB m1 day n) n (leavesUpto m0 m0.length) (leavesUpto m0 m0.length).length;have hll:=leavesUpto_len m0 m0.length;have hl1:=spec_CloseYear_l1 m0 d c m1 h m2 a b day n closeT (allL b (clB m1 day) (leavesUpto m0 m0.length) n) h1 hch hcl hn hf hd (by omega) m0.length 0 (k+1+(2 * m0.length+2) * r+1) (by omega);have e0:leavesUpto m0 0=[]:=rfl;have hw:wrap64 ((n:Int)+1)=((n+1:Nat):Int):=by rw [wrin (by omega) (by omega)];push_cast;rfl
  rw [show k+1+(2 * m0.length+2) * (r+1)=((k+1+(2 * m0.length+2) * r+1)+2 * m0.length)+1 by rw [Nat.mul_succ];omega];simp only [spec_CloseYear.l0];rw [if_pos (by omega)];rw [e0] at hl1;simp only [List.map_nil,List.sum_nil,List.any_nil,fU,List.flatMap_nil,List.append_nil] at hl1;rw [show ((0:Nat):Int)=0 from rfl] at hl1;rw [hl1];simp only [spec_CloseYear.l1];rw [if_neg (by omega),hw];have hih:=ih (n+1) k (by push_cast;omega);rw [← hih];have hA:=clA_full (clB m1 day n) (leavesUpto m0 m0.length);have hS:=clS_full (clB m1 day n) (leavesUpto m0 m0.length);have hU:=clU_full (clB m1 day n) n (leavesUpto m0 m0.length);by_cases hq:(leavesUpto m0 m0.length).any (fun i=>decide (clB m1 day n i≠0))=true
  ·rw [if_pos hq,if_pos (by rw [List.length_append];unfold fU at hU;rw [hU] at hul;omega)]
   congr 1
   simp only [allL,dimL];rw [hA,hS,hU,if_pos hq,List.append_assoc];rfl
  ·rw [if_neg hq]
   congr 1
   simp only [allL,dimL];rw [hA,hS,hU,if_neg hq,List.append_nil];rfl
theorem spec_CloseYear_is (m0:List Acc) (d c:Int) (m1:List Ent) (h:Int) (m2:List Per) (a b day:Int) (h1:∀ x∈m0,x.f0.size≤maxLen) (h2:∀ e∈m1,e.f2.size≤maxLen) (k:Nat) (hk:10000≤k):spec_CloseYear.f k m0 d c m1 h m2 a b day=some (closeR m0 d c m1 h m2 a b day):=by
 unfold spec_CloseYear.f spec_BooksOk.f closeR;rw [if_pos ⟨h1,h2⟩];simp only [Option.bind_some];by_cases q1:booksB m0 d c m1 h m2 a b=true
 ·have hq:=booksB_true.1 q1;obtain ⟨hln,_,hfine,_,hdays⟩:=ledger_fine (ledgerB_true.2 hq.1);obtain ⟨hcl,⟨hd1,hd2⟩,_⟩:=frame_len hq.1.1;have hm:(2 * m0.length+2) * d.toNat≤242 * 20:=Nat.mul_le_mul (by omega) (by omega);have hl:=spec_CloseYear_l0 m0 d c m1 h m2 a b day h1 hq.1.1 hln hfine (fun e he=>(hdays e he).1) d.toNat 0 (k - 1 - (2 * m0.length+2) * d.toNat) (by omega);rw [show k - 1 - (2 * m0.length+2) * d.toNat+1+(2 * m0.length+2) * d.toNat=k by omega] at hl;rw [if_pos q1];refine Eq.trans hl ?_;by_cases q2:entryB m0 d c ⟨day,0,closeT,closeL m0 d m1 b day⟩=true
  ·rw [if_pos q2,if_pos ⟨q1,q2⟩]
  ·rw [if_neg q2,if_neg (fun q=>q2 q.2)]
 ·rw [if_neg q1,if_neg (fun q=>q1 q.1)]
theorem closeR_len {m0:List Acc} {d c:Int} {m1:List Ent} {h:Int} {m2:List Per} {a b day:Int} {x y:Int} {s:ByteArray} {l:List Lin} {t:Bool} (q:closeR m0 d c m1 h m2 a b day=(x,y,s,l,t)):l.length≤1048576:=by
 unfold closeR at q
 split at q
 ·rename_i hc
  have:=(entryB_true.1 hc.2).2.2.2.1.2;simp only [Prod.mk.injEq] at q;rw [← q.2.2.2.1];have h2:(closeL m0 d m1 b day).length≤60:=this;omega
 ·simp only [Prod.mk.injEq] at q;rw [← q.2.2.2.1];simp
end Go.Proofs.YtnknanppoenigaaGreatDoor.Q
