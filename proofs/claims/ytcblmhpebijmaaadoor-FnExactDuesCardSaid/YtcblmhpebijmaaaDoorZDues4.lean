/- Parts of the proof: what functions of the program and of the reference answer.
   No condition. -/
import Derived.Test.YtcblmhpebijmaaaDoorZDues1
namespace Go.Proofs.YtcblmhpebijmaaaDoor.Q
open Go.RowKit Go.Proofs.YtcblmhpebijmaaaDoorW.PrintWords Go.Proofs.YtcblmhpebijmaaaDoorW.PrintLast Go.Proofs.YtcblmhpebijmaaaDoorW.PrintMore
attribute [local go_sem] max2_int min2_int max_two min_two max_three min_three max_four min_four
set_option linter.unusedVariables false
set_option linter.unusedSimpArgs false
noncomputable def laws_toPayPart.f (a0_0:Int) (a0_1:Int) (a0_2:Bool) (a0_3:Int):Option (Int × Int × Bool × Int):=some (a0_0,a0_1,a0_2,a0_3)
set_option maxHeartbeats 8000000 in
set_option maxRecDepth 100000 in
theorem laws_toPayPart.calls (a0_0:Int) (a0_1:Int) (a0_2:Bool) (a0_3:Int) (r1:Int) (r2:Int) (r3:Bool) (r4:Int) (w:World) (h:laws_toPayPart.f a0_0 a0_1 a0_2 a0_3=some (r1,r2,r3,r4)) :
 Calls Tryd.prog 23 #[.agg #[.int .i64 a0_0,.int .i64 a0_1,.bool a0_2,.int .i64 a0_3]] w fun e w'=>e = .returned (.agg #[.int .i64 r1,.int .i64 r2,.bool r3,.int .i64 r4])∧Below w.heap.size w w':=by
 have hu52:=Tryd.underlying52;have hu43:=Tryd.underlying43;have HB:=Aside0.mk (Below.refl w.heap.size w);have H:(some (a0_0,a0_1,a0_2,a0_3))=some (r1,r2,r3,r4):=h;clear h;simp only [Option.some.injEq,Prod.mk.injEq] at H;obtain ⟨rfl,rfl,rfl,rfl⟩:=H
 go_enter Tryd.func23,Tryd.ntmps23
 go_wp2_with (first | ((with_reducible refine gate_dst (N:=1) rfl ?_);refine box_event ?hg (N:=1) ?hd (cs:=#[.int .i64 a0_0,.int .i64 a0_1,.bool a0_2,.int .i64 a0_3]) (t:=52) ?hr ?_;(case hd=>rfl);(case hg=>rfl);(case hr=>first | (go_simp;done) | (go_simp;rfl));intro gb24001 hg w2 hbox hb;have n0_:=Aside0.mk (below_step (by repeat (first | (with_reducible first | exact HB.out | apply y02 | apply y00 | apply y01) | exact HB.out)) hb);have n1_:=Aside0.mk (hbox);have n2_:=Aside0.mk ((by rw [hg];exact (below_size (by repeat (first | (with_reducible first | exact HB.out | apply y02 | apply y00 | apply y01) | exact HB.out))):w.heap.size≤gb24001));have n3_:=Aside0.mk ((by rw [hg];exact (below_size (by repeat (first | (with_reducible first | exact HB.out | apply y02 | apply y00 | apply y01) | exact HB.out))):w.heap.size≤gb24001));clear HB;have HB:=n0_;have BK24001:=n1_;have GW24001:=n2_;have GE24001:=n3_;clear n0_ n1_ n2_ n3_;clear hb hbox hg) | ((with_reducible refine gate_dst (N:=2) rfl ?_);refine box_event ?hg (N:=2) ?hd (cs:=#[.int .i64 0,.int .i64 0,.bool false,.int .i64 0]) (t:=43) ?hr ?_;(case hd=>rfl);(case hg=>rfl);(case hr=>first | (go_simp;done) | (go_simp;rfl));intro gb24002 hg w3 hbox hb;have n0_:=Aside0.mk (blk_below (g:=gb24001) (o:=.cells #[.int .i64 a0_0,.int .i64 a0_1,.bool a0_2,.int .i64 a0_3] 52 (0,0)) (by (with_reducible repeat (first | refine y06 ?_ _ | refine blk_drew ?_ | refine y05 ?_ _));exact BK24001.out) hb);have n1_:=Aside0.mk (below_step (by repeat (first | (with_reducible first | exact HB.out | apply y02 | apply y00 | apply y01 | refine y03 ?_ GE24001.out) | exact HB.out)) hb);have n2_:=Aside0.mk (hbox);have n3_:=Aside0.mk ((by rw [hg];exact (below_size (by repeat (first | (with_reducible first | exact HB.out | apply y02 | apply y00 | apply y01 | refine y03 ?_ GE24001.out) | exact HB.out))):w.heap.size≤gb24002));have n4_:=Aside0.mk ((by rw [hg];exact (below_size (by repeat (first | (with_reducible first | exact HB.out | apply y02 | apply y00 | apply y01 | refine y03 ?_ GE24001.out) | exact HB.out))):w.heap.size≤gb24002));have n5_:=Aside0.mk ((by rw [hg];exact Nat.ne_of_lt (blk_lt (g:=gb24001) (o:=.cells #[.int .i64 a0_0,.int .i64 a0_1,.bool a0_2,.int .i64 a0_3] 52 (0,0)) (by (with_reducible repeat (first | refine y06 ?_ _ | refine blk_drew ?_ | refine y05 ?_ _));exact BK24001.out)):gb24001≠gb24002));have n6_:=Aside0.mk ((by rw [hg];exact Nat.ne_of_gt (blk_lt (g:=gb24001) (o:=.cells #[.int .i64 a0_0,.int .i64 a0_1,.bool a0_2,.int .i64 a0_3] 52 (0,0)) (by (with_reducible repeat (first | refine y06 ?_ _ | refine blk_drew ?_ | refine y05 ?_ _));exact BK24001.out)):gb24002≠gb24001));clear BK24001;clear HB;have BK24001:=n0_;have HB:=n1_;have BK24002:=n2_;have GW24002:=n3_;have GE24002:=n4_;have NB24001_24002:=n5_;have NB24002_24001:=n6_;clear n0_ n1_ n2_ n3_ n4_ n5_ n6_;clear hb hbox hg) | ((with_reducible refine gate_dst (N:=3) rfl ?_);refine box_event ?hg (N:=3) ?hd (cs:=#[.int .i64 0,.int .i64 0,.bool false,.int .i64 0]) (t:=43) ?hr ?_;(case hd=>rfl);(case hg=>rfl);(case hr=>first | (go_simp;done) | (go_simp;rfl));intro gb24003 hg w4 hbox hb;have n0_:=Aside0.mk (blk_below (g:=gb24001) (o:=.cells #[.int .i64 a0_0,.int .i64 a0_1,.bool a0_2,.int .i64 a0_3] 52 (0,0)) (by (with_reducible repeat (first | refine y06 ?_ _ | refine blk_drew ?_ | refine y05 ?_ _));exact BK24001.out) hb);have n1_:=Aside0.mk (blk_below (g:=gb24002) (o:=.cells #[.int .i64 0,.int .i64 0,.bool false,.int .i64 0] 43 (0,0)) (by (with_reducible repeat (first | refine y06 ?_ _ | refine blk_drew ?_ | refine y05 ?_ _));exact BK24002.out) hb);have n2_:=Aside0.mk (below_step (by repeat (first | (with_reducible first | exact HB.out | apply y02 | apply y00 | apply y01 | refine y03 ?_ GE24001.out | refine y03 ?_ GE24002.out) | exact HB.out)) hb);have n3_:=Aside0.mk (hbox);have n4_:=Aside0.mk ((by rw [hg];exact (below_size (by repeat (first | (with_reducible first | exact HB.out | apply y02 | apply y00 | apply y01 | refine y03 ?_ GE24001.out | refine y03 ?_ GE24002.out) | exact HB.out))):w.heap.size≤gb24003));have n5_:=Aside0.mk ((by rw [hg];exact (below_size (by repeat (first | (with_reducible first | exact HB.out | apply y02 | apply y00 | apply y01 | refine y03 ?_ GE24001.out | refine y03 ?_ GE24002.out) | exact HB.out))):w.heap.size≤gb24003));have n6_:=Aside0.mk ((by rw [hg];exact Nat.ne_of_lt (blk_lt (g:=gb24001) (o:=.cells #[.int .i64 a0_0,.int .i64 a0_1,.bool a0_2,.int .i64 a0_3] 52 (0,0)) (by (with_reducible repeat (first | refine y06 ?_ _ | refine blk_drew ?_ | refine y05 ?_ _));exact BK24001.out)):gb24001≠gb24003));have n7_:=Aside0.mk ((by rw [hg];exact Nat.ne_of_gt (blk_lt (g:=gb24001) (o:=.cells #[.int .i64 a0_0,.int .i64 a0_1,.bool a0_2,.int .i64 a0_3] 52 (0,0)) (by (with_reducible repeat (first | refine y06 ?_ _ | refine blk_drew ?_ | refine y05 ?_ _));exact BK24001.out)):gb24003≠gb24001));have n8_:=Aside0.mk ((by rw [hg];exact Nat.ne_of_lt (blk_lt (g:=gb24002) (o:=.cells #[.int .i64 0,.int .i64 0,.bool false,.int .i64 0] 43 (0,0)) (by (with_reducible repeat (first | refine y06 ?_ _ | refine blk_drew ?_ | refine y05 ?_ _));exact BK24002.out)):gb24002≠gb24003));have n9_:=Aside0.mk ((by rw [hg];exact Nat.ne_of_gt (blk_lt (g:=gb24002) (o:=.cells #[.int .i64 0,.int .i64 0,.bool false,.int .i64 0] 43 (0,0)) (by (with_reducible repeat (first | refine y06 ?_ _ | refine blk_drew ?_ | refine y05 ?_ _));exact BK24002.out)):gb24003≠gb24002));clear BK24001;clear BK24002;clear HB;have BK24001:=n0_;have BK24002:=n1_;have HB:=n2_;have BK24003:=n3_;have GW24003:=n4_;have GE24003:=n5_;have NB24001_24003:=n6_;have NB24003_24001:=n7_;have NB24002_24003:=n8_;have NB24003_24002:=n9_;clear n0_ n1_ n2_ n3_ n4_ n5_ n6_ n7_ n8_ n9_;clear hb hbox hg;have hnb5:=NB24001_24002.out;have hnc5:=NB24002_24001.out;have hnb6:=NB24001_24003.out;have hnc6:=NB24003_24001.out;have hcz7_0:w4.cell? ⟨gb24001,0,none⟩=some (.int .i64 a0_0):=(blk_cell BK24001.out 0).trans rfl;have hcz7_1:w4.cell? ⟨gb24001,1,none⟩=some (.int .i64 a0_1):=(blk_cell BK24001.out 1).trans rfl;have hcz7_2:w4.cell? ⟨gb24001,2,none⟩=some (.bool a0_2):=(blk_cell BK24001.out 2).trans rfl;have hcz7_3:w4.cell? ⟨gb24001,3,none⟩=some (.int .i64 a0_3):=(blk_cell BK24001.out 3).trans rfl;have hfz7_0:=y04 BK24001.out 0;have hfz7_1:=y04 BK24001.out 1;have hfz7_2:=y04 BK24001.out 2;have hfz7_3:=y04 BK24001.out 3;have hnb8:=NB24003_24002.out;have hnc8:=NB24002_24003.out;have hcz9_0:w4.cell? ⟨gb24003,0,none⟩=some (.int .i64 0):=(blk_cell BK24003.out 0).trans rfl;have hcz9_1:w4.cell? ⟨gb24003,1,none⟩=some (.int .i64 0):=(blk_cell BK24003.out 1).trans rfl;have hcz9_2:w4.cell? ⟨gb24003,2,none⟩=some (.bool false):=(blk_cell BK24003.out 2).trans rfl;have hcz9_3:w4.cell? ⟨gb24003,3,none⟩=some (.int .i64 0):=(blk_cell BK24003.out 3).trans rfl;have hfz9_0:=y04 BK24003.out 0;have hfz9_1:=y04 BK24003.out 1;have hfz9_2:=y04 BK24003.out 2;have hfz9_3:=y04 BK24003.out 3;have hcz10_0:w4.cell? ⟨gb24002,0,none⟩=some (.int .i64 0):=(blk_cell BK24002.out 0).trans rfl;have hcz10_1:w4.cell? ⟨gb24002,1,none⟩=some (.int .i64 0):=(blk_cell BK24002.out 1).trans rfl;have hcz10_2:w4.cell? ⟨gb24002,2,none⟩=some (.bool false):=(blk_cell BK24002.out 2).trans rfl;have hcz10_3:w4.cell? ⟨gb24002,3,none⟩=some (.int .i64 0):=(blk_cell BK24002.out 3).trans rfl;have hfz10_0:=y04 BK24002.out 0;have hfz10_1:=y04 BK24002.out 1;have hfz10_2:=y04 BK24002.out 2;have hfz10_3:=y04 BK24002.out 3))
 refine bodyPost_ret (results_cell_row rfl _ _ gb24002 43 #[.int .i64 a0_0,.int .i64 a0_1,.bool a0_2,.int .i64 a0_3] (0,0) _ rfl (by (with_reducible repeat (first | refine y06 ?_ _ | refine blk_drew ?_ | refine y05 ?_ _));refine blk_put (cs:=#[.int .i64 a0_0,.int .i64 a0_1,.bool a0_2,.int .i64 0]) ?_ 3 _ rfl;(with_reducible repeat (first | refine y06 ?_ _ | refine blk_drew ?_ | refine y05 ?_ _));refine blk_put (cs:=#[.int .i64 a0_0,.int .i64 a0_1,.bool false,.int .i64 0]) ?_ 2 _ rfl;(with_reducible repeat (first | refine y06 ?_ _ | refine blk_drew ?_ | refine y05 ?_ _));refine blk_put (cs:=#[.int .i64 a0_0,.int .i64 0,.bool false,.int .i64 0]) ?_ 1 _ rfl;(with_reducible repeat (first | refine y06 ?_ _ | refine blk_drew ?_ | refine y05 ?_ _));refine blk_put (cs:=#[.int .i64 0,.int .i64 0,.bool false,.int .i64 0]) ?_ 0 _ rfl;(with_reducible repeat (first | refine y06 ?_ _ | refine blk_drew ?_ | refine y05 ?_ _));refine blk_far ?_ NB24002_24003.out _;(with_reducible repeat (first | refine y06 ?_ _ | refine blk_drew ?_ | refine y05 ?_ _));refine blk_far ?_ NB24002_24003.out _;(with_reducible repeat (first | refine y06 ?_ _ | refine blk_drew ?_ | refine y05 ?_ _));refine blk_far ?_ NB24002_24003.out _;(with_reducible repeat (first | refine y06 ?_ _ | refine blk_drew ?_ | refine y05 ?_ _));refine blk_far ?_ NB24002_24003.out _;(with_reducible repeat (first | refine y06 ?_ _ | refine blk_drew ?_ | refine y05 ?_ _));exact BK24002.out) Tryd.underlying43 rfl (by kernel_rfl)) rfl ?_;exact ⟨by first | rfl | (simp [errW_none,errW_some] <;> rfl) | (simp [*,errW_none,errW_some] <;> rfl),by repeat (first | (with_reducible first | exact HB.out | apply y02 | apply y00 | apply y01 | refine y03 ?_ GE24001.out | refine y03 ?_ GE24002.out | refine y03 ?_ GE24003.out) | exact HB.out)⟩
def wf52 (x:S52):Prop:=(Lit.int .i64 x.f0).wf=true∧(Lit.int .i64 x.f1).wf=true∧True∧(Lit.int .i64 x.f3).wf=true
set_option maxHeartbeats 4000000 in
set_option maxRecDepth 100000 in
theorem laws_szPayPartS.calls (A0:Option Addr) (c0:Nat) (l0:List (S52)) (a1:Int) (w:World) (hr0:Kd.C k52 w A0 l0.length l0) (h0:0≤a1) (h1:a1≤1048576) (hw:∀ y∈l0,wf52 y) :
 Calls Tryd.prog 4 #[.slice A0 l0.length c0,.int .i64 a1] w (SzPost w a1 (l0.length≤1048576)):=by
 have hl:=hr0.2.1;have H0:=Aside0.mk hr0;have HW:=Aside0.mk hw;clear hr0 hw;by_cases hn:a1 - (l0.length:Int) < 0
 ·go_enter Tryd.func4,Tryd.ntmps4
  go_wp2_with fail
  go_ret
  exact ⟨-1,rfl,by omega,by omega,fun h=>absurd h (by omega),Below.refl _ _⟩
 ·go_enter Tryd.func4,Tryd.ntmps4
  go_wp2_with fail
  go_ret
  exact ⟨_,rfl,by omega,by omega,fun _=>by omega,Below.refl _ _⟩
noncomputable def laws_eqIntS.l0:Nat→List Int→List Int→Int→Option (Bool)
 | 0,_,_,_=>none
 | k+1,x0,x1,x5=>if x5 < (x0.length:Int) then (if 0≤x5 then (if x5 < (x1.length:Int) then (if (rd x0 x5)=(rd x1 x5) then (laws_eqIntS.l0 k x0 x1 (wrap64 (x5+1))) else (some false)) else (none)) else (none)) else (some true)
noncomputable def laws_eqIntS.f (k:Nat) (l0:List Int) (l1:List Int):Option (Bool):=if (l0.length:Int)=(l1.length:Int) then (laws_eqIntS.l0 k l0 l1 0) else (some false)
set_option maxHeartbeats 8000000 in
set_option maxRecDepth 100000 in
theorem laws_eqIntS.calls (k:Nat) (A0:Option Addr) (c0:Nat) (l0:List Int) (A1:Option Addr) (c1:Nat) (l1:List Int) (r:Bool) (w:World) (hr0:Kd.C (Kd.int .i64) w A0 l0.length l0) (hc0:l0.length≤c0) (hr1:Kd.C (Kd.int .i64) w A1 l1.length l1) (hc1:l1.length≤c1) (h:laws_eqIntS.f k l0 l1=some r) :
 Calls Tryd.prog 33 #[.slice A0 l0.length c0,.slice A1 l1.length c1] w fun e w'=>e = .returned (.bool r)∧Drawn0 w w':=by
 have HR0:=Aside0.mk hr0;have HC0:=Aside0.mk hc0;clear hr0 hc0;have HR1:=Aside0.mk hr1;have HC1:=Aside0.mk hc1;clear hr1 hc1;have H:(if (l0.length:Int)=(l1.length:Int) then (laws_eqIntS.l0 k l0 l1 0) else (some false))=some r:=h;clear h;by_cases c3:(l0.length:Int)=(l1.length:Int)
 ·rw [if_pos c3] at H;have c3b0:((l0.length:Int) == (l1.length:Int))=true:=beq_iff_eq.mpr c3;have c3b1:((l0.length:Int) != (l1.length:Int))=false:=bne_eq_false_iff_eq.mpr c3;have c3b2:(l0.length == l1.length)=true:=by first | simpa using c3 | (simp at c3 ⊢;omega)
  clear c3;have H':=Aside0.mk H;clear H
  go_enter Tryd.func33,Tryd.ntmps33
  go_wp2
  repeat (go_quiet (fail);try go_wp2)
  go_loopg [5] k (fun kq v5 w'=>∃ (x5_1:Int),v5 = .int .i64 x5_1∧Aside0 (laws_eqIntS.l0 kq l0 l1 x5_1=some r)∧Aside0 (kq≤k)∧Drawn0 w w')
  case atStart=>exact ⟨(0),(by first | rfl | (simp;done) | (simp [*];done)),H',⟨Nat.le_refl _⟩,by repeat (first | exact Drawn0.refl _ | apply Drawn0.step)⟩
  case round =>
   clear H';(try clear c1);(try clear p2);(try clear c3);(try clear c3b0);(try clear c3b1);(try clear c3b2);obtain ⟨x5_1,rfl,HA,HK1,⟨m1,rfl⟩⟩:=hrel;cases gk with
   | zero=>exact absurd HA.out (by simp [laws_eqIntS.l0])
   | succ k1 =>
    have H:=HA.out;clear HA;simp only [laws_eqIntS.l0] at H;by_cases c4:x5_1 < (l0.length:Int)
    ·rw [if_pos c4] at H;have c4b0:decide (x5_1 < (l0.length:Int))=true:=decide_eq_true c4;clear c4;by_cases c5:0≤x5_1
     ·rw [if_pos c5] at H;have c5b0:decide (0≤x5_1)=true:=decide_eq_true c5;clear c5;by_cases c6:x5_1 < (l1.length:Int)
      ·rw [if_pos c6] at H;have c6b0:decide (x5_1 < (l1.length:Int))=true:=decide_eq_true c6;clear c6;by_cases c7:(rd l0 x5_1)=(rd l1 x5_1)
       ·rw [if_pos c7] at H;have c7b0:((rd l0 x5_1) == (rd l1 x5_1))=true:=beq_iff_eq.mpr c7;have c7b1:((rd l0 x5_1) != (rd l1 x5_1))=false:=bne_eq_false_iff_eq.mpr c7;clear c7;have H':=Aside0.mk H;clear H;have p34001:0≤(x5_1:Int):=of_decide_eq_true (by first | (with_reducible assumption) | assumption);have q34001:x5_1 < (l0.length:Int):=of_decide_eq_true (by first | (with_reducible assumption) | assumption);obtain ⟨ad34001,e34001,hx34001_0⟩:=Kd.at_int HR0.out x5_1 p34001 q34001;cases e34001;replace p34001:=eq_true p34001;replace q34001:=eq_true q34001;have p34002:0≤(x5_1:Int):=of_decide_eq_true (by first | (with_reducible assumption) | assumption);have q34002:x5_1 < (l1.length:Int):=of_decide_eq_true (by first | (with_reducible assumption) | assumption);obtain ⟨ad34002,e34002,hx34002_0⟩:=Kd.at_int HR1.out x5_1 p34002 q34002;cases e34002;replace p34002:=eq_true p34002;replace q34002:=eq_true q34002
        go_wp2
        repeat (go_quiet (fail);try go_wp2)
        go_roundg k1
        case measure=>have:=HK1.out;omega
        case rel=>exact ⟨(wrap64 (x5_1+1)),(by first | rfl | (simp;done) | (simp [*];done)),H',⟨by have:=HK1.out;omega⟩,by repeat (first | exact Drawn0.refl _ | apply Drawn0.step)⟩
       ·rw [if_neg c7] at H;have c7b0:((rd l0 x5_1) == (rd l1 x5_1))=false:=beq_eq_false_iff_ne.mpr c7;have c7b1:((rd l0 x5_1) != (rd l1 x5_1))=true:=bne_iff_ne.mpr c7;obtain rfl:=Option.some.inj H;have p34001:0≤(x5_1:Int):=of_decide_eq_true (by first | (with_reducible assumption) | assumption);have q34001:x5_1 < (l0.length:Int):=of_decide_eq_true (by first | (with_reducible assumption) | assumption);obtain ⟨ad34001,e34001,hx34001_0⟩:=Kd.at_int HR0.out x5_1 p34001 q34001;cases e34001;replace p34001:=eq_true p34001;replace q34001:=eq_true q34001;have p34002:0≤(x5_1:Int):=of_decide_eq_true (by first | (with_reducible assumption) | assumption);have q34002:x5_1 < (l1.length:Int):=of_decide_eq_true (by first | (with_reducible assumption) | assumption);obtain ⟨ad34002,e34002,hx34002_0⟩:=Kd.at_int HR1.out x5_1 p34002 q34002;cases e34002;replace p34002:=eq_true p34002;replace q34002:=eq_true q34002
        go_wp2
        repeat (go_quiet (fail);try go_wp2)
        go_ret
        exact ⟨by first | rfl | (simp;done) | (simp [*];done),by repeat (first | exact Drawn0.refl _ | apply Drawn0.step)⟩
      ·rw [if_neg c6] at H;exact absurd H (by simp)
     ·rw [if_neg c5] at H;exact absurd H (by simp)
    ·rw [if_neg c4] at H;have c4b0:decide (x5_1 < (l0.length:Int))=false:=decide_eq_false c4;clear c4;obtain rfl:=Option.some.inj H
     go_wp2
     repeat (go_quiet (fail);try go_wp2)
     go_ret
     exact ⟨by first | rfl | (simp;done) | (simp [*];done),by repeat (first | exact Drawn0.refl _ | apply Drawn0.step)⟩
 ·rw [if_neg c3] at H;have c3b0:((l0.length:Int) == (l1.length:Int))=false:=beq_eq_false_iff_ne.mpr c3;have c3b1:((l0.length:Int) != (l1.length:Int))=true:=bne_iff_ne.mpr c3;have c3b2:(l0.length == l1.length)=false:=by first | simpa using c3 | (simp at c3 ⊢;omega)
  obtain rfl:=Option.some.inj H
  go_enter Tryd.func33,Tryd.ntmps33
  go_wp2
  repeat (go_quiet (fail);try go_wp2)
  go_ret
  exact ⟨by first | rfl | (simp;done) | (simp [*];done),by repeat (first | exact Drawn0.refl _ | apply Drawn0.step)⟩
set_option maxHeartbeats 4000000 in
set_option maxRecDepth 100000 in
theorem laws_szIntS.calls (A0:Option Addr) (c0:Nat) (l0:List Int) (a1:Int) (w:World) (hr0:Kd.C (Kd.int .i64) w A0 l0.length l0) (h0:0≤a1) (h1:a1≤1048576) (hw:∀ y∈l0,(Lit.int .i64 y).wf=true) :
 Calls Tryd.prog 17 #[.slice A0 l0.length c0,.int .i64 a1] w (SzPost w a1 (l0.length≤1048576)):=by
 have hl:=hr0.2.1;have H0:=Aside0.mk hr0;have HW:=Aside0.mk hw;clear hr0 hw;by_cases hn:a1 - (l0.length:Int) < 0
 ·go_enter Tryd.func17,Tryd.ntmps17
  go_wp2_with fail
  go_ret
  exact ⟨-1,rfl,by omega,by omega,fun h=>absurd h (by omega),Below.refl _ _⟩
 ·go_enter Tryd.func17,Tryd.ntmps17
  go_wp2_with fail
  go_ret
  exact ⟨_,rfl,by omega,by omega,fun _=>by omega,Below.refl _ _⟩
end Go.Proofs.YtcblmhpebijmaaaDoor.Q
namespace Go.Proofs.YtcblmhpebijmaaaDoor.Q
open Go.RowKit Go.Proofs.YtcblmhpebijmaaaDoorW.PrintWords Go.Proofs.YtcblmhpebijmaaaDoorW.PrintLast Go.Proofs.YtcblmhpebijmaaaDoorW.PrintMore
set_option linter.unusedVariables false
set_option linter.unusedSimpArgs false
theorem wr1 {a:Int} (h0:0≤a) (h1:a≤4611686018427387904):wrap64 (a+1)=a+1:=by unfold wrap64;omega
end Go.Proofs.YtcblmhpebijmaaaDoor.Q
namespace Go.Proofs.YtcblmhpebijmaaaDoor.Q
open Go.RowKit Go.Proofs.YtcblmhpebijmaaaDoorW.PrintWords Go.Proofs.YtcblmhpebijmaaaDoorW.PrintLast Go.Proofs.YtcblmhpebijmaaaDoorW.PrintMore
attribute [local go_sem] max2_int min2_int max_two min_two max_three min_three max_four min_four
set_option linter.unusedVariables false
set_option linter.unusedSimpArgs false
noncomputable def spec_l1In.f (a0 a1 a2:Int):Option Bool:=some (inB a0 a1 a2)
set_option maxRecDepth 100000 in
theorem spec_l1In.to (a b c:Int) (w:World):Calls Tryd.prog 19 #[.int .i64 a,.int .i64 b,.int .i64 c] w fun e w'=>e = .returned (.bool (inB a b c))∧w'=w:=by
 go_enter Tryd.func19,Tryd.ntmps19
 go_wp2
 all_goals
  go_ret
  refine ⟨ret_bool ?_,rfl⟩;unfold inB;rw [Bool.eq_iff_iff];simp
  try omega
theorem spec_l1In.calls (a0 a1 a2:Int) (r:Bool) (w:World) (h:spec_l1In.f a0 a1 a2=some r) :
 Calls Tryd.prog 19 #[.int .i64 a0,.int .i64 a1,.int .i64 a2] w fun e w'=>e = .returned (.bool r)∧Drawn0 w w':=by
 obtain rfl:=Option.some.inj h;exact (spec_l1In.to a0 a1 a2 w).mono fun e w' ⟨he,hw⟩=>⟨he,hw ▸ Drawn0.refl _⟩
noncomputable def spec_l2Leap.f (a0:Int):Option (Bool):=if (Int.tmod a0 4)=0 then (if (Int.tmod a0 100)=0 then (some ((Int.tmod a0 400) == 0)) else (some true)) else (some ((Int.tmod a0 400) == 0))
set_option maxHeartbeats 8000000 in
set_option maxRecDepth 100000 in
theorem spec_l2Leap.calls (a0:Int) (r:Bool) (w:World) (h:spec_l2Leap.f a0=some r) :
 Calls Tryd.prog 54 #[.int .i64 a0] w fun e w'=>e = .returned (.bool r)∧Drawn0 w w':=by
 have H:(if (Int.tmod a0 4)=0 then (if (Int.tmod a0 100)=0 then (some ((Int.tmod a0 400) == 0)) else (some true)) else (some ((Int.tmod a0 400) == 0)))=some r:=h;clear h;by_cases c2:(Int.tmod a0 4)=0
 ·rw [if_pos c2] at H;have c2b0:((Int.tmod a0 4) == 0)=true:=beq_iff_eq.mpr c2;have c2b1:((Int.tmod a0 4) != 0)=false:=bne_eq_false_iff_eq.mpr c2;clear c2;by_cases c3:(Int.tmod a0 100)=0
  ·rw [if_pos c3] at H;have c3b0:((Int.tmod a0 100) == 0)=true:=beq_iff_eq.mpr c3;have c3b1:((Int.tmod a0 100) != 0)=false:=bne_eq_false_iff_eq.mpr c3;clear c3;obtain rfl:=Option.some.inj H
   go_enter Tryd.func54,Tryd.ntmps54
   go_wp2
   go_ret
   exact ⟨by first | rfl | (simp;done) | (simp [*];done),by repeat (first | exact Drawn0.refl _ | apply Drawn0.step)⟩
  ·rw [if_neg c3] at H;have c3b0:((Int.tmod a0 100) == 0)=false:=beq_eq_false_iff_ne.mpr c3;have c3b1:((Int.tmod a0 100) != 0)=true:=bne_iff_ne.mpr c3;obtain rfl:=Option.some.inj H
   go_enter Tryd.func54,Tryd.ntmps54
   go_wp2
   go_ret
   exact ⟨by first | rfl | (simp;done) | (simp [*];done),by repeat (first | exact Drawn0.refl _ | apply Drawn0.step)⟩
 ·rw [if_neg c2] at H;have c2b0:((Int.tmod a0 4) == 0)=false:=beq_eq_false_iff_ne.mpr c2;have c2b1:((Int.tmod a0 4) != 0)=true:=bne_iff_ne.mpr c2;obtain rfl:=Option.some.inj H
  go_enter Tryd.func54,Tryd.ntmps54
  go_wp2
  go_ret
  exact ⟨by first | rfl | (simp;done) | (simp [*];done),by repeat (first | exact Drawn0.refl _ | apply Drawn0.step)⟩
noncomputable def impl_longYear.f (a0:Int):Option (Bool):=if (Int.tmod a0 4)=0 then (if (Int.tmod a0 100)=0 then (some ((Int.tmod a0 400) == 0)) else (some true)) else (some ((Int.tmod a0 400) == 0))
set_option maxHeartbeats 8000000 in
set_option maxRecDepth 100000 in
theorem impl_longYear.calls (a0:Int) (r:Bool) (w:World) (h:impl_longYear.f a0=some r) :
 Calls Tryd.prog 56 #[.int .i64 a0] w fun e w'=>e = .returned (.bool r)∧Drawn0 w w':=by
 have H:(if (Int.tmod a0 4)=0 then (if (Int.tmod a0 100)=0 then (some ((Int.tmod a0 400) == 0)) else (some true)) else (some ((Int.tmod a0 400) == 0)))=some r:=h;clear h;by_cases c2:(Int.tmod a0 4)=0
 ·rw [if_pos c2] at H;have c2b0:((Int.tmod a0 4) == 0)=true:=beq_iff_eq.mpr c2;have c2b1:((Int.tmod a0 4) != 0)=false:=bne_eq_false_iff_eq.mpr c2;clear c2;by_cases c3:(Int.tmod a0 100)=0
  ·rw [if_pos c3] at H;have c3b0:((Int.tmod a0 100) == 0)=true:=beq_iff_eq.mpr c3;have c3b1:((Int.tmod a0 100) != 0)=false:=bne_eq_false_iff_eq.mpr c3;clear c3;obtain rfl:=Option.some.inj H
   go_enter Tryd.func56,Tryd.ntmps56
   go_wp2
   go_ret
   exact ⟨by first | rfl | (simp;done) | (simp [*];done),by repeat (first | exact Drawn0.refl _ | apply Drawn0.step)⟩
  ·rw [if_neg c3] at H;have c3b0:((Int.tmod a0 100) == 0)=false:=beq_eq_false_iff_ne.mpr c3;have c3b1:((Int.tmod a0 100) != 0)=true:=bne_iff_ne.mpr c3;obtain rfl:=Option.some.inj H
   go_enter Tryd.func56,Tryd.ntmps56
   go_wp2
   go_ret
   exact ⟨by first | rfl | (simp;done) | (simp [*];done),by repeat (first | exact Drawn0.refl _ | apply Drawn0.step)⟩
 ·rw [if_neg c2] at H;have c2b0:((Int.tmod a0 4) == 0)=false:=beq_eq_false_iff_ne.mpr c2;have c2b1:((Int.tmod a0 4) != 0)=true:=bne_iff_ne.mpr c2;obtain rfl:=Option.some.inj H
  go_enter Tryd.func56,Tryd.ntmps56
  go_wp2
  go_ret
  exact ⟨by first | rfl | (simp;done) | (simp [*];done),by repeat (first | exact Drawn0.refl _ | apply Drawn0.step)⟩
noncomputable def spec_l1Abs.f (a0:Int):Option (Int):=if a0 < 0 then (some (wrap64 (-a0))) else (some a0)
set_option maxHeartbeats 8000000 in
set_option maxRecDepth 100000 in
theorem spec_l1Abs.calls (a0:Int) (r:Int) (w:World) (h:spec_l1Abs.f a0=some r) :
 Calls Tryd.prog 37 #[.int .i64 a0] w fun e w'=>e = .returned (.int .i64 r)∧Drawn0 w w':=by
 have H:(if a0 < 0 then (some (wrap64 (-a0))) else (some a0))=some r:=h;clear h;by_cases c2:a0 < 0
 ·rw [if_pos c2] at H;have c2b0:decide (a0 < 0)=true:=decide_eq_true c2;clear c2;obtain rfl:=Option.some.inj H
  go_enter Tryd.func37,Tryd.ntmps37
  go_wp2
  go_ret
  exact ⟨by first | rfl | (simp;done) | (simp [*];done),by repeat (first | exact Drawn0.refl _ | apply Drawn0.step)⟩
 ·rw [if_neg c2] at H;have c2b0:decide (a0 < 0)=false:=decide_eq_false c2;clear c2;obtain rfl:=Option.some.inj H
  go_enter Tryd.func37,Tryd.ntmps37
  go_wp2
  go_ret
  exact ⟨by first | rfl | (simp;done) | (simp [*];done),by repeat (first | exact Drawn0.refl _ | apply Drawn0.step)⟩
end Go.Proofs.YtcblmhpebijmaaaDoor.Q
namespace Go.Proofs.YtcblmhpebijmaaaDoor.Q
open Go.RowKit Go.Proofs.YtcblmhpebijmaaaDoorW.PrintWords Go.Proofs.YtcblmhpebijmaaaDoorW.PrintLast Go.Proofs.YtcblmhpebijmaaaDoorW.PrintMore
set_option linter.unusedVariables false
set_option linter.unusedSimpArgs false
set_option maxHeartbeats 4000000 in
set_option maxRecDepth 100000 in
theorem laws_eqPayPart.calls (a0_0:Int) (a0_1:Int) (a0_2:Bool) (a0_3:Int) (a1_0:Int) (a1_1:Int) (a1_2:Bool) (a1_3:Int) (w:World) :
 Calls Tryd.prog 32 #[.agg #[.int .i64 a0_0,.int .i64 a0_1,.bool a0_2,.int .i64 a0_3],.agg #[.int .i64 a1_0,.int .i64 a1_1,.bool a1_2,.int .i64 a1_3]] w fun e w'=>e = .returned (.bool (same ((⟨a0_0,a0_1,a0_2,a0_3⟩:S43):S43) ((⟨a1_0,a1_1,a1_2,a1_3⟩:S43):S43)))∧Below w.heap.size w w':=by
 by_cases h0:a0_0=a1_0
 ·have hb0:(a0_0 != a1_0)=false:=by rw [h0];simp
  by_cases h1:a0_1=a1_1
  ·have hb1:(a0_1 != a1_1)=false:=by rw [h1];simp
   cases a0_2 <;> cases a1_2
   ·by_cases h3:a0_3=a1_3
    ·have hb3:(a0_3 != a1_3)=false:=by rw [h3];simp
     rw [← same_true (show (⟨a0_0,a0_1,false,a0_3⟩:S43)=⟨a1_0,a1_1,false,a1_3⟩ by rw [h0,h1,h3])];clear h0 h1 h3
     go_enter Tryd.func32,Tryd.ntmps32
     go_wp2
     go_ret
     exact ⟨rfl,below_two _ _ _⟩
    ·have hb3:(a0_3 != a1_3)=true:=by simpa using h3
     rw [← same_false (show (⟨a0_0,a0_1,false,a0_3⟩:S43)=⟨a1_0,a1_1,false,a1_3⟩→False from fun q=>h3 (congrArg (fun x:S43=>x.f3) q))];clear h0 h1 h3
     go_enter Tryd.func32,Tryd.ntmps32
     go_wp2
     go_ret
     exact ⟨rfl,below_two _ _ _⟩
   ·rw [← same_false (show (⟨a0_0,a0_1,false,a0_3⟩:S43)=⟨a1_0,a1_1,true,a1_3⟩→False from fun q=>by cases congrArg (fun x:S43=>x.f2) q)];clear h0 h1
    go_enter Tryd.func32,Tryd.ntmps32
    go_wp2
    go_ret
    exact ⟨rfl,below_two _ _ _⟩
   ·rw [← same_false (show (⟨a0_0,a0_1,true,a0_3⟩:S43)=⟨a1_0,a1_1,false,a1_3⟩→False from fun q=>by cases congrArg (fun x:S43=>x.f2) q)];clear h0 h1
    go_enter Tryd.func32,Tryd.ntmps32
    go_wp2
    go_ret
    exact ⟨rfl,below_two _ _ _⟩
   ·by_cases h3:a0_3=a1_3
    ·have hb3:(a0_3 != a1_3)=false:=by rw [h3];simp
     rw [← same_true (show (⟨a0_0,a0_1,true,a0_3⟩:S43)=⟨a1_0,a1_1,true,a1_3⟩ by rw [h0,h1,h3])];clear h0 h1 h3
     go_enter Tryd.func32,Tryd.ntmps32
     go_wp2
     go_ret
     exact ⟨rfl,below_two _ _ _⟩
    ·have hb3:(a0_3 != a1_3)=true:=by simpa using h3
     rw [← same_false (show (⟨a0_0,a0_1,true,a0_3⟩:S43)=⟨a1_0,a1_1,true,a1_3⟩→False from fun q=>h3 (congrArg (fun x:S43=>x.f3) q))];clear h0 h1 h3
     go_enter Tryd.func32,Tryd.ntmps32
     go_wp2
     go_ret
     exact ⟨rfl,below_two _ _ _⟩
  ·have hb1:(a0_1 != a1_1)=true:=by simpa using h1
   rw [← same_false (show (⟨a0_0,a0_1,a0_2,a0_3⟩:S43)=⟨a1_0,a1_1,a1_2,a1_3⟩→False from fun q=>h1 (congrArg (fun x:S43=>x.f1) q))];clear h0 h1
   go_enter Tryd.func32,Tryd.ntmps32
   go_wp2
   go_ret
   exact ⟨rfl,below_two _ _ _⟩
 ·have hb0:(a0_0 != a1_0)=true:=by simpa using h0
  rw [← same_false (show (⟨a0_0,a0_1,a0_2,a0_3⟩:S43)=⟨a1_0,a1_1,a1_2,a1_3⟩→False from fun q=>h0 (congrArg (fun x:S43=>x.f0) q))];clear h0
  go_enter Tryd.func32,Tryd.ntmps32
  go_wp2
  go_ret
  exact ⟨rfl,below_two _ _ _⟩
def Iv (a b:Nat) (k:Nat):Prop:=a≤k∧k < b
section
variable {α:Type} {d:Kd α} {e a b a' b' base n:Nat} {w w1 W W':World} {v:Value} {l l':List α}
theorem R_iv (h:d.R e w1 w.heap.size (fun _=>True) v l):d.R e w1 w.heap.size (Iv w.heap.size w1.heap.size) v l:=Kd.R_mono (Kd.R_bound h) (fun _ hk=>⟨hk.2.1,hk.2.2.1⟩)
theorem R_iv_kept (h:d.R e W base (Iv a b) v l) (hk:Kept W W' (Iv a' b')) (hd:b≤a'∨b'≤a):d.R e W' base (Iv a b) v l:=Kd.R_kept h hk (fun k hk1 hk2=>by have:=hk1.1;have:=hk1.2;have:=hk2.1;have:=hk2.2;omega)
theorem cell_iv_kept {p:Addr} {u:Value} (hc:W.cell? p=some u) (hk:Kept W W' (Iv a b)) (hd:p.block < a∨b≤p.block):W'.cell? p=some u:=cell_kept hc hk (fun h=>by have:=h.1;have:=h.2;omega)
theorem R_iv_mark (hE:d.E=[]) (h:d.R e W base (Iv a b) v l) (h':d.R e W' base (fun k=>Iv a b k∨n≤k) v l'):d.R e W' base (Iv a b) v l':=Kd.R_mono (Kd.R_tight hE h') (fun k hk=>h.1 k hk.symm)
end
def kBig:Nat:=3000000
theorem kBig_le:3000000≤kBig:=Nat.le_refl _
end Go.Proofs.YtcblmhpebijmaaaDoor.Q
