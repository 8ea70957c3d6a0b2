/- Parts of the proof: what functions of the program and of the reference answer.
   No condition. -/
import Derived.Test.YtcblmhpebijmaaaDoorZDues1
import Derived.Test.YtcblmhpebijmaaaDoorZDues4
import Derived.Test.YtcblmhpebijmaaaDoorZDues6
namespace Go.Proofs.YtcblmhpebijmaaaDoor.Q
open Go.RowKit Go.Proofs.YtcblmhpebijmaaaDoorW.PrintWords Go.Proofs.YtcblmhpebijmaaaDoorW.PrintLast Go.Proofs.YtcblmhpebijmaaaDoorW.PrintMore
attribute [local go_sem] max2_int min2_int max_two min_two max_three min_three max_four min_four
set_option linter.unusedVariables false
set_option linter.unusedSimpArgs false
mutual
noncomputable def spec_DayOf.j0:Nat→Bool→Int→Int→Int→Option (Int)
 | 0,_,_,_,_=>none
 | k+1,x26,x42002000,x42002001,x42002002=>if x26=true then (some (-1)) else (spec_DayOf.l0 k (wrap64 (x42002002 - 1)) 2000 x42002000 x42002001 x42002002)
noncomputable def spec_DayOf.l0:Nat→Int→Int→Int→Int→Int→Option (Int)
 | 0,_,_,_,_,_=>none
 | k+1,x3,x4,x42002000,x42002001,x42002002=>if x4 < x42002000 then ((spec_l2Leap.f x4).bind fun t42006=>(if t42006=true then (spec_DayOf.l0 k (wrap64 ((wrap64 (x3+365))+1)) (wrap64 (x4+1)) x42002000 x42002001 x42002002) else (spec_DayOf.l0 k (wrap64 (x3+365)) (wrap64 (x4+1)) x42002000 x42002001 x42002002))) else (spec_DayOf.l1 k x3 1 x42002000 x42002001 x42002002)
noncomputable def spec_DayOf.l1:Nat→Int→Int→Int→Int→Int→Option (Int)
 | 0,_,_,_,_,_=>none
 | k+1,x3,x5,x42002000,x42002001,x42002002=>if x5 < x42002001 then ((spec_l2Long.f x42002000 x5).bind fun t42007=>(spec_DayOf.l1 k (wrap64 (x3+t42007)) (wrap64 (x5+1)) x42002000 x42002001 x42002002)) else ((spec_l2Day.f x3).bind fun t42008=>(if t42008=true then (some x3) else (some (-1))))
end
noncomputable def spec_DayOf.f (k:Nat) (a0_0:Int) (a0_1:Int) (a0_2:Int):Option (Int):=(spec_l1In.f a0_0 2000 2200).bind fun t42002=>(if t42002=true then ((spec_l1In.f a0_1 1 12).bind fun t42003=>(if t42003=true then ((spec_l2Long.f a0_0 a0_1).bind fun t42004=>((spec_l1In.f a0_2 1 t42004).bind fun t42005=>(spec_DayOf.j0 k (!t42005) a0_0 a0_1 a0_2))) else (spec_DayOf.j0 k true a0_0 a0_1 a0_2))) else (spec_DayOf.j0 k true a0_0 a0_1 a0_2))
theorem spec_DayOf.mono_l:∀ k,(∀ y0 y1 y2 y3,LeO (spec_DayOf.j0 k y0 y1 y2 y3) (spec_DayOf.j0 (k+1) y0 y1 y2 y3))∧(∀ y0 y1 y2 y3 y4,LeO (spec_DayOf.l0 k y0 y1 y2 y3 y4) (spec_DayOf.l0 (k+1) y0 y1 y2 y3 y4))∧(∀ y0 y1 y2 y3 y4,LeO (spec_DayOf.l1 k y0 y1 y2 y3 y4) (spec_DayOf.l1 (k+1) y0 y1 y2 y3 y4))
 | 0=>⟨fun _ _ _ _ r h=>by simp [spec_DayOf.j0] at h,fun _ _ _ _ _ r h=>by simp [spec_DayOf.l0] at h,fun _ _ _ _ _ r h=>by simp [spec_DayOf.l1] at h⟩
 | k+1=>by
  obtain ⟨ih0,ih1,ih2⟩:=spec_DayOf.mono_l k;refine ⟨?_,?_,?_⟩
  ·intro y0 y1 y2 y3;unfold spec_DayOf.j0
   repeat' first
   | (with_reducible exact ih0 _ _ _ _)
   | (with_reducible exact ih1 _ _ _ _ _)
   | (with_reducible exact ih2 _ _ _ _ _)
   | (with_reducible exact LeO.refl _)
   | (with_reducible exact LeO.none _)
   | (with_reducible refine LeO.ite ?_ ?_)
   | (with_reducible refine LeO.bind ?_ (fun _=>?_))
   | exact ih0 _ _ _ _
   | exact ih1 _ _ _ _ _
   | exact ih2 _ _ _ _ _
   | exact LeO.none _
   | refine LeO.ite ?_ ?_
   | refine LeO.bind ?_ (fun _=>?_)
  ·intro y0 y1 y2 y3 y4;unfold spec_DayOf.l0
   repeat' first
   | (with_reducible exact ih0 _ _ _ _)
   | (with_reducible exact ih1 _ _ _ _ _)
   | (with_reducible exact ih2 _ _ _ _ _)
   | (with_reducible exact LeO.refl _)
   | (with_reducible exact LeO.none _)
   | (with_reducible refine LeO.ite ?_ ?_)
   | (with_reducible refine LeO.bind ?_ (fun _=>?_))
   | exact ih0 _ _ _ _
   | exact ih1 _ _ _ _ _
   | exact ih2 _ _ _ _ _
   | exact LeO.none _
   | refine LeO.ite ?_ ?_
   | refine LeO.bind ?_ (fun _=>?_)
  ·intro y0 y1 y2 y3 y4;unfold spec_DayOf.l1
   repeat' first
   | (with_reducible exact ih0 _ _ _ _)
   | (with_reducible exact ih1 _ _ _ _ _)
   | (with_reducible exact ih2 _ _ _ _ _)
   | (with_reducible exact LeO.refl _)
   | (with_reducible exact LeO.none _)
   | (with_reducible refine LeO.ite ?_ ?_)
   | (with_reducible refine LeO.bind ?_ (fun _=>?_))
   | exact ih0 _ _ _ _
   | exact ih1 _ _ _ _ _
   | exact ih2 _ _ _ _ _
   | exact LeO.none _
   | refine LeO.ite ?_ ?_
   | refine LeO.bind ?_ (fun _=>?_)
theorem spec_DayOf.mono:∀ a0 a1 a2 k,LeO (spec_DayOf.f k a0 a1 a2) (spec_DayOf.f (k+1) a0 a1 a2):=by
 intro a0 a1 a2 k;obtain ⟨ih0,ih1,ih2⟩:=spec_DayOf.mono_l k;unfold spec_DayOf.f
 repeat' first
  | (with_reducible exact ih0 _ _ _ _)
  | (with_reducible exact ih1 _ _ _ _ _)
  | (with_reducible exact ih2 _ _ _ _ _)
  | (with_reducible exact LeO.refl _)
  | (with_reducible exact LeO.none _)
  | (with_reducible refine LeO.ite ?_ ?_)
  | (with_reducible refine LeO.bind ?_ (fun _=>?_))
  | exact ih0 _ _ _ _
  | exact ih1 _ _ _ _ _
  | exact ih2 _ _ _ _ _
  | exact LeO.none _
  | refine LeO.ite ?_ ?_
  | refine LeO.bind ?_ (fun _=>?_)
set_option maxHeartbeats 8000000 in
set_option maxRecDepth 100000 in
theorem spec_DayOf.calls (k:Nat) (a0_0:Int) (a0_1:Int) (a0_2:Int) (r:Int) (w:World) (h:spec_DayOf.f k a0_0 a0_1 a0_2=some r) :
 Calls Tryd.prog 41 #[.agg #[.int .i64 a0_0,.int .i64 a0_1,.int .i64 a0_2]] w fun e w'=>e = .returned (.int .i64 r)∧Below w.heap.size w w':=by
 have hu59:=Tryd.underlying59;have HB:=Aside0.mk (Below.refl w.heap.size w);have H:((spec_l1In.f a0_0 2000 2200).bind fun t42002=>(if t42002=true then ((spec_l1In.f a0_1 1 12).bind fun t42003=>(if t42003=true then ((spec_l2Long.f a0_0 a0_1).bind fun t42004=>((spec_l1In.f a0_2 1 t42004).bind fun t42005=>(spec_DayOf.j0 k (!t42005) a0_0 a0_1 a0_2))) else (spec_DayOf.j0 k true a0_0 a0_1 a0_2))) else (spec_DayOf.j0 k true a0_0 a0_1 a0_2)))=some r:=h;clear h;have HC2:=Aside0.mk H;clear H
 go_enter Tryd.func41,Tryd.ntmps41
 go_upto_region 1 with (first | ((with_reducible refine gate_dst (N:=1) rfl ?_);refine box_event ?hg (N:=1) ?hd (cs:=#[.int .i64 a0_0,.int .i64 a0_1,.int .i64 a0_2]) (t:=59) ?hr ?_;(case hd=>rfl);(case hg=>rfl);(case hr=>first | (go_simp;done) | (go_simp;rfl));intro gb42001 hg w3 hbox hb;have n0_:=Aside0.mk (below_step (by repeat (first | (with_reducible first | exact HB.out | apply y02 | apply y00 | apply y01) | exact HB.out)) hb);have n1_:=Aside0.mk (hbox);have n2_:=Aside0.mk ((by rw [hg];exact (below_size (by repeat (first | (with_reducible first | exact HB.out | apply y02 | apply y00 | apply y01) | exact HB.out))):w.heap.size≤gb42001));have n3_:=Aside0.mk ((by rw [hg];exact (below_size (by repeat (first | (with_reducible first | exact HB.out | apply y02 | apply y00 | apply y01) | exact HB.out))):w.heap.size≤gb42001));clear HB;have HB:=n0_;have BK42001:=n1_;have GW42001:=n2_;have GE42001:=n3_;clear n0_ n1_ n2_ n3_;clear hb hbox hg))
 repeat (go_quiet (first | ((with_reducible refine gate_dst (N:=1) rfl ?_);refine box_event ?hg (N:=1) ?hd (cs:=#[.int .i64 a0_0,.int .i64 a0_1,.int .i64 a0_2]) (t:=59) ?hr ?_;(case hd=>rfl);(case hg=>rfl);(case hr=>first | (go_simp;done) | (go_simp;rfl));intro gb42001 hg w3 hbox hb;have n0_:=Aside0.mk (below_step (by repeat (first | (with_reducible first | exact HB.out | apply y02 | apply y00 | apply y01) | exact HB.out)) hb);have n1_:=Aside0.mk (hbox);have n2_:=Aside0.mk ((by rw [hg];exact (below_size (by repeat (first | (with_reducible first | exact HB.out | apply y02 | apply y00 | apply y01) | exact HB.out))):w.heap.size≤gb42001));have n3_:=Aside0.mk ((by rw [hg];exact (below_size (by repeat (first | (with_reducible first | exact HB.out | apply y02 | apply y00 | apply y01) | exact HB.out))):w.heap.size≤gb42001));clear HB;have HB:=n0_;have BK42001:=n1_;have GW42001:=n2_;have GE42001:=n3_;clear n0_ n1_ n2_ n3_;clear hb hbox hg));go_upto_region 1 with (first | ((with_reducible refine gate_dst (N:=1) rfl ?_);refine box_event ?hg (N:=1) ?hd (cs:=#[.int .i64 a0_0,.int .i64 a0_1,.int .i64 a0_2]) (t:=59) ?hr ?_;(case hd=>rfl);(case hg=>rfl);(case hr=>first | (go_simp;done) | (go_simp;rfl));intro gb42001 hg w3 hbox hb;have n0_:=Aside0.mk (below_step (by repeat (first | (with_reducible first | exact HB.out | apply y02 | apply y00 | apply y01) | exact HB.out)) hb);have n1_:=Aside0.mk (hbox);have n2_:=Aside0.mk ((by rw [hg];exact (below_size (by repeat (first | (with_reducible first | exact HB.out | apply y02 | apply y00 | apply y01) | exact HB.out))):w.heap.size≤gb42001));have n3_:=Aside0.mk ((by rw [hg];exact (below_size (by repeat (first | (with_reducible first | exact HB.out | apply y02 | apply y00 | apply y01) | exact HB.out))):w.heap.size≤gb42001));clear HB;have HB:=n0_;have BK42001:=n1_;have GW42001:=n2_;have GE42001:=n3_;clear n0_ n1_ n2_ n3_;clear hb hbox hg)))
 (try simp only [Act.put,List.setIfInBounds_toArray,List.set_cons_zero,List.set_cons_succ])
 go_cut [26] (fun v26 wc=>∃ (kq:Nat) (x26_1:Bool),v26 = .bool x26_1∧Aside0 (spec_DayOf.j0 kq x26_1 a0_0 a0_1 a0_2=some r)∧Aside0 (kq≤k)∧Aside0 (wc.heap[gb42001]?=some (.cells #[.int .i64 a0_0,.int .i64 a0_1,.int .i64 a0_2] 59 (0,0)))∧Aside0 (Below w.heap.size w wc))
 case first =>
  have H:=HC2.out;clear HC2;replace H:=Option.bind_eq_some_iff.mp H;obtain ⟨t42002,A40,H⟩:=H;replace H:(if t42002=true then ((spec_l1In.f a0_1 1 12).bind fun t42003=>(if t42003=true then ((spec_l2Long.f a0_0 a0_1).bind fun t42004=>((spec_l1In.f a0_2 1 t42004).bind fun t42005=>(spec_DayOf.j0 k (!t42005) a0_0 a0_1 a0_2))) else (spec_DayOf.j0 k true a0_0 a0_1 a0_2))) else (spec_DayOf.j0 k true a0_0 a0_1 a0_2))=some r:=H;have A4:=Aside0.mk A40;clear A40;by_cases c5:t42002=true
  ·subst c5;have H1:((spec_l1In.f a0_1 1 12).bind fun t42003=>(if t42003=true then ((spec_l2Long.f a0_0 a0_1).bind fun t42004=>((spec_l1In.f a0_2 1 t42004).bind fun t42005=>(spec_DayOf.j0 k (!t42005) a0_0 a0_1 a0_2))) else (spec_DayOf.j0 k true a0_0 a0_1 a0_2)))=some r:=by rw [if_pos rfl] at H;exact H
   clear H;have H:=H1;clear H1;replace H:=Option.bind_eq_some_iff.mp H;obtain ⟨t42003,A60,H⟩:=H;replace H:(if t42003=true then ((spec_l2Long.f a0_0 a0_1).bind fun t42004=>((spec_l1In.f a0_2 1 t42004).bind fun t42005=>(spec_DayOf.j0 k (!t42005) a0_0 a0_1 a0_2))) else (spec_DayOf.j0 k true a0_0 a0_1 a0_2))=some r:=H;have A6:=Aside0.mk A60;clear A60;by_cases c7:t42003=true
   ·subst c7;have H1:((spec_l2Long.f a0_0 a0_1).bind fun t42004=>((spec_l1In.f a0_2 1 t42004).bind fun t42005=>(spec_DayOf.j0 k (!t42005) a0_0 a0_1 a0_2)))=some r:=by rw [if_pos rfl] at H;exact H
    clear H;have H:=H1;clear H1;replace H:=Option.bind_eq_some_iff.mp H;obtain ⟨t42004,A80,H⟩:=H;replace H:((spec_l1In.f a0_2 1 t42004).bind fun t42005=>(spec_DayOf.j0 k (!t42005) a0_0 a0_1 a0_2))=some r:=H;have A8:=Aside0.mk A80;clear A80;replace H:=Option.bind_eq_some_iff.mp H;obtain ⟨t42005,A90,H⟩:=H;replace H:(spec_DayOf.j0 k (!t42005) a0_0 a0_1 a0_2)=some r:=H;have A9:=Aside0.mk A90;clear A90;have H':=Aside0.mk H;clear H;have hcz10_0:w3.cell? ⟨gb42001,0,none⟩=some (.int .i64 a0_0):=(blk_cell BK42001.out 0).trans rfl;have hcz10_1:w3.cell? ⟨gb42001,1,none⟩=some (.int .i64 a0_1):=(blk_cell BK42001.out 1).trans rfl;have hcz10_2:w3.cell? ⟨gb42001,2,none⟩=some (.int .i64 a0_2):=(blk_cell BK42001.out 2).trans rfl;have hfz10_0:=y04 BK42001.out 0;have hfz10_1:=y04 BK42001.out 1;have hfz10_2:=y04 BK42001.out 2
    go_wp2_with (first | (go_at_call 19;(with_reducible refine (spec_l1In.calls a0_0 2000 2200 true _ A4.out).mono ?_);rintro e w' ⟨rfl,⟨nd,rfl⟩⟩;(try first | exact ⟨rfl,_,World.drewN_drewN _ _ _⟩ | exact ⟨rfl,_,Eq.trans (World.drewN_drewN _ _ _) (congrArg (World.drewN _) (Nat.add_assoc _ _ _))⟩)) | (go_at_call 19;(with_reducible refine (spec_l1In.calls a0_1 1 12 true _ A6.out).mono ?_);rintro e w' ⟨rfl,⟨nd,rfl⟩⟩;(try first | exact ⟨rfl,_,World.drewN_drewN _ _ _⟩ | exact ⟨rfl,_,Eq.trans (World.drewN_drewN _ _ _) (congrArg (World.drewN _) (Nat.add_assoc _ _ _))⟩)) | (go_at_call 40;(with_reducible refine (spec_l2Long.calls a0_0 a0_1 t42004 _ A8.out).mono ?_);rintro e w' ⟨rfl,⟨nd,rfl⟩⟩;(try first | exact ⟨rfl,_,World.drewN_drewN _ _ _⟩ | exact ⟨rfl,_,Eq.trans (World.drewN_drewN _ _ _) (congrArg (World.drewN _) (Nat.add_assoc _ _ _))⟩)) | (go_at_call 19;(with_reducible refine (spec_l1In.calls a0_2 1 t42004 t42005 _ A9.out).mono ?_);rintro e w' ⟨rfl,⟨nd,rfl⟩⟩;(try first | exact ⟨rfl,_,World.drewN_drewN _ _ _⟩ | exact ⟨rfl,_,Eq.trans (World.drewN_drewN _ _ _) (congrArg (World.drewN _) (Nat.add_assoc _ _ _))⟩)))
    repeat (go_quiet (first | (go_at_call 19;(with_reducible refine (spec_l1In.calls a0_0 2000 2200 true _ A4.out).mono ?_);rintro e w' ⟨rfl,⟨nd,rfl⟩⟩;(try first | exact ⟨rfl,_,World.drewN_drewN _ _ _⟩ | exact ⟨rfl,_,Eq.trans (World.drewN_drewN _ _ _) (congrArg (World.drewN _) (Nat.add_assoc _ _ _))⟩)) | (go_at_call 19;(with_reducible refine (spec_l1In.calls a0_1 1 12 true _ A6.out).mono ?_);rintro e w' ⟨rfl,⟨nd,rfl⟩⟩;(try first | exact ⟨rfl,_,World.drewN_drewN _ _ _⟩ | exact ⟨rfl,_,Eq.trans (World.drewN_drewN _ _ _) (congrArg (World.drewN _) (Nat.add_assoc _ _ _))⟩)) | (go_at_call 40;(with_reducible refine (spec_l2Long.calls a0_0 a0_1 t42004 _ A8.out).mono ?_);rintro e w' ⟨rfl,⟨nd,rfl⟩⟩;(try first | exact ⟨rfl,_,World.drewN_drewN _ _ _⟩ | exact ⟨rfl,_,Eq.trans (World.drewN_drewN _ _ _) (congrArg (World.drewN _) (Nat.add_assoc _ _ _))⟩)) | (go_at_call 19;(with_reducible refine (spec_l1In.calls a0_2 1 t42004 t42005 _ A9.out).mono ?_);rintro e w' ⟨rfl,⟨nd,rfl⟩⟩;(try first | exact ⟨rfl,_,World.drewN_drewN _ _ _⟩ | exact ⟨rfl,_,Eq.trans (World.drewN_drewN _ _ _) (congrArg (World.drewN _) (Nat.add_assoc _ _ _))⟩)));try go_wp2_with (first | (go_at_call 19;(with_reducible refine (spec_l1In.calls a0_0 2000 2200 true _ A4.out).mono ?_);rintro e w' ⟨rfl,⟨nd,rfl⟩⟩;(try first | exact ⟨rfl,_,World.drewN_drewN _ _ _⟩ | exact ⟨rfl,_,Eq.trans (World.drewN_drewN _ _ _) (congrArg (World.drewN _) (Nat.add_assoc _ _ _))⟩)) | (go_at_call 19;(with_reducible refine (spec_l1In.calls a0_1 1 12 true _ A6.out).mono ?_);rintro e w' ⟨rfl,⟨nd,rfl⟩⟩;(try first | exact ⟨rfl,_,World.drewN_drewN _ _ _⟩ | exact ⟨rfl,_,Eq.trans (World.drewN_drewN _ _ _) (congrArg (World.drewN _) (Nat.add_assoc _ _ _))⟩)) | (go_at_call 40;(with_reducible refine (spec_l2Long.calls a0_0 a0_1 t42004 _ A8.out).mono ?_);rintro e w' ⟨rfl,⟨nd,rfl⟩⟩;(try first | exact ⟨rfl,_,World.drewN_drewN _ _ _⟩ | exact ⟨rfl,_,Eq.trans (World.drewN_drewN _ _ _) (congrArg (World.drewN _) (Nat.add_assoc _ _ _))⟩)) | (go_at_call 19;(with_reducible refine (spec_l1In.calls a0_2 1 t42004 t42005 _ A9.out).mono ?_);rintro e w' ⟨rfl,⟨nd,rfl⟩⟩;(try first | exact ⟨rfl,_,World.drewN_drewN _ _ _⟩ | exact ⟨rfl,_,Eq.trans (World.drewN_drewN _ _ _) (congrArg (World.drewN _) (Nat.add_assoc _ _ _))⟩))))
    go_meet
    case rel=>exact ⟨_,(!t42005),(by first | rfl | (simp;done) | (simp [*];done)),H',⟨by first | omega | exact Nat.le_refl _⟩,⟨by (with_reducible repeat (first | refine y06 ?_ _ | refine blk_drew ?_ | refine y05 ?_ _));exact BK42001.out⟩,⟨by repeat (first | (with_reducible first | exact HB.out | apply y02 | apply y00 | apply y01 | refine y03 ?_ GE42001.out) | exact HB.out)⟩⟩
   ·replace c7:=Bool.eq_false_iff.mpr c7;subst c7;have H1:(spec_DayOf.j0 k true a0_0 a0_1 a0_2)=some r:=by rw [if_neg (show ¬ (false=true) by decide)] at H;exact H
    clear H;have H:=H1;clear H1;have H':=Aside0.mk H;clear H;have hcz11_0:w3.cell? ⟨gb42001,0,none⟩=some (.int .i64 a0_0):=(blk_cell BK42001.out 0).trans rfl;have hcz11_1:w3.cell? ⟨gb42001,1,none⟩=some (.int .i64 a0_1):=(blk_cell BK42001.out 1).trans rfl;have hcz11_2:w3.cell? ⟨gb42001,2,none⟩=some (.int .i64 a0_2):=(blk_cell BK42001.out 2).trans rfl;have hfz11_0:=y04 BK42001.out 0;have hfz11_1:=y04 BK42001.out 1;have hfz11_2:=y04 BK42001.out 2
    go_wp2_with (first | (go_at_call 19;(with_reducible refine (spec_l1In.calls a0_0 2000 2200 true _ A4.out).mono ?_);rintro e w' ⟨rfl,⟨nd,rfl⟩⟩;(try first | exact ⟨rfl,_,World.drewN_drewN _ _ _⟩ | exact ⟨rfl,_,Eq.trans (World.drewN_drewN _ _ _) (congrArg (World.drewN _) (Nat.add_assoc _ _ _))⟩)) | (go_at_call 19;(with_reducible refine (spec_l1In.calls a0_1 1 12 false _ A6.out).mono ?_);rintro e w' ⟨rfl,⟨nd,rfl⟩⟩;(try first | exact ⟨rfl,_,World.drewN_drewN _ _ _⟩ | exact ⟨rfl,_,Eq.trans (World.drewN_drewN _ _ _) (congrArg (World.drewN _) (Nat.add_assoc _ _ _))⟩)))
    repeat (go_quiet (first | (go_at_call 19;(with_reducible refine (spec_l1In.calls a0_0 2000 2200 true _ A4.out).mono ?_);rintro e w' ⟨rfl,⟨nd,rfl⟩⟩;(try first | exact ⟨rfl,_,World.drewN_drewN _ _ _⟩ | exact ⟨rfl,_,Eq.trans (World.drewN_drewN _ _ _) (congrArg (World.drewN _) (Nat.add_assoc _ _ _))⟩)) | (go_at_call 19;(with_reducible refine (spec_l1In.calls a0_1 1 12 false _ A6.out).mono ?_);rintro e w' ⟨rfl,⟨nd,rfl⟩⟩;(try first | exact ⟨rfl,_,World.drewN_drewN _ _ _⟩ | exact ⟨rfl,_,Eq.trans (World.drewN_drewN _ _ _) (congrArg (World.drewN _) (Nat.add_assoc _ _ _))⟩)));try go_wp2_with (first | (go_at_call 19;(with_reducible refine (spec_l1In.calls a0_0 2000 2200 true _ A4.out).mono ?_);rintro e w' ⟨rfl,⟨nd,rfl⟩⟩;(try first | exact ⟨rfl,_,World.drewN_drewN _ _ _⟩ | exact ⟨rfl,_,Eq.trans (World.drewN_drewN _ _ _) (congrArg (World.drewN _) (Nat.add_assoc _ _ _))⟩)) | (go_at_call 19;(with_reducible refine (spec_l1In.calls a0_1 1 12 false _ A6.out).mono ?_);rintro e w' ⟨rfl,⟨nd,rfl⟩⟩;(try first | exact ⟨rfl,_,World.drewN_drewN _ _ _⟩ | exact ⟨rfl,_,Eq.trans (World.drewN_drewN _ _ _) (congrArg (World.drewN _) (Nat.add_assoc _ _ _))⟩))))
    go_meet
    case rel=>exact ⟨_,(true),(by first | rfl | (simp;done) | (simp [*];done)),H',⟨by first | omega | exact Nat.le_refl _⟩,⟨by (with_reducible repeat (first | refine y06 ?_ _ | refine blk_drew ?_ | refine y05 ?_ _));exact BK42001.out⟩,⟨by repeat (first | (with_reducible first | exact HB.out | apply y02 | apply y00 | apply y01 | refine y03 ?_ GE42001.out) | exact HB.out)⟩⟩
  ·replace c5:=Bool.eq_false_iff.mpr c5;subst c5;have H1:(spec_DayOf.j0 k true a0_0 a0_1 a0_2)=some r:=by rw [if_neg (show ¬ (false=true) by decide)] at H;exact H
   clear H;have H:=H1;clear H1;have H':=Aside0.mk H;clear H;have hcz12_0:w3.cell? ⟨gb42001,0,none⟩=some (.int .i64 a0_0):=(blk_cell BK42001.out 0).trans rfl;have hcz12_1:w3.cell? ⟨gb42001,1,none⟩=some (.int .i64 a0_1):=(blk_cell BK42001.out 1).trans rfl;have hcz12_2:w3.cell? ⟨gb42001,2,none⟩=some (.int .i64 a0_2):=(blk_cell BK42001.out 2).trans rfl;have hfz12_0:=y04 BK42001.out 0;have hfz12_1:=y04 BK42001.out 1;have hfz12_2:=y04 BK42001.out 2
   go_wp2_with (first | (go_at_call 19;(with_reducible refine (spec_l1In.calls a0_0 2000 2200 false _ A4.out).mono ?_);rintro e w' ⟨rfl,⟨nd,rfl⟩⟩;(try first | exact ⟨rfl,_,World.drewN_drewN _ _ _⟩ | exact ⟨rfl,_,Eq.trans (World.drewN_drewN _ _ _) (congrArg (World.drewN _) (Nat.add_assoc _ _ _))⟩)))
   repeat (go_quiet (first | (go_at_call 19;(with_reducible refine (spec_l1In.calls a0_0 2000 2200 false _ A4.out).mono ?_);rintro e w' ⟨rfl,⟨nd,rfl⟩⟩;(try first | exact ⟨rfl,_,World.drewN_drewN _ _ _⟩ | exact ⟨rfl,_,Eq.trans (World.drewN_drewN _ _ _) (congrArg (World.drewN _) (Nat.add_assoc _ _ _))⟩)));try go_wp2_with (first | (go_at_call 19;(with_reducible refine (spec_l1In.calls a0_0 2000 2200 false _ A4.out).mono ?_);rintro e w' ⟨rfl,⟨nd,rfl⟩⟩;(try first | exact ⟨rfl,_,World.drewN_drewN _ _ _⟩ | exact ⟨rfl,_,Eq.trans (World.drewN_drewN _ _ _) (congrArg (World.drewN _) (Nat.add_assoc _ _ _))⟩))))
   go_meet
   case rel=>exact ⟨_,(true),(by first | rfl | (simp;done) | (simp [*];done)),H',⟨by first | omega | exact Nat.le_refl _⟩,⟨by (with_reducible repeat (first | refine y06 ?_ _ | refine blk_drew ?_ | refine y05 ?_ _));exact BK42001.out⟩,⟨by repeat (first | (with_reducible first | exact HB.out | apply y02 | apply y00 | apply y01 | refine y03 ?_ GE42001.out) | exact HB.out)⟩⟩
 case rest =>
  clear HC2;(try clear p2);(try clear c4);(try clear c5);(try clear c7);(try clear hcz10_0);(try clear hcz10_1);(try clear hcz10_2);(try clear hcz11_0);(try clear hcz11_1);(try clear hcz11_2);(try clear hcz12_0);(try clear hcz12_1);(try clear hcz12_2);(try clear hfz10_0);(try clear hfz10_1);(try clear hfz10_2);(try clear hfz11_0);(try clear hfz11_1);(try clear hfz11_2);(try clear hfz12_0);(try clear hfz12_1);(try clear hfz12_2);obtain ⟨kq,x26_1,rfl,HA,HJ1,BK42001,HB⟩:=hcut;cases kq with
  | zero=>exact absurd HA.out (by simp [spec_DayOf.j0])
  | succ kj1 =>
   have H:=HA.out;clear HA;simp only [spec_DayOf.j0] at H;by_cases c13:x26_1=true
   ·subst c13;have H1:(some (-1))=some r:=by rw [if_pos rfl] at H;exact H
    clear H;have H:=H1;clear H1;obtain rfl:=Option.some.inj H
    go_wp2
    repeat (go_quiet (fail);try go_wp2)
    go_ret
    exact ⟨by first | rfl | (simp [errW_none,errW_some] <;> rfl) | (simp [*,errW_none,errW_some] <;> rfl),by repeat (first | (with_reducible first | exact HB.out | apply y02 | apply y00 | apply y01 | refine y03 ?_ GE42001.out) | exact HB.out)⟩
   ·replace c13:=Bool.eq_false_iff.mpr c13;subst c13;have H1:(spec_DayOf.l0 kj1 (wrap64 (a0_2 - 1)) 2000 a0_0 a0_1 a0_2)=some r:=by rw [if_neg (show ¬ (false=true) by decide)] at H;exact H
    clear H;have H:=H1;clear H1;have H':=Aside0.mk H;clear H;have hcz14_0:wc.cell? ⟨gb42001,0,none⟩=some (.int .i64 a0_0):=(blk_cell BK42001.out 0).trans rfl;have hcz14_1:wc.cell? ⟨gb42001,1,none⟩=some (.int .i64 a0_1):=(blk_cell BK42001.out 1).trans rfl;have hcz14_2:wc.cell? ⟨gb42001,2,none⟩=some (.int .i64 a0_2):=(blk_cell BK42001.out 2).trans rfl;have hfz14_0:=y04 BK42001.out 0;have hfz14_1:=y04 BK42001.out 1;have hfz14_2:=y04 BK42001.out 2
    go_wp2
    repeat (go_quiet (fail);try go_wp2)
    go_loopg [3,4] kj1 (fun kq v3 v4 w'=>∃ (x3_2:Int) (x4_2:Int),v3 = .int .i64 x3_2∧v4 = .int .i64 x4_2∧Aside0 (spec_DayOf.l0 kq x3_2 x4_2 a0_0 a0_1 a0_2=some r)∧Aside0 (kq≤kj1)∧Aside0 (w'.heap[gb42001]?=some (.cells #[.int .i64 a0_0,.int .i64 a0_1,.int .i64 a0_2] 59 (0,0)))∧Aside0 (Below w.heap.size w w'))
    case atStart=>exact ⟨(wrap64 (a0_2 - 1)),(2000),(by first | rfl | (simp;done) | (simp [*];done)),(by first | rfl | (simp;done) | (simp [*];done)),H',⟨Nat.le_refl _⟩,⟨by (with_reducible repeat (first | refine y06 ?_ _ | refine blk_drew ?_ | refine y05 ?_ _));exact BK42001.out⟩,⟨by repeat (first | (with_reducible first | exact HB.out | apply y02 | apply y00 | apply y01 | refine y03 ?_ GE42001.out) | exact HB.out)⟩⟩
    case round =>
     clear H';(try clear c1);(try clear p2);(try clear c4);(try clear c5);(try clear p6);(try clear c7);(try clear c13);(try clear hcz10_0);(try clear hcz10_1);(try clear hcz10_2);(try clear hcz11_0);(try clear hcz11_1);(try clear hcz11_2);(try clear hcz12_0);(try clear hcz12_1);(try clear hcz12_2);(try clear hcz14_0);(try clear hcz14_1);(try clear hcz14_2);(try clear hfz10_0);(try clear hfz10_1);(try clear hfz10_2);(try clear hfz11_0);(try clear hfz11_1);(try clear hfz11_2);(try clear hfz12_0);(try clear hfz12_1);(try clear hfz12_2);(try clear hfz14_0);(try clear hfz14_1);(try clear hfz14_2);(try clear p2);obtain ⟨x3_2,x4_2,rfl,rfl,HA,HK2,BK42001,HB⟩:=hrel;cases gk with
     | zero=>exact absurd HA.out (by simp [spec_DayOf.l0])
     | succ k2 =>
      have H:=HA.out;clear HA;simp only [spec_DayOf.l0] at H;by_cases c15:x4_2 < a0_0
      ·rw [if_pos c15] at H;have c15b0:decide (x4_2 < a0_0)=true:=decide_eq_true c15;clear c15;replace H:=Option.bind_eq_some_iff.mp H;obtain ⟨t42006,A160,H⟩:=H;replace H:(if t42006=true then (spec_DayOf.l0 k2 (wrap64 ((wrap64 (x3_2+365))+1)) (wrap64 (x4_2+1)) a0_0 a0_1 a0_2) else (spec_DayOf.l0 k2 (wrap64 (x3_2+365)) (wrap64 (x4_2+1)) a0_0 a0_1 a0_2))=some r:=H;have A16:=Aside0.mk A160;clear A160;by_cases c17:t42006=true
       ·subst c17;have H1:(spec_DayOf.l0 k2 (wrap64 ((wrap64 (x3_2+365))+1)) (wrap64 (x4_2+1)) a0_0 a0_1 a0_2)=some r:=by rw [if_pos rfl] at H;exact H
        clear H;have H:=H1;clear H1;have H':=Aside0.mk H;clear H;have hcz18_0:wr.cell? ⟨gb42001,0,none⟩=some (.int .i64 a0_0):=(blk_cell BK42001.out 0).trans rfl;have hcz18_1:wr.cell? ⟨gb42001,1,none⟩=some (.int .i64 a0_1):=(blk_cell BK42001.out 1).trans rfl;have hcz18_2:wr.cell? ⟨gb42001,2,none⟩=some (.int .i64 a0_2):=(blk_cell BK42001.out 2).trans rfl;have hfz18_0:=y04 BK42001.out 0;have hfz18_1:=y04 BK42001.out 1;have hfz18_2:=y04 BK42001.out 2
        go_wp2_with (first | (go_at_call 54;(with_reducible refine (spec_l2Leap.calls x4_2 true _ A16.out).mono ?_);rintro e w' ⟨rfl,⟨nd,rfl⟩⟩;(try first | exact ⟨rfl,_,World.drewN_drewN _ _ _⟩ | exact ⟨rfl,_,Eq.trans (World.drewN_drewN _ _ _) (congrArg (World.drewN _) (Nat.add_assoc _ _ _))⟩)))
        repeat (go_quiet (first | (go_at_call 54;(with_reducible refine (spec_l2Leap.calls x4_2 true _ A16.out).mono ?_);rintro e w' ⟨rfl,⟨nd,rfl⟩⟩;(try first | exact ⟨rfl,_,World.drewN_drewN _ _ _⟩ | exact ⟨rfl,_,Eq.trans (World.drewN_drewN _ _ _) (congrArg (World.drewN _) (Nat.add_assoc _ _ _))⟩)));try go_wp2_with (first | (go_at_call 54;(with_reducible refine (spec_l2Leap.calls x4_2 true _ A16.out).mono ?_);rintro e w' ⟨rfl,⟨nd,rfl⟩⟩;(try first | exact ⟨rfl,_,World.drewN_drewN _ _ _⟩ | exact ⟨rfl,_,Eq.trans (World.drewN_drewN _ _ _) (congrArg (World.drewN _) (Nat.add_assoc _ _ _))⟩))))
        go_roundg k2
        case measure=>have:=HJ1.out;have:=HK2.out;omega
        case rel=>exact ⟨(wrap64 ((wrap64 (x3_2+365))+1)),(wrap64 (x4_2+1)),(by first | rfl | (simp;done) | (simp [*];done)),(by first | rfl | (simp;done) | (simp [*];done)),H',⟨by have:=HJ1.out;have:=HK2.out;omega⟩,⟨by (with_reducible repeat (first | refine y06 ?_ _ | refine blk_drew ?_ | refine y05 ?_ _));exact BK42001.out⟩,⟨by repeat (first | (with_reducible first | exact HB.out | apply y02 | apply y00 | apply y01 | refine y03 ?_ GE42001.out) | exact HB.out)⟩⟩
       ·replace c17:=Bool.eq_false_iff.mpr c17;subst c17;have H1:(spec_DayOf.l0 k2 (wrap64 (x3_2+365)) (wrap64 (x4_2+1)) a0_0 a0_1 a0_2)=some r:=by rw [if_neg (show ¬ (false=true) by decide)] at H;exact H
        clear H;have H:=H1;clear H1;have H':=Aside0.mk H;clear H;have hcz19_0:wr.cell? ⟨gb42001,0,none⟩=some (.int .i64 a0_0):=(blk_cell BK42001.out 0).trans rfl;have hcz19_1:wr.cell? ⟨gb42001,1,none⟩=some (.int .i64 a0_1):=(blk_cell BK42001.out 1).trans rfl;have hcz19_2:wr.cell? ⟨gb42001,2,none⟩=some (.int .i64 a0_2):=(blk_cell BK42001.out 2).trans rfl;have hfz19_0:=y04 BK42001.out 0;have hfz19_1:=y04 BK42001.out 1;have hfz19_2:=y04 BK42001.out 2
        go_wp2_with (first | (go_at_call 54;(with_reducible refine (spec_l2Leap.calls x4_2 false _ A16.out).mono ?_);rintro e w' ⟨rfl,⟨nd,rfl⟩⟩;(try first | exact ⟨rfl,_,World.drewN_drewN _ _ _⟩ | exact ⟨rfl,_,Eq.trans (World.drewN_drewN _ _ _) (congrArg (World.drewN _) (Nat.add_assoc _ _ _))⟩)))
        repeat (go_quiet (first | (go_at_call 54;(with_reducible refine (spec_l2Leap.calls x4_2 false _ A16.out).mono ?_);rintro e w' ⟨rfl,⟨nd,rfl⟩⟩;(try first | exact ⟨rfl,_,World.drewN_drewN _ _ _⟩ | exact ⟨rfl,_,Eq.trans (World.drewN_drewN _ _ _) (congrArg (World.drewN _) (Nat.add_assoc _ _ _))⟩)));try go_wp2_with (first | (go_at_call 54;(with_reducible refine (spec_l2Leap.calls x4_2 false _ A16.out).mono ?_);rintro e w' ⟨rfl,⟨nd,rfl⟩⟩;(try first | exact ⟨rfl,_,World.drewN_drewN _ _ _⟩ | exact ⟨rfl,_,Eq.trans (World.drewN_drewN _ _ _) (congrArg (World.drewN _) (Nat.add_assoc _ _ _))⟩))))
        go_roundg k2
        case measure=>have:=HJ1.out;have:=HK2.out;omega
        case rel=>exact ⟨(wrap64 (x3_2+365)),(wrap64 (x4_2+1)),(by first | rfl | (simp;done) | (simp [*];done)),(by first | rfl | (simp;done) | (simp [*];done)),H',⟨by have:=HJ1.out;have:=HK2.out;omega⟩,⟨by (with_reducible repeat (first | refine y06 ?_ _ | refine blk_drew ?_ | refine y05 ?_ _));exact BK42001.out⟩,⟨by repeat (first | (with_reducible first | exact HB.out | apply y02 | apply y00 | apply y01 | refine y03 ?_ GE42001.out) | exact HB.out)⟩⟩
      ·rw [if_neg c15] at H;have c15b0:decide (x4_2 < a0_0)=false:=decide_eq_false c15;clear c15;have H':=Aside0.mk H;clear H;have hcz20_0:wr.cell? ⟨gb42001,0,none⟩=some (.int .i64 a0_0):=(blk_cell BK42001.out 0).trans rfl;have hcz20_1:wr.cell? ⟨gb42001,1,none⟩=some (.int .i64 a0_1):=(blk_cell BK42001.out 1).trans rfl;have hcz20_2:wr.cell? ⟨gb42001,2,none⟩=some (.int .i64 a0_2):=(blk_cell BK42001.out 2).trans rfl;have hfz20_0:=y04 BK42001.out 0;have hfz20_1:=y04 BK42001.out 1;have hfz20_2:=y04 BK42001.out 2
       go_wp2
       repeat (go_quiet (fail);try go_wp2)
       go_loopg [3,5] k2 (fun kq v3 v5 w'=>∃ (x3_3:Int) (x5_3:Int),v3 = .int .i64 x3_3∧v5 = .int .i64 x5_3∧Aside0 (spec_DayOf.l1 kq x3_3 x5_3 a0_0 a0_1 a0_2=some r)∧Aside0 (kq≤k2)∧Aside0 (w'.heap[gb42001]?=some (.cells #[.int .i64 a0_0,.int .i64 a0_1,.int .i64 a0_2] 59 (0,0)))∧Aside0 (Below w.heap.size w w'))
       case atStart=>exact ⟨(x3_2),(1),(by first | rfl | (simp;done) | (simp [*];done)),(by first | rfl | (simp;done) | (simp [*];done)),H',⟨Nat.le_refl _⟩,⟨by (with_reducible repeat (first | refine y06 ?_ _ | refine blk_drew ?_ | refine y05 ?_ _));exact BK42001.out⟩,⟨by repeat (first | (with_reducible first | exact HB.out | apply y02 | apply y00 | apply y01 | refine y03 ?_ GE42001.out) | exact HB.out)⟩⟩
       case round =>
        clear H';(try clear c1);(try clear p2);(try clear c4);(try clear c5);(try clear p6);(try clear c7);(try clear c13);(try clear c15);(try clear c15b0);(try clear c17);(try clear hcz10_0);(try clear hcz10_1);(try clear hcz10_2);(try clear hcz11_0);(try clear hcz11_1);(try clear hcz11_2);(try clear hcz12_0);(try clear hcz12_1);(try clear hcz12_2);(try clear hcz14_0);(try clear hcz14_1);(try clear hcz14_2);(try clear hcz18_0);(try clear hcz18_1);(try clear hcz18_2);(try clear hcz19_0);(try clear hcz19_1);(try clear hcz19_2);(try clear hcz20_0);(try clear hcz20_1);(try clear hcz20_2);(try clear hfz10_0);(try clear hfz10_1);(try clear hfz10_2);(try clear hfz11_0);(try clear hfz11_1);(try clear hfz11_2);(try clear hfz12_0);(try clear hfz12_1);(try clear hfz12_2);(try clear hfz14_0);(try clear hfz14_1);(try clear hfz14_2);(try clear hfz18_0);(try clear hfz18_1);(try clear hfz18_2);(try clear hfz19_0);(try clear hfz19_1);(try clear hfz19_2);(try clear hfz20_0);(try clear hfz20_1);(try clear hfz20_2);(try clear p2);(try clear p6);obtain ⟨x3_3,x5_3,rfl,rfl,HA,HK3,BK42001,HB⟩:=hrel;cases gk with
        | zero=>exact absurd HA.out (by simp [spec_DayOf.l1])
        | succ k3 =>
         have H:=HA.out;clear HA;simp only [spec_DayOf.l1] at H;by_cases c21:x5_3 < a0_1
         ·rw [if_pos c21] at H;have c21b0:decide (x5_3 < a0_1)=true:=decide_eq_true c21;clear c21;replace H:=Option.bind_eq_some_iff.mp H;obtain ⟨t42007,A220,H⟩:=H;replace H:(spec_DayOf.l1 k3 (wrap64 (x3_3+t42007)) (wrap64 (x5_3+1)) a0_0 a0_1 a0_2)=some r:=H;have A22:=Aside0.mk A220;clear A220;have H':=Aside0.mk H;clear H;have hcz23_0:wr.cell? ⟨gb42001,0,none⟩=some (.int .i64 a0_0):=(blk_cell BK42001.out 0).trans rfl;have hcz23_1:wr.cell? ⟨gb42001,1,none⟩=some (.int .i64 a0_1):=(blk_cell BK42001.out 1).trans rfl;have hcz23_2:wr.cell? ⟨gb42001,2,none⟩=some (.int .i64 a0_2):=(blk_cell BK42001.out 2).trans rfl;have hfz23_0:=y04 BK42001.out 0;have hfz23_1:=y04 BK42001.out 1;have hfz23_2:=y04 BK42001.out 2
          go_wp2_with (first | (go_at_call 40;(with_reducible refine (spec_l2Long.calls a0_0 x5_3 t42007 _ A22.out).mono ?_);rintro e w' ⟨rfl,⟨nd,rfl⟩⟩;(try first | exact ⟨rfl,_,World.drewN_drewN _ _ _⟩ | exact ⟨rfl,_,Eq.trans (World.drewN_drewN _ _ _) (congrArg (World.drewN _) (Nat.add_assoc _ _ _))⟩)))
          repeat (go_quiet (first | (go_at_call 40;(with_reducible refine (spec_l2Long.calls a0_0 x5_3 t42007 _ A22.out).mono ?_);rintro e w' ⟨rfl,⟨nd,rfl⟩⟩;(try first | exact ⟨rfl,_,World.drewN_drewN _ _ _⟩ | exact ⟨rfl,_,Eq.trans (World.drewN_drewN _ _ _) (congrArg (World.drewN _) (Nat.add_assoc _ _ _))⟩)));try go_wp2_with (first | (go_at_call 40;(with_reducible refine (spec_l2Long.calls a0_0 x5_3 t42007 _ A22.out).mono ?_);rintro e w' ⟨rfl,⟨nd,rfl⟩⟩;(try first | exact ⟨rfl,_,World.drewN_drewN _ _ _⟩ | exact ⟨rfl,_,Eq.trans (World.drewN_drewN _ _ _) (congrArg (World.drewN _) (Nat.add_assoc _ _ _))⟩))))
          go_roundg k3
          case measure=>have:=HJ1.out;have:=HK2.out;have:=HK3.out;omega
          case rel=>exact ⟨(wrap64 (x3_3+t42007)),(wrap64 (x5_3+1)),(by first | rfl | (simp;done) | (simp [*];done)),(by first | rfl | (simp;done) | (simp [*];done)),H',⟨by have:=HJ1.out;have:=HK2.out;have:=HK3.out;omega⟩,⟨by (with_reducible repeat (first | refine y06 ?_ _ | refine blk_drew ?_ | refine y05 ?_ _));exact BK42001.out⟩,⟨by repeat (first | (with_reducible first | exact HB.out | apply y02 | apply y00 | apply y01 | refine y03 ?_ GE42001.out) | exact HB.out)⟩⟩
         ·rw [if_neg c21] at H;have c21b0:decide (x5_3 < a0_1)=false:=decide_eq_false c21;clear c21;replace H:=Option.bind_eq_some_iff.mp H;obtain ⟨t42008,A240,H⟩:=H;replace H:(if t42008=true then (some x3_3) else (some (-1)))=some r:=H;have A24:=Aside0.mk A240;clear A240;by_cases c25:t42008=true
          ·subst c25;have H1:(some x3_3)=some r:=by rw [if_pos rfl] at H;exact H
           clear H;have H:=H1;clear H1;obtain rfl:=Option.some.inj H;have hcz26_0:wr.cell? ⟨gb42001,0,none⟩=some (.int .i64 a0_0):=(blk_cell BK42001.out 0).trans rfl;have hcz26_1:wr.cell? ⟨gb42001,1,none⟩=some (.int .i64 a0_1):=(blk_cell BK42001.out 1).trans rfl;have hcz26_2:wr.cell? ⟨gb42001,2,none⟩=some (.int .i64 a0_2):=(blk_cell BK42001.out 2).trans rfl;have hfz26_0:=y04 BK42001.out 0;have hfz26_1:=y04 BK42001.out 1;have hfz26_2:=y04 BK42001.out 2
           go_wp2_with (first | (go_at_call 38;(with_reducible refine (spec_l2Day.calls x3_3 true _ A24.out).mono ?_);rintro e w' ⟨rfl,⟨nd,rfl⟩⟩;(try first | exact ⟨rfl,_,World.drewN_drewN _ _ _⟩ | exact ⟨rfl,_,Eq.trans (World.drewN_drewN _ _ _) (congrArg (World.drewN _) (Nat.add_assoc _ _ _))⟩)))
           repeat (go_quiet (first | (go_at_call 38;(with_reducible refine (spec_l2Day.calls x3_3 true _ A24.out).mono ?_);rintro e w' ⟨rfl,⟨nd,rfl⟩⟩;(try first | exact ⟨rfl,_,World.drewN_drewN _ _ _⟩ | exact ⟨rfl,_,Eq.trans (World.drewN_drewN _ _ _) (congrArg (World.drewN _) (Nat.add_assoc _ _ _))⟩)));try go_wp2_with (first | (go_at_call 38;(with_reducible refine (spec_l2Day.calls x3_3 true _ A24.out).mono ?_);rintro e w' ⟨rfl,⟨nd,rfl⟩⟩;(try first | exact ⟨rfl,_,World.drewN_drewN _ _ _⟩ | exact ⟨rfl,_,Eq.trans (World.drewN_drewN _ _ _) (congrArg (World.drewN _) (Nat.add_assoc _ _ _))⟩))))
           go_ret
           exact ⟨by first | rfl | (simp [errW_none,errW_some] <;> rfl) | (simp [*,errW_none,errW_some] <;> rfl),by repeat (first | (with_reducible first | exact HB.out | apply y02 | apply y00 | apply y01 | refine y03 ?_ GE42001.out) | exact HB.out)⟩
          ·replace c25:=Bool.eq_false_iff.mpr c25;subst c25;have H1:(some (-1))=some r:=by rw [if_neg (show ¬ (false=true) by decide)] at H;exact H
           clear H;have H:=H1;clear H1;obtain rfl:=Option.some.inj H;have hcz27_0:wr.cell? ⟨gb42001,0,none⟩=some (.int .i64 a0_0):=(blk_cell BK42001.out 0).trans rfl;have hcz27_1:wr.cell? ⟨gb42001,1,none⟩=some (.int .i64 a0_1):=(blk_cell BK42001.out 1).trans rfl;have hcz27_2:wr.cell? ⟨gb42001,2,none⟩=some (.int .i64 a0_2):=(blk_cell BK42001.out 2).trans rfl;have hfz27_0:=y04 BK42001.out 0;have hfz27_1:=y04 BK42001.out 1;have hfz27_2:=y04 BK42001.out 2
           go_wp2_with (first | (go_at_call 38;(with_reducible refine (spec_l2Day.calls x3_3 false _ A24.out).mono ?_);rintro e w' ⟨rfl,⟨nd,rfl⟩⟩;(try first | exact ⟨rfl,_,World.drewN_drewN _ _ _⟩ | exact ⟨rfl,_,Eq.trans (World.drewN_drewN _ _ _) (congrArg (World.drewN _) (Nat.add_assoc _ _ _))⟩)))
           repeat (go_quiet (first | (go_at_call 38;(with_reducible refine (spec_l2Day.calls x3_3 false _ A24.out).mono ?_);rintro e w' ⟨rfl,⟨nd,rfl⟩⟩;(try first | exact ⟨rfl,_,World.drewN_drewN _ _ _⟩ | exact ⟨rfl,_,Eq.trans (World.drewN_drewN _ _ _) (congrArg (World.drewN _) (Nat.add_assoc _ _ _))⟩)));try go_wp2_with (first | (go_at_call 38;(with_reducible refine (spec_l2Day.calls x3_3 false _ A24.out).mono ?_);rintro e w' ⟨rfl,⟨nd,rfl⟩⟩;(try first | exact ⟨rfl,_,World.drewN_drewN _ _ _⟩ | exact ⟨rfl,_,Eq.trans (World.drewN_drewN _ _ _) (congrArg (World.drewN _) (Nat.add_assoc _ _ _))⟩))))
           go_ret
           exact ⟨by first | rfl | (simp [errW_none,errW_some] <;> rfl) | (simp [*,errW_none,errW_some] <;> rfl),by repeat (first | (with_reducible first | exact HB.out | apply y02 | apply y00 | apply y01 | refine y03 ?_ GE42001.out) | exact HB.out)⟩
end Go.Proofs.YtcblmhpebijmaaaDoor.Q
