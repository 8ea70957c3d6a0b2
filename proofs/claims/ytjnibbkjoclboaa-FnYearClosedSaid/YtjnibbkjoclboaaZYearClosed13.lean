/- Parts of the proof: what functions of the program and of the reference answer.
   No condition. -/
import Derived.Test.YtjnibbkjoclboaaZYearClosed1
import Derived.Test.YtjnibbkjoclboaaZYearClosed3
import Derived.Test.YtjnibbkjoclboaaZYearClosed10
namespace Go.Proofs.Ytjnibbkjoclboaa.Q
open Go.RowKit Go.Proofs.YtjnibbkjoclboaaW.PrintWords Go.Proofs.YtjnibbkjoclboaaW.PrintLast Go.Proofs.YtjnibbkjoclboaaW.PrintMore
set_option linter.unusedVariables false
set_option linter.unusedSimpArgs false
mutual
noncomputable def spec_Periods.j0 : Nat → Int → Int → Int → List (S84) → Bool → Option ((List (S84)))
  | 0, _, _, _, _, _ => none
  | k + 1, x0, x1, x2, x7, x33 => if x33 = true then (some x7) else (spec_Periods.l0 k x0 x1 x2 x7 0)
noncomputable def spec_Periods.l0 : Nat → Int → Int → Int → List (S84) → Int → Option ((List (S84)))
  | 0, _, _, _, _, _ => none
  | k + 1, x0, x1, x2, x7, x8 => if x8 < x2 then (if x0 = 2 then (spec_Periods.j2 k x0 x1 x2 x7 x8 (wrap64 (x1 + 27)) ((Int.tmod x8 3) == 2)) else (spec_Periods.j2 k x0 x1 x2 x7 x8 (wrap64 (x1 + 27)) false)) else (some x7)
noncomputable def spec_Periods.j2 : Nat → Int → Int → Int → List (S84) → Int → Int → Bool → Option ((List (S84)))
  | 0, _, _, _, _, _, _, _ => none
  | k + 1, x0, x1, x2, x7, x8, x9, x48 => if x48 = true then (spec_Periods.j3 k x0 x1 x2 x7 x8 (wrap64 (x1 + 34))) else (spec_Periods.j3 k x0 x1 x2 x7 x8 x9)
noncomputable def spec_Periods.j3 : Nat → Int → Int → Int → List (S84) → Int → Int → Option ((List (S84)))
  | 0, _, _, _, _, _, _ => none
  | k + 1, x0, x1, x2, x7, x8, x9 => if x0 = 1 then ((spec_l2Day.f x1).bind fun t38010 => (if t38010 = true then ((spec_MonthEnd.f k x1).bind fun t38014 => ((spec_l2Day.f t38014).bind fun t38015 => (if t38015 = true then (if x7.length < 8796093022208 then (spec_Periods.l0 k x0 (wrap64 (t38014 + 1)) x2 (x7 ++ [(⟨x1, t38014⟩ : S84)]) (wrap64 (x8 + 1))) else (none)) else (some (([] : List (S84))))))) else (some (([] : List (S84)))))) else ((spec_l2Day.f x9).bind fun t38022 => (if t38022 = true then (if x7.length < 8796093022208 then (spec_Periods.l0 k x0 (wrap64 (x9 + 1)) x2 (x7 ++ [(⟨x1, x9⟩ : S84)]) (wrap64 (x8 + 1))) else (none)) else (some (([] : List (S84))))))
end
noncomputable def spec_Periods.f (k : Nat) (a0 : Int) (a1 : Int) (a2 : Int) : Option ((List (S84))) := (some (([] : List (S84)) : List (S84))).bind fun y38001 => ((spec_l1In.f a0 1 3).bind fun t38004 => (if t38004 = true then ((spec_l1In.f a2 1 60).bind fun t38005 => (if t38005 = true then ((spec_l2Day.f a1).bind fun t38006 => (if t38006 = true then (if a0 = 1 then ((spec_DateOf.f k a1).bind fun bt38007 => (spec_Periods.j0 k a0 a1 a2 y38001 (bt38007.2.2 != 1))) else (spec_Periods.j0 k a0 a1 a2 y38001 false)) else (spec_Periods.j0 k a0 a1 a2 y38001 true))) else (spec_Periods.j0 k a0 a1 a2 y38001 true))) else (spec_Periods.j0 k a0 a1 a2 y38001 true)))
set_option maxHeartbeats 8000000 in
set_option maxRecDepth 100000 in
theorem spec_Periods.calls (k : Nat) (a0 : Int) (a1 : Int) (a2 : Int) (r : List (S84)) (w : World) (h : spec_Periods.f k a0 a1 a2 = some r) :
    Calls Try.prog 37 #[.int .i64 a0, .int .i64 a1, .int .i64 a2] w fun e w' => ∃ v0_ : Value, e = .returned (v0_) ∧ Kd.R k84 84 w' w.heap.size (fun _ => True) v0_ r ∧ Below w.heap.size w w' := by
  have hu84 := Try.underlying84
  have HB := Aside0.mk (Below.refl w.heap.size w)
  have H : ((some (([] : List (S84)) : List (S84))).bind fun y38001 => ((spec_l1In.f a0 1 3).bind fun t38004 => (if t38004 = true then ((spec_l1In.f a2 1 60).bind fun t38005 => (if t38005 = true then ((spec_l2Day.f a1).bind fun t38006 => (if t38006 = true then (if a0 = 1 then ((spec_DateOf.f k a1).bind fun bt38007 => (spec_Periods.j0 k a0 a1 a2 y38001 (bt38007.2.2 != 1))) else (spec_Periods.j0 k a0 a1 a2 y38001 false)) else (spec_Periods.j0 k a0 a1 a2 y38001 true))) else (spec_Periods.j0 k a0 a1 a2 y38001 true))) else (spec_Periods.j0 k a0 a1 a2 y38001 true)))) = some r := h
  clear h
  obtain ⟨y38001, hy38001⟩ : ∃ y_ : List (S84), y_ = (([] : List (S84))) := ⟨_, rfl⟩
  replace H : ((spec_l1In.f a0 1 3).bind fun t38004 => (if t38004 = true then ((spec_l1In.f a2 1 60).bind fun t38005 => (if t38005 = true then ((spec_l2Day.f a1).bind fun t38006 => (if t38006 = true then (if a0 = 1 then ((spec_DateOf.f k a1).bind fun bt38007 => (spec_Periods.j0 k a0 a1 a2 y38001 (bt38007.2.2 != 1))) else (spec_Periods.j0 k a0 a1 a2 y38001 false)) else (spec_Periods.j0 k a0 a1 a2 y38001 true))) else (spec_Periods.j0 k a0 a1 a2 y38001 true))) else (spec_Periods.j0 k a0 a1 a2 y38001 true))) = some r := by first | (rw [hy38001]; with_reducible exact H) | (have H2_ := (Option.bind_some _ _).symm.trans H; rw [hy38001]; with_reducible exact H2_) | (have H2_ := (Option.bind_some _ _).symm.trans H; with_reducible exact H2_) | with_reducible exact H | (rw [hy38001]; exact H) | exact H
  have Ny38001 := Aside0.mk hy38001
  clear hy38001
  have HC4 := Aside0.mk H
  clear H
  have kf : ∀ (x y z : Int) (w : World), (Instr.field 101 (.agg #[.int .i64 x, .int .i64 y, .int .i64 z]) 2).run Try.prog w = .ok (.int .i64 z) w := fun _ _ _ _ => by kernel_rfl
  go_enter Try.func37, Try.ntmps37
  go_upto_region 2 with (first | ((with_reducible refine gate_dst (N := 10) rfl ?_); refine Kd.R_lit k84 _ 84 ?hg (N := 10) ?hd (xs := ([] : List (S84))) (inner := []) (ok := fun _ => True) (okp := fun _ => True) ?hr ?hp (fun _ hk => hk) trivial (Below.refl _ _) (Nat.le_refl _) (by simp) ?_; (case hd => rfl); (case hg => rfl); (case hr => first | (go_simp; done) | (go_simp; rfl)); (case hp => exact (Reps.none _ _)); intro v38002 w5 ho6 hb hg_ hnew_; clear hg_ hnew_; (first | rw [← Ny38001.out] at ho6 | (simp only [Int.reduceToNat] at ho6; rw [← Ny38001.out] at ho6)); have n0_ := Aside0.mk (Kd.R_lower ho6 (below_size (by repeat (first | (with_reducible first | exact HB.out | apply below_alloc | apply pw_below_drewN | apply below_drew1) | exact HB.out)))); have n1_ := Aside0.mk (below_step (by repeat (first | (with_reducible first | exact HB.out | apply below_alloc | apply pw_below_drewN | apply below_drew1) | exact HB.out)) hb); clear HB; have HO38003 := n0_; have HB := n1_; clear n0_ n1_; clear hb ho6))
  (try simp only [Act.put, List.setIfInBounds_toArray, List.set_cons_zero, List.set_cons_succ])
  go_cut [33] (fun v33 wc => ∃ (kq : Nat) (x33_3 : Bool), v33 = .bool x33_3 ∧ Aside0 (spec_Periods.j0 kq a0 a1 a2 y38001 x33_3 = some r) ∧ Aside0 (kq ≤ k) ∧ Aside0 (Kd.R k84 84 wc w.heap.size (fun _ => True) v38002 y38001) ∧ Aside0 (Below w.heap.size w wc))
  case first =>
    have H := HC4.out
    clear HC4
    replace H := Option.bind_eq_some_iff.mp H
    obtain ⟨t38004, A70, H⟩ := H
    replace H : (if t38004 = true then ((spec_l1In.f a2 1 60).bind fun t38005 => (if t38005 = true then ((spec_l2Day.f a1).bind fun t38006 => (if t38006 = true then (if a0 = 1 then ((spec_DateOf.f k a1).bind fun bt38007 => (spec_Periods.j0 k a0 a1 a2 y38001 (bt38007.2.2 != 1))) else (spec_Periods.j0 k a0 a1 a2 y38001 false)) else (spec_Periods.j0 k a0 a1 a2 y38001 true))) else (spec_Periods.j0 k a0 a1 a2 y38001 true))) else (spec_Periods.j0 k a0 a1 a2 y38001 true)) = some r := H
    have A7 := Aside0.mk A70
    clear A70
    by_cases c8 : t38004 = true
    · subst c8
      have H1 : ((spec_l1In.f a2 1 60).bind fun t38005 => (if t38005 = true then ((spec_l2Day.f a1).bind fun t38006 => (if t38006 = true then (if a0 = 1 then ((spec_DateOf.f k a1).bind fun bt38007 => (spec_Periods.j0 k a0 a1 a2 y38001 (bt38007.2.2 != 1))) else (spec_Periods.j0 k a0 a1 a2 y38001 false)) else (spec_Periods.j0 k a0 a1 a2 y38001 true))) else (spec_Periods.j0 k a0 a1 a2 y38001 true))) = some r := by rw [if_pos rfl] at H; exact H
      clear H
      have H := H1
      clear H1
      replace H := Option.bind_eq_some_iff.mp H
      obtain ⟨t38005, A90, H⟩ := H
      replace H : (if t38005 = true then ((spec_l2Day.f a1).bind fun t38006 => (if t38006 = true then (if a0 = 1 then ((spec_DateOf.f k a1).bind fun bt38007 => (spec_Periods.j0 k a0 a1 a2 y38001 (bt38007.2.2 != 1))) else (spec_Periods.j0 k a0 a1 a2 y38001 false)) else (spec_Periods.j0 k a0 a1 a2 y38001 true))) else (spec_Periods.j0 k a0 a1 a2 y38001 true)) = some r := H
      have A9 := Aside0.mk A90
      clear A90
      by_cases c10 : t38005 = true
      · subst c10
        have H1 : ((spec_l2Day.f a1).bind fun t38006 => (if t38006 = true then (if a0 = 1 then ((spec_DateOf.f k a1).bind fun bt38007 => (spec_Periods.j0 k a0 a1 a2 y38001 (bt38007.2.2 != 1))) else (spec_Periods.j0 k a0 a1 a2 y38001 false)) else (spec_Periods.j0 k a0 a1 a2 y38001 true))) = some r := by rw [if_pos rfl] at H; exact H
        clear H
        have H := H1
        clear H1
        replace H := Option.bind_eq_some_iff.mp H
        obtain ⟨t38006, A110, H⟩ := H
        replace H : (if t38006 = true then (if a0 = 1 then ((spec_DateOf.f k a1).bind fun bt38007 => (spec_Periods.j0 k a0 a1 a2 y38001 (bt38007.2.2 != 1))) else (spec_Periods.j0 k a0 a1 a2 y38001 false)) else (spec_Periods.j0 k a0 a1 a2 y38001 true)) = some r := H
        have A11 := Aside0.mk A110
        clear A110
        by_cases c12 : t38006 = true
        · subst c12
          have H1 : (if a0 = 1 then ((spec_DateOf.f k a1).bind fun bt38007 => (spec_Periods.j0 k a0 a1 a2 y38001 (bt38007.2.2 != 1))) else (spec_Periods.j0 k a0 a1 a2 y38001 false)) = some r := by rw [if_pos rfl] at H; exact H
          clear H
          have H := H1
          clear H1
          by_cases c13 : a0 = 1
          · rw [if_pos c13] at H
            have c13b0 : (a0 == 1) = true := beq_iff_eq.mpr c13
            have c13b1 : (a0 != 1) = false := bne_eq_false_iff_eq.mpr c13
            clear c13
            (first | rw [c13b0] | (simp only [i64_w, i32_w]; rw [c13b0]) | skip)
            replace H := Option.bind_eq_some_iff.mp H
            obtain ⟨⟨t38007, t38008, t38009⟩, A140, H⟩ := H
            replace H : (spec_Periods.j0 k a0 a1 a2 y38001 (t38009 != 1)) = some r := H
            have A14 := Aside0.mk A140
            clear A140
            have H' := Aside0.mk H
            clear H
            go_wp2_with (first | ((with_reducible refine gate_callee (f := 44) rfl ?_); refine goesL_ (some 12) rfl rfl Try.func44 (by kernel_rfl) rfl #[.int .i64 a0, .int .i64 1, .int .i64 3] rfl (by (try simp only [List.map_toArray, List.map_cons, List.map_nil]); first | done | rfl | (simp only [List.length_drop, List.length_take]; rfl)) ?_; (with_reducible refine (spec_l1In.calls a0 1 3 true _ A7.out).mono ?_); rintro e w' ⟨rfl, ⟨nd, rfl⟩⟩; refine ⟨_, rfl, ?_⟩) | (go_at_call 44; (with_reducible refine (spec_l1In.calls a2 1 60 true _ A9.out).mono ?_); rintro e w' ⟨rfl, ⟨nd, rfl⟩⟩) | (go_at_call 48; (with_reducible refine (spec_l2Day.calls a1 true _ A11.out).mono ?_); rintro e w' ⟨rfl, ⟨nd, rfl⟩⟩) | (go_at_call 56; (with_reducible refine (spec_DateOf.calls k a1 t38007 t38008 t38009 _ A14.out).mono ?_); rintro e w15 ⟨rfl, hb⟩; have n0_ := Aside0.mk (Kd.R_below (by (with_reducible repeat (first | apply Kd.R_alloc | apply Kd.R_drewN | apply Kd.R_drew)); exact HO38003.out) hb); have n1_ := Aside0.mk (below_step (by repeat (first | (with_reducible first | exact HB.out | apply below_alloc | apply pw_below_drewN | apply below_drew1) | exact HB.out)) hb); clear HO38003; clear HB; have HO38003 := n0_; have HB := n1_; clear n0_ n1_; (try clear hb); (try clear hb2); (try clear hk); (try clear hi)))
            go_meet
            case rel => exact ⟨_, ((t38009 != 1)), (by first | rfl | (simp; done) | (simp [*]; done)), H', ⟨by first | omega | exact Nat.le_refl _⟩, ⟨by (with_reducible repeat (first | apply Kd.R_alloc | apply Kd.R_drewN | apply Kd.R_drew)); exact HO38003.out⟩, ⟨by repeat (first | (with_reducible first | exact HB.out | apply below_alloc | apply pw_below_drewN | apply below_drew1) | exact HB.out)⟩⟩
          · rw [if_neg c13] at H
            have c13b0 : (a0 == 1) = false := beq_eq_false_iff_ne.mpr c13
            have c13b1 : (a0 != 1) = true := bne_iff_ne.mpr c13
            (first | rw [c13b0] | (simp only [i64_w, i32_w]; rw [c13b0]) | skip)
            have H' := Aside0.mk H
            clear H
            go_wp2_with (first | ((with_reducible refine gate_callee (f := 44) rfl ?_); refine goesL_ (some 12) rfl rfl Try.func44 (by kernel_rfl) rfl #[.int .i64 a0, .int .i64 1, .int .i64 3] rfl (by (try simp only [List.map_toArray, List.map_cons, List.map_nil]); first | done | rfl | (simp only [List.length_drop, List.length_take]; rfl)) ?_; (with_reducible refine (spec_l1In.calls a0 1 3 true _ A7.out).mono ?_); rintro e w' ⟨rfl, ⟨nd, rfl⟩⟩; refine ⟨_, rfl, ?_⟩) | (go_at_call 44; (with_reducible refine (spec_l1In.calls a2 1 60 true _ A9.out).mono ?_); rintro e w' ⟨rfl, ⟨nd, rfl⟩⟩) | (go_at_call 48; (with_reducible refine (spec_l2Day.calls a1 true _ A11.out).mono ?_); rintro e w' ⟨rfl, ⟨nd, rfl⟩⟩))
            go_meet
            case rel => exact ⟨_, (false), (by first | rfl | (simp; done) | (simp [*]; done)), H', ⟨by first | omega | exact Nat.le_refl _⟩, ⟨by (with_reducible repeat (first | apply Kd.R_alloc | apply Kd.R_drewN | apply Kd.R_drew)); exact HO38003.out⟩, ⟨by repeat (first | (with_reducible first | exact HB.out | apply below_alloc | apply pw_below_drewN | apply below_drew1) | exact HB.out)⟩⟩
        · replace c12 := Bool.eq_false_iff.mpr c12
          subst c12
          have H1 : (spec_Periods.j0 k a0 a1 a2 y38001 true) = some r := by rw [if_neg (show ¬ (false = true) by decide)] at H; exact H
          clear H
          have H := H1
          clear H1
          have H' := Aside0.mk H
          clear H
          go_wp2_with (first | ((with_reducible refine gate_callee (f := 44) rfl ?_); refine goesL_ (some 12) rfl rfl Try.func44 (by kernel_rfl) rfl #[.int .i64 a0, .int .i64 1, .int .i64 3] rfl (by (try simp only [List.map_toArray, List.map_cons, List.map_nil]); first | done | rfl | (simp only [List.length_drop, List.length_take]; rfl)) ?_; (with_reducible refine (spec_l1In.calls a0 1 3 true _ A7.out).mono ?_); rintro e w' ⟨rfl, ⟨nd, rfl⟩⟩; refine ⟨_, rfl, ?_⟩) | (go_at_call 44; (with_reducible refine (spec_l1In.calls a2 1 60 true _ A9.out).mono ?_); rintro e w' ⟨rfl, ⟨nd, rfl⟩⟩) | (go_at_call 48; (with_reducible refine (spec_l2Day.calls a1 false _ A11.out).mono ?_); rintro e w' ⟨rfl, ⟨nd, rfl⟩⟩))
          go_meet
          case rel => exact ⟨_, (true), (by first | rfl | (simp; done) | (simp [*]; done)), H', ⟨by first | omega | exact Nat.le_refl _⟩, ⟨by (with_reducible repeat (first | apply Kd.R_alloc | apply Kd.R_drewN | apply Kd.R_drew)); exact HO38003.out⟩, ⟨by repeat (first | (with_reducible first | exact HB.out | apply below_alloc | apply pw_below_drewN | apply below_drew1) | exact HB.out)⟩⟩
      · replace c10 := Bool.eq_false_iff.mpr c10
        subst c10
        have H1 : (spec_Periods.j0 k a0 a1 a2 y38001 true) = some r := by rw [if_neg (show ¬ (false = true) by decide)] at H; exact H
        clear H
        have H := H1
        clear H1
        have H' := Aside0.mk H
        clear H
        go_wp2_with (first | ((with_reducible refine gate_callee (f := 44) rfl ?_); refine goesL_ (some 12) rfl rfl Try.func44 (by kernel_rfl) rfl #[.int .i64 a0, .int .i64 1, .int .i64 3] rfl (by (try simp only [List.map_toArray, List.map_cons, List.map_nil]); first | done | rfl | (simp only [List.length_drop, List.length_take]; rfl)) ?_; (with_reducible refine (spec_l1In.calls a0 1 3 true _ A7.out).mono ?_); rintro e w' ⟨rfl, ⟨nd, rfl⟩⟩; refine ⟨_, rfl, ?_⟩) | (go_at_call 44; (with_reducible refine (spec_l1In.calls a2 1 60 false _ A9.out).mono ?_); rintro e w' ⟨rfl, ⟨nd, rfl⟩⟩))
        go_meet
        case rel => exact ⟨_, (true), (by first | rfl | (simp; done) | (simp [*]; done)), H', ⟨by first | omega | exact Nat.le_refl _⟩, ⟨by (with_reducible repeat (first | apply Kd.R_alloc | apply Kd.R_drewN | apply Kd.R_drew)); exact HO38003.out⟩, ⟨by repeat (first | (with_reducible first | exact HB.out | apply below_alloc | apply pw_below_drewN | apply below_drew1) | exact HB.out)⟩⟩
    · replace c8 := Bool.eq_false_iff.mpr c8
      subst c8
      have H1 : (spec_Periods.j0 k a0 a1 a2 y38001 true) = some r := by rw [if_neg (show ¬ (false = true) by decide)] at H; exact H
      clear H
      have H := H1
      clear H1
      have H' := Aside0.mk H
      clear H
      go_wp2_with (first | ((with_reducible refine gate_callee (f := 44) rfl ?_); refine goesL_ (some 12) rfl rfl Try.func44 (by kernel_rfl) rfl #[.int .i64 a0, .int .i64 1, .int .i64 3] rfl (by (try simp only [List.map_toArray, List.map_cons, List.map_nil]); first | done | rfl | (simp only [List.length_drop, List.length_take]; rfl)) ?_; (with_reducible refine (spec_l1In.calls a0 1 3 false _ A7.out).mono ?_); rintro e w' ⟨rfl, ⟨nd, rfl⟩⟩; refine ⟨_, rfl, ?_⟩))
      go_meet
      case rel => exact ⟨_, (true), (by first | rfl | (simp; done) | (simp [*]; done)), H', ⟨by first | omega | exact Nat.le_refl _⟩, ⟨by (with_reducible repeat (first | apply Kd.R_alloc | apply Kd.R_drewN | apply Kd.R_drew)); exact HO38003.out⟩, ⟨by repeat (first | (with_reducible first | exact HB.out | apply below_alloc | apply pw_below_drewN | apply below_drew1) | exact HB.out)⟩⟩
  case rest =>
    clear HC4
    try clear c1
    try clear p2
    try clear c3
    try clear c4
    try clear c8
    try clear c10
    try clear c12
    try clear c13
    try clear c13b0
    try clear c13b1
    obtain ⟨kq, x33_3, rfl, HA, HJ3, HO_7, HB⟩ := hcut
    cases kq with
    | zero => exact absurd HA.out (by simp [spec_Periods.j0])
    | succ kj3 =>
      have H := HA.out
      clear HA
      simp only [spec_Periods.j0] at H
      by_cases c16 : x33_3 = true
      · subst c16
        have H1 : (some y38001) = some r := by rw [if_pos rfl] at H; exact H
        clear H
        have H := H1
        clear H1
        obtain rfl := Option.some.inj H
        go_wp2
        go_ret
        exact ⟨_, by first | rfl | (simp [errW_none, errW_some] <;> rfl) | (simp [*, errW_none, errW_some] <;> rfl), by (with_reducible repeat (first | apply Kd.R_alloc | apply Kd.R_drewN | apply Kd.R_drew)); exact HO_7.out, by repeat (first | (with_reducible first | exact HB.out | apply below_alloc | apply pw_below_drewN | apply below_drew1) | exact HB.out)⟩
      · replace c16 := Bool.eq_false_iff.mpr c16
        subst c16
        have H1 : (spec_Periods.l0 kj3 a0 a1 a2 y38001 0) = some r := by rw [if_neg (show ¬ (false = true) by decide)] at H; exact H
        clear H
        have H := H1
        clear H1
        have H' := Aside0.mk H
        clear H
        go_wp2
        go_loopg [1, 7, 8] kj3 (fun kq v1 v7 v8 w' => ∃ (x1_2 : Int) (x7_2 : List (S84)) (x8_2 : Int), v1 = .int .i64 x1_2 ∧ v8 = .int .i64 x8_2 ∧ Aside0 (spec_Periods.l0 kq a0 x1_2 a2 x7_2 x8_2 = some r) ∧ Aside0 (kq ≤ kj3) ∧ Aside0 (Kd.R k84 84 w' w.heap.size (fun _ => True) v7 x7_2) ∧ Aside0 (Below w.heap.size w w'))
        case atStart => exact ⟨(a1), (y38001), (0), (by first | rfl | (simp; done) | (simp [*]; done)), (by first | rfl | (simp; done) | (simp [*]; done)), H', ⟨Nat.le_refl _⟩, ⟨by (with_reducible repeat (first | apply Kd.R_alloc | apply Kd.R_drewN | apply Kd.R_drew)); exact HO_7.out⟩, ⟨by repeat (first | (with_reducible first | exact HB.out | apply below_alloc | apply pw_below_drewN | apply below_drew1) | exact HB.out)⟩⟩
        case round =>
          clear H'
          try clear c1
          try clear p2
          try clear c3
          try clear c4
          try clear c8
          try clear c10
          try clear c12
          try clear c13
          try clear c13b0
          try clear c13b1
          try clear c16
          try clear p2
          obtain ⟨x1_2, x7_2, x8_2, rfl, rfl, HA, HK2, HO_7, HB⟩ := hrel
          cases gk with
          | zero => exact absurd HA.out (by simp [spec_Periods.l0])
          | succ k2 =>
            have H := HA.out
            clear HA
            simp only [spec_Periods.l0] at H
            by_cases c17 : x8_2 < a2
            · rw [if_pos c17] at H
              have c17b0 : decide (x8_2 < a2) = true := decide_eq_true c17
              clear c17
              have HC18 := Aside0.mk H
              clear H
              go_upto_region 8 with (fail)
              go_cut [48] (fun v48 wc => ∃ (kq : Nat) (x48_17 : Bool), v48 = .bool x48_17 ∧ Aside0 (spec_Periods.j2 kq a0 x1_2 a2 x7_2 x8_2 (wrap64 (x1_2 + 27)) x48_17 = some r) ∧ Aside0 (kq ≤ k2) ∧ Aside0 (Kd.R k84 84 wc w.heap.size (fun _ => True) u7 x7_2) ∧ Aside0 (Below w.heap.size w wc))
              case first =>
                have H := HC18.out
                clear HC18
                by_cases c19 : a0 = 2
                · rw [if_pos c19] at H
                  have c19b0 : (a0 == 2) = true := beq_iff_eq.mpr c19
                  have c19b1 : (a0 != 2) = false := bne_eq_false_iff_eq.mpr c19
                  clear c19
                  (first | rw [c19b0] | (simp only [i64_w, i32_w]; rw [c19b0]) | skip)
                  have H' := Aside0.mk H
                  clear H
                  go_wp2
                  go_meet
                  case rel => exact ⟨_, (((Int.tmod x8_2 3) == 2)), (by first | rfl | (simp; done) | (simp [*]; done)), H', ⟨by have := HJ3.out; have := HK2.out; first | omega | exact Nat.le_refl _⟩, ⟨by (with_reducible repeat (first | apply Kd.R_alloc | apply Kd.R_drewN | apply Kd.R_drew)); exact HO_7.out⟩, ⟨by repeat (first | (with_reducible first | exact HB.out | apply below_alloc | apply pw_below_drewN | apply below_drew1) | exact HB.out)⟩⟩
                · rw [if_neg c19] at H
                  have c19b0 : (a0 == 2) = false := beq_eq_false_iff_ne.mpr c19
                  have c19b1 : (a0 != 2) = true := bne_iff_ne.mpr c19
                  (first | rw [c19b0] | (simp only [i64_w, i32_w]; rw [c19b0]) | skip)
                  have H' := Aside0.mk H
                  clear H
                  go_wp2
                  go_meet
                  case rel => exact ⟨_, (false), (by first | rfl | (simp; done) | (simp [*]; done)), H', ⟨by have := HJ3.out; have := HK2.out; first | omega | exact Nat.le_refl _⟩, ⟨by (with_reducible repeat (first | apply Kd.R_alloc | apply Kd.R_drewN | apply Kd.R_drew)); exact HO_7.out⟩, ⟨by repeat (first | (with_reducible first | exact HB.out | apply below_alloc | apply pw_below_drewN | apply below_drew1) | exact HB.out)⟩⟩
              case rest =>
                clear HC18
                try clear c1
                try clear p2
                try clear c3
                try clear c4
                try clear p6
                try clear c8
                try clear c10
                try clear c12
                try clear c13
                try clear c13b0
                try clear c13b1
                try clear c16
                try clear c17
                try clear c17b0
                try clear c19
                try clear c19b0
                try clear c19b1
                try clear p2
                obtain ⟨kq, x48_17, rfl, HA, HJ17, HO_7, HB⟩ := hcut
                cases kq with
                | zero => exact absurd HA.out (by simp [spec_Periods.j2])
                | succ kj17 =>
                  have H := HA.out
                  clear HA
                  simp only [spec_Periods.j2] at H
                  have HC20 := Aside0.mk H
                  clear H
                  go_upto_if 48 with (fail)
                  go_cut [9] (fun v9 wc => ∃ (kq : Nat) (x9_19 : Int), v9 = .int .i64 x9_19 ∧ Aside0 (spec_Periods.j3 kq a0 x1_2 a2 x7_2 x8_2 x9_19 = some r) ∧ Aside0 (kq ≤ kj17) ∧ Aside0 (Kd.R k84 84 wc w.heap.size (fun _ => True) u7 x7_2) ∧ Aside0 (Below w.heap.size w wc))
                  case first =>
                    have H := HC20.out
                    clear HC20
                    by_cases c21 : x48_17 = true
                    · subst c21
                      have H1 : (spec_Periods.j3 kj17 a0 x1_2 a2 x7_2 x8_2 (wrap64 (x1_2 + 34))) = some r := by rw [if_pos rfl] at H; exact H
                      clear H
                      have H := H1
                      clear H1
                      have H' := Aside0.mk H
                      clear H
                      go_wp2
                      go_meet
                      case rel => exact ⟨_, (wrap64 (x1_2 + 34)), (by first | rfl | (simp; done) | (simp [*]; done)), H', ⟨by have := HJ3.out; have := HK2.out; have := HJ17.out; first | omega | exact Nat.le_refl _⟩, ⟨by (with_reducible repeat (first | apply Kd.R_alloc | apply Kd.R_drewN | apply Kd.R_drew)); exact HO_7.out⟩, ⟨by repeat (first | (with_reducible first | exact HB.out | apply below_alloc | apply pw_below_drewN | apply below_drew1) | exact HB.out)⟩⟩
                    · replace c21 := Bool.eq_false_iff.mpr c21
                      subst c21
                      have H1 : (spec_Periods.j3 kj17 a0 x1_2 a2 x7_2 x8_2 (wrap64 (x1_2 + 27))) = some r := by rw [if_neg (show ¬ (false = true) by decide)] at H; exact H
                      clear H
                      have H := H1
                      clear H1
                      have H' := Aside0.mk H
                      clear H
                      go_wp2
                      go_meet
                      case rel => exact ⟨_, ((wrap64 (x1_2 + 27))), (by first | rfl | (simp; done) | (simp [*]; done)), H', ⟨by have := HJ3.out; have := HK2.out; have := HJ17.out; first | omega | exact Nat.le_refl _⟩, ⟨by (with_reducible repeat (first | apply Kd.R_alloc | apply Kd.R_drewN | apply Kd.R_drew)); exact HO_7.out⟩, ⟨by repeat (first | (with_reducible first | exact HB.out | apply below_alloc | apply pw_below_drewN | apply below_drew1) | exact HB.out)⟩⟩
                  case rest =>
                    clear HC20
                    try clear c1
                    try clear c2
                    try clear p2
                    try clear c3
                    try clear c4
                    try clear p6
                    try clear c8
                    try clear c10
                    try clear c12
                    try clear c13
                    try clear c13b0
                    try clear c13b1
                    try clear c16
                    try clear c17
                    try clear c17b0
                    try clear c19
                    try clear c19b0
                    try clear c19b1
                    try clear c21
                    try clear p2
                    try clear p6
                    obtain ⟨kq, x9_19, rfl, HA, HJ19, HO_7, HB⟩ := hcut
                    cases kq with
                    | zero => exact absurd HA.out (by simp [spec_Periods.j3])
                    | succ kj19 =>
                      have H := HA.out
                      clear HA
                      simp only [spec_Periods.j3] at H
                      by_cases c22 : a0 = 1
                      · rw [if_pos c22] at H
                        have c22b0 : (a0 == 1) = true := beq_iff_eq.mpr c22
                        have c22b1 : (a0 != 1) = false := bne_eq_false_iff_eq.mpr c22
                        clear c22
                        replace H := Option.bind_eq_some_iff.mp H
                        obtain ⟨t38010, A230, H⟩ := H
                        replace H : (if t38010 = true then ((spec_MonthEnd.f kj19 x1_2).bind fun t38014 => ((spec_l2Day.f t38014).bind fun t38015 => (if t38015 = true then (if x7_2.length < 8796093022208 then (spec_Periods.l0 kj19 a0 (wrap64 (t38014 + 1)) a2 (x7_2 ++ [(⟨x1_2, t38014⟩ : S84)]) (wrap64 (x8_2 + 1))) else (none)) else (some (([] : List (S84))))))) else (some (([] : List (S84))))) = some r := H
                        have A23 := Aside0.mk A230
                        clear A230
                        by_cases c24 : t38010 = true
                        · subst c24
                          have H1 : ((spec_MonthEnd.f kj19 x1_2).bind fun t38014 => ((spec_l2Day.f t38014).bind fun t38015 => (if t38015 = true then (if x7_2.length < 8796093022208 then (spec_Periods.l0 kj19 a0 (wrap64 (t38014 + 1)) a2 (x7_2 ++ [(⟨x1_2, t38014⟩ : S84)]) (wrap64 (x8_2 + 1))) else (none)) else (some (([] : List (S84))))))) = some r := by rw [if_pos rfl] at H; exact H
                          clear H
                          have H := H1
                          clear H1
                          replace H := Option.bind_eq_some_iff.mp H
                          obtain ⟨t38014, A250, H⟩ := H
                          replace H : ((spec_l2Day.f t38014).bind fun t38015 => (if t38015 = true then (if x7_2.length < 8796093022208 then (spec_Periods.l0 kj19 a0 (wrap64 (t38014 + 1)) a2 (x7_2 ++ [(⟨x1_2, t38014⟩ : S84)]) (wrap64 (x8_2 + 1))) else (none)) else (some (([] : List (S84)))))) = some r := H
                          have A25 := Aside0.mk A250
                          clear A250
                          replace H := Option.bind_eq_some_iff.mp H
                          obtain ⟨t38015, A260, H⟩ := H
                          replace H : (if t38015 = true then (if x7_2.length < 8796093022208 then (spec_Periods.l0 kj19 a0 (wrap64 (t38014 + 1)) a2 (x7_2 ++ [(⟨x1_2, t38014⟩ : S84)]) (wrap64 (x8_2 + 1))) else (none)) else (some (([] : List (S84))))) = some r := H
                          have A26 := Aside0.mk A260
                          clear A260
                          by_cases c27 : t38015 = true
                          · subst c27
                            have H1 : (if x7_2.length < 8796093022208 then (spec_Periods.l0 kj19 a0 (wrap64 (t38014 + 1)) a2 (x7_2 ++ [(⟨x1_2, t38014⟩ : S84)]) (wrap64 (x8_2 + 1))) else (none)) = some r := by rw [if_pos rfl] at H; exact H
                            clear H
                            have H := H1
                            clear H1
                            by_cases c28 : x7_2.length < 8796093022208
                            · rw [if_pos c28] at H
                              have LMc28 := Aside0.mk c28
                              clear c28
                              obtain ⟨y38016, hy38016⟩ : ∃ y_ : List (S84), y_ = (x7_2 ++ [(⟨x1_2, t38014⟩ : S84)]) := ⟨_, rfl⟩
                              replace H : (spec_Periods.l0 kj19 a0 (wrap64 (t38014 + 1)) a2 y38016 (wrap64 (x8_2 + 1))) = some r := by first | (rw [hy38016]; with_reducible exact H) | (have H2_ := (Option.bind_some _ _).symm.trans H; rw [hy38016]; with_reducible exact H2_) | (have H2_ := (Option.bind_some _ _).symm.trans H; with_reducible exact H2_) | with_reducible exact H | (rw [hy38016]; exact H) | exact H
                              have Ny38016 := Aside0.mk hy38016
                              clear hy38016
                              have H' := Aside0.mk H
                              clear H
                              go_wp2_with (first | ((with_reducible refine gate_callee (f := 48) rfl ?_); refine goesL_ (some 54) rfl rfl Try.func48 (by kernel_rfl) rfl #[.int .i64 x1_2] rfl (by (try simp only [List.map_toArray, List.map_cons, List.map_nil]); first | done | rfl | (simp only [List.length_drop, List.length_take]; rfl)) ?_; (with_reducible refine (spec_l2Day.calls x1_2 true _ A23.out).mono ?_); rintro e w' ⟨rfl, ⟨nd, rfl⟩⟩; refine ⟨_, rfl, ?_⟩) | ((with_reducible refine gate_callee (f := 57) rfl ?_); refine goesL_ (some 58) rfl rfl Try.func57 (by kernel_rfl) rfl #[.int .i64 x1_2] rfl (by (try simp only [List.map_toArray, List.map_cons, List.map_nil]); first | done | rfl | (simp only [List.length_drop, List.length_take]; rfl)) ?_; (with_reducible refine (spec_MonthEnd.calls kj19 x1_2 t38014 _ A25.out).mono ?_); rintro e w29 ⟨rfl, hb⟩; refine ⟨_, rfl, ?_⟩; have n0_ := Aside0.mk (Kd.R_below (by (with_reducible repeat (first | apply Kd.R_alloc | apply Kd.R_drewN | apply Kd.R_drew)); exact HO_7.out) hb); have n1_ := Aside0.mk (below_step (by repeat (first | (with_reducible first | exact HB.out | apply below_alloc | apply pw_below_drewN | apply below_drew1) | exact HB.out)) hb); clear HO_7; clear HB; have HO_7 := n0_; have HB := n1_; clear n0_ n1_; (try clear hb); (try clear hb2); (try clear hk); (try clear hi)) | ((with_reducible refine gate_callee (f := 48) rfl ?_); refine goesL_ (some 60) rfl rfl Try.func48 (by kernel_rfl) rfl #[.int .i64 t38014] rfl (by (try simp only [List.map_toArray, List.map_cons, List.map_nil]); first | done | rfl | (simp only [List.length_drop, List.length_take]; rfl)) ?_; (with_reducible refine (spec_l2Day.calls t38014 true _ A26.out).mono ?_); rintro e w' ⟨rfl, ⟨nd, rfl⟩⟩; refine ⟨_, rfl, ?_⟩) | ((with_reducible refine gate_builtin (b := .append) (xs := #[.tmp 63, .tmp 67]) rfl ?_); at_builtin; refine Kd.R_append k84 (w0 := w) w.heap.size rfl (.tmp 63) (.tmp 67) 30 84 (.agg #[(.int .i64 0), (.int .i64 0)]) 16 rfl Try.underlying30 info84 rfl (by decide) (by omega) u7 x7_2 (⟨x1_2, t38014⟩ : S84) [.int .i64 x1_2, .int .i64 t38014] (fun _ => True) (fun _ => False) rfl rfl ?aP (fun _ hk => hk.elim) ?aF ?aO ?aB ?aS ?aL ?_; (case aP => exact k84_mkM _ _ _ (⟨x1_2, t38014⟩ : S84)); (case aB => exact (by repeat (first | (with_reducible first | exact HB.out | apply below_alloc | apply pw_below_drewN | apply below_drew1) | exact HB.out))); (case aF => exact (fun _ _ => trivial)); (case aO => exact (by (with_reducible repeat (first | apply Kd.R_alloc | apply Kd.R_drewN | apply Kd.R_drew)); exact HO_7.out)); (case aS => exact (below_size (by repeat (first | (with_reducible first | exact HB.out | apply below_alloc | apply pw_below_drewN | apply below_drew1) | exact HB.out)))); (case aL => have := LMc28.out; omega); intro v38017 w30 ho hb hg hat; rw [← Ny38016.out] at ho; have n0_ := Aside0.mk (hb); have n1_ := Aside0.mk (ho); clear HB; clear HO_7; have HB := n0_; have HO38018 := n1_; clear n0_ n1_; clear ho hb hg hat))
                              go_roundg kj19
                              case measure => have := HJ3.out; have := HK2.out; have := HJ17.out; have := HJ19.out; omega
                              case rel => exact ⟨(wrap64 (t38014 + 1)), (y38016), (wrap64 (x8_2 + 1)), (by first | rfl | (simp; done) | (simp [*]; done)), (by first | rfl | (simp; done) | (simp [*]; done)), H', ⟨by have := HJ3.out; have := HK2.out; have := HJ17.out; have := HJ19.out; omega⟩, ⟨by (with_reducible repeat (first | apply Kd.R_alloc | apply Kd.R_drewN | apply Kd.R_drew)); exact HO38018.out⟩, ⟨by repeat (first | (with_reducible first | exact HB.out | apply below_alloc | apply pw_below_drewN | apply below_drew1) | exact HB.out)⟩⟩
                            · rw [if_neg c28] at H
                              exact absurd H (by simp)
                          · replace c27 := Bool.eq_false_iff.mpr c27
                            subst c27
                            have H1 : (some (([] : List (S84)))) = some r := by rw [if_neg (show ¬ (false = true) by decide)] at H; exact H
                            clear H
                            have H := H1
                            clear H1
                            obtain ⟨y38019, hy38019⟩ : ∃ y_ : List (S84), y_ = (([] : List (S84))) := ⟨_, rfl⟩
                            replace H : (some y38019) = some r := by first | (rw [hy38019]; with_reducible exact H) | (have H2_ := (Option.bind_some _ _).symm.trans H; rw [hy38019]; with_reducible exact H2_) | (have H2_ := (Option.bind_some _ _).symm.trans H; with_reducible exact H2_) | with_reducible exact H | (rw [hy38019]; exact H) | exact H
                            have Ny38019 := Aside0.mk hy38019
                            clear hy38019
                            obtain rfl := Option.some.inj H
                            go_wp2_with (first | ((with_reducible refine gate_callee (f := 48) rfl ?_); refine goesL_ (some 54) rfl rfl Try.func48 (by kernel_rfl) rfl #[.int .i64 x1_2] rfl (by (try simp only [List.map_toArray, List.map_cons, List.map_nil]); first | done | rfl | (simp only [List.length_drop, List.length_take]; rfl)) ?_; (with_reducible refine (spec_l2Day.calls x1_2 true _ A23.out).mono ?_); rintro e w' ⟨rfl, ⟨nd, rfl⟩⟩; refine ⟨_, rfl, ?_⟩) | ((with_reducible refine gate_callee (f := 57) rfl ?_); refine goesL_ (some 58) rfl rfl Try.func57 (by kernel_rfl) rfl #[.int .i64 x1_2] rfl (by (try simp only [List.map_toArray, List.map_cons, List.map_nil]); first | done | rfl | (simp only [List.length_drop, List.length_take]; rfl)) ?_; (with_reducible refine (spec_MonthEnd.calls kj19 x1_2 t38014 _ A25.out).mono ?_); rintro e w31 ⟨rfl, hb⟩; refine ⟨_, rfl, ?_⟩; have n0_ := Aside0.mk (Kd.R_below (by (with_reducible repeat (first | apply Kd.R_alloc | apply Kd.R_drewN | apply Kd.R_drew)); exact HO_7.out) hb); have n1_ := Aside0.mk (below_step (by repeat (first | (with_reducible first | exact HB.out | apply below_alloc | apply pw_below_drewN | apply below_drew1) | exact HB.out)) hb); clear HO_7; clear HB; have HO_7 := n0_; have HB := n1_; clear n0_ n1_; (try clear hb); (try clear hb2); (try clear hk); (try clear hi)) | ((with_reducible refine gate_callee (f := 48) rfl ?_); refine goesL_ (some 60) rfl rfl Try.func48 (by kernel_rfl) rfl #[.int .i64 t38014] rfl (by (try simp only [List.map_toArray, List.map_cons, List.map_nil]); first | done | rfl | (simp only [List.length_drop, List.length_take]; rfl)) ?_; (with_reducible refine (spec_l2Day.calls t38014 false _ A26.out).mono ?_); rintro e w' ⟨rfl, ⟨nd, rfl⟩⟩; refine ⟨_, rfl, ?_⟩) | ((with_reducible refine gate_dst (N := 62) rfl ?_); refine Kd.R_lit k84 _ 84 ?hg (N := 62) ?hd (xs := ([] : List (S84))) (inner := []) (ok := fun _ => True) (okp := fun _ => True) ?hr ?hp (fun _ hk => hk) trivial (Below.refl _ _) (Nat.le_refl _) (by simp) ?_; (case hd => rfl); (case hg => rfl); (case hr => first | (go_simp; done) | (go_simp; rfl)); (case hp => exact (Reps.none _ _)); intro v38020 w32 ho33 hb hg_ hnew_; clear hg_ hnew_; (first | rw [← Ny38019.out] at ho33 | (simp only [Int.reduceToNat] at ho33; rw [← Ny38019.out] at ho33)); have n0_ := Aside0.mk (Kd.R_elder' (by (with_reducible repeat (first | apply Kd.R_alloc | apply Kd.R_drewN | apply Kd.R_drew)); exact HO_7.out) (Kd.R_base ho33) hb); have n1_ := Aside0.mk (Kd.R_lower (Kd.R_new' ho33 (Kd.R_lt (by (with_reducible repeat (first | apply Kd.R_alloc | apply Kd.R_drewN | apply Kd.R_drew)); exact HO_7.out))) (below_size (by repeat (first | (with_reducible first | exact HB.out | apply below_alloc | apply pw_below_drewN | apply below_drew1) | exact HB.out)))); have n2_ := Aside0.mk (below_step (by repeat (first | (with_reducible first | exact HB.out | apply below_alloc | apply pw_below_drewN | apply below_drew1) | exact HB.out)) hb); clear HO_7; clear HB; have HO_7 := n0_; have HO38021 := n1_; have HB := n2_; clear n0_ n1_ n2_; clear hb ho33))
                            go_ret
                            exact ⟨_, by first | rfl | (simp [errW_none, errW_some] <;> rfl) | (simp [*, errW_none, errW_some] <;> rfl), by (with_reducible repeat (first | apply Kd.R_alloc | apply Kd.R_drewN | apply Kd.R_drew)); exact Kd.R_mono HO38021.out (fun _ hk => trivial), by repeat (first | (with_reducible first | exact HB.out | apply below_alloc | apply pw_below_drewN | apply below_drew1) | exact HB.out)⟩
                        · replace c24 := Bool.eq_false_iff.mpr c24
                          subst c24
                          have H1 : (some (([] : List (S84)))) = some r := by rw [if_neg (show ¬ (false = true) by decide)] at H; exact H
                          clear H
                          have H := H1
                          clear H1
                          obtain ⟨y38011, hy38011⟩ : ∃ y_ : List (S84), y_ = (([] : List (S84))) := ⟨_, rfl⟩
                          replace H : (some y38011) = some r := by first | (rw [hy38011]; with_reducible exact H) | (have H2_ := (Option.bind_some _ _).symm.trans H; rw [hy38011]; with_reducible exact H2_) | (have H2_ := (Option.bind_some _ _).symm.trans H; with_reducible exact H2_) | with_reducible exact H | (rw [hy38011]; exact H) | exact H
                          have Ny38011 := Aside0.mk hy38011
                          clear hy38011
                          obtain rfl := Option.some.inj H
                          go_wp2_with (first | ((with_reducible refine gate_callee (f := 48) rfl ?_); refine goesL_ (some 54) rfl rfl Try.func48 (by kernel_rfl) rfl #[.int .i64 x1_2] rfl (by (try simp only [List.map_toArray, List.map_cons, List.map_nil]); first | done | rfl | (simp only [List.length_drop, List.length_take]; rfl)) ?_; (with_reducible refine (spec_l2Day.calls x1_2 false _ A23.out).mono ?_); rintro e w' ⟨rfl, ⟨nd, rfl⟩⟩; refine ⟨_, rfl, ?_⟩) | ((with_reducible refine gate_dst (N := 56) rfl ?_); refine Kd.R_lit k84 _ 84 ?hg (N := 56) ?hd (xs := ([] : List (S84))) (inner := []) (ok := fun _ => True) (okp := fun _ => True) ?hr ?hp (fun _ hk => hk) trivial (Below.refl _ _) (Nat.le_refl _) (by simp) ?_; (case hd => rfl); (case hg => rfl); (case hr => first | (go_simp; done) | (go_simp; rfl)); (case hp => exact (Reps.none _ _)); intro v38012 w34 ho35 hb hg_ hnew_; clear hg_ hnew_; (first | rw [← Ny38011.out] at ho35 | (simp only [Int.reduceToNat] at ho35; rw [← Ny38011.out] at ho35)); have n0_ := Aside0.mk (Kd.R_elder' (by (with_reducible repeat (first | apply Kd.R_alloc | apply Kd.R_drewN | apply Kd.R_drew)); exact HO_7.out) (Kd.R_base ho35) hb); have n1_ := Aside0.mk (Kd.R_lower (Kd.R_new' ho35 (Kd.R_lt (by (with_reducible repeat (first | apply Kd.R_alloc | apply Kd.R_drewN | apply Kd.R_drew)); exact HO_7.out))) (below_size (by repeat (first | (with_reducible first | exact HB.out | apply below_alloc | apply pw_below_drewN | apply below_drew1) | exact HB.out)))); have n2_ := Aside0.mk (below_step (by repeat (first | (with_reducible first | exact HB.out | apply below_alloc | apply pw_below_drewN | apply below_drew1) | exact HB.out)) hb); clear HO_7; clear HB; have HO_7 := n0_; have HO38013 := n1_; have HB := n2_; clear n0_ n1_ n2_; clear hb ho35))
                          go_ret
                          exact ⟨_, by first | rfl | (simp [errW_none, errW_some] <;> rfl) | (simp [*, errW_none, errW_some] <;> rfl), by (with_reducible repeat (first | apply Kd.R_alloc | apply Kd.R_drewN | apply Kd.R_drew)); exact Kd.R_mono HO38013.out (fun _ hk => trivial), by repeat (first | (with_reducible first | exact HB.out | apply below_alloc | apply pw_below_drewN | apply below_drew1) | exact HB.out)⟩
                      · rw [if_neg c22] at H
                        have c22b0 : (a0 == 1) = false := beq_eq_false_iff_ne.mpr c22
                        have c22b1 : (a0 != 1) = true := bne_iff_ne.mpr c22
                        replace H := Option.bind_eq_some_iff.mp H
                        obtain ⟨t38022, A360, H⟩ := H
                        replace H : (if t38022 = true then (if x7_2.length < 8796093022208 then (spec_Periods.l0 kj19 a0 (wrap64 (x9_19 + 1)) a2 (x7_2 ++ [(⟨x1_2, x9_19⟩ : S84)]) (wrap64 (x8_2 + 1))) else (none)) else (some (([] : List (S84))))) = some r := H
                        have A36 := Aside0.mk A360
                        clear A360
                        by_cases c37 : t38022 = true
                        · subst c37
                          have H1 : (if x7_2.length < 8796093022208 then (spec_Periods.l0 kj19 a0 (wrap64 (x9_19 + 1)) a2 (x7_2 ++ [(⟨x1_2, x9_19⟩ : S84)]) (wrap64 (x8_2 + 1))) else (none)) = some r := by rw [if_pos rfl] at H; exact H
                          clear H
                          have H := H1
                          clear H1
                          by_cases c38 : x7_2.length < 8796093022208
                          · rw [if_pos c38] at H
                            have LMc38 := Aside0.mk c38
                            clear c38
                            obtain ⟨y38023, hy38023⟩ : ∃ y_ : List (S84), y_ = (x7_2 ++ [(⟨x1_2, x9_19⟩ : S84)]) := ⟨_, rfl⟩
                            replace H : (spec_Periods.l0 kj19 a0 (wrap64 (x9_19 + 1)) a2 y38023 (wrap64 (x8_2 + 1))) = some r := by first | (rw [hy38023]; with_reducible exact H) | (have H2_ := (Option.bind_some _ _).symm.trans H; rw [hy38023]; with_reducible exact H2_) | (have H2_ := (Option.bind_some _ _).symm.trans H; with_reducible exact H2_) | with_reducible exact H | (rw [hy38023]; exact H) | exact H
                            have Ny38023 := Aside0.mk hy38023
                            clear hy38023
                            have H' := Aside0.mk H
                            clear H
                            go_wp2_with (first | ((with_reducible refine gate_callee (f := 48) rfl ?_); refine goesL_ (some 60) rfl rfl Try.func48 (by kernel_rfl) rfl #[.int .i64 x9_19] rfl (by (try simp only [List.map_toArray, List.map_cons, List.map_nil]); first | done | rfl | (simp only [List.length_drop, List.length_take]; rfl)) ?_; (with_reducible refine (spec_l2Day.calls x9_19 true _ A36.out).mono ?_); rintro e w' ⟨rfl, ⟨nd, rfl⟩⟩; refine ⟨_, rfl, ?_⟩) | ((with_reducible refine gate_builtin (b := .append) (xs := #[.tmp 63, .tmp 67]) rfl ?_); at_builtin; refine Kd.R_append k84 (w0 := w) w.heap.size rfl (.tmp 63) (.tmp 67) 30 84 (.agg #[(.int .i64 0), (.int .i64 0)]) 16 rfl Try.underlying30 info84 rfl (by decide) (by omega) u7 x7_2 (⟨x1_2, x9_19⟩ : S84) [.int .i64 x1_2, .int .i64 x9_19] (fun _ => True) (fun _ => False) rfl rfl ?aP (fun _ hk => hk.elim) ?aF ?aO ?aB ?aS ?aL ?_; (case aP => exact k84_mkM _ _ _ (⟨x1_2, x9_19⟩ : S84)); (case aB => exact (by repeat (first | (with_reducible first | exact HB.out | apply below_alloc | apply pw_below_drewN | apply below_drew1) | exact HB.out))); (case aF => exact (fun _ _ => trivial)); (case aO => exact (by (with_reducible repeat (first | apply Kd.R_alloc | apply Kd.R_drewN | apply Kd.R_drew)); exact HO_7.out)); (case aS => exact (below_size (by repeat (first | (with_reducible first | exact HB.out | apply below_alloc | apply pw_below_drewN | apply below_drew1) | exact HB.out)))); (case aL => have := LMc38.out; omega); intro v38024 w39 ho hb hg hat; rw [← Ny38023.out] at ho; have n0_ := Aside0.mk (hb); have n1_ := Aside0.mk (ho); clear HB; clear HO_7; have HB := n0_; have HO38025 := n1_; clear n0_ n1_; clear ho hb hg hat))
                            go_roundg kj19
                            case measure => have := HJ3.out; have := HK2.out; have := HJ17.out; have := HJ19.out; omega
                            case rel => exact ⟨(wrap64 (x9_19 + 1)), (y38023), (wrap64 (x8_2 + 1)), (by first | rfl | (simp; done) | (simp [*]; done)), (by first | rfl | (simp; done) | (simp [*]; done)), H', ⟨by have := HJ3.out; have := HK2.out; have := HJ17.out; have := HJ19.out; omega⟩, ⟨by (with_reducible repeat (first | apply Kd.R_alloc | apply Kd.R_drewN | apply Kd.R_drew)); exact HO38025.out⟩, ⟨by repeat (first | (with_reducible first | exact HB.out | apply below_alloc | apply pw_below_drewN | apply below_drew1) | exact HB.out)⟩⟩
                          · rw [if_neg c38] at H
                            exact absurd H (by simp)
                        · replace c37 := Bool.eq_false_iff.mpr c37
                          subst c37
                          have H1 : (some (([] : List (S84)))) = some r := by rw [if_neg (show ¬ (false = true) by decide)] at H; exact H
                          clear H
                          have H := H1
                          clear H1
                          obtain ⟨y38026, hy38026⟩ : ∃ y_ : List (S84), y_ = (([] : List (S84))) := ⟨_, rfl⟩
                          replace H : (some y38026) = some r := by first | (rw [hy38026]; with_reducible exact H) | (have H2_ := (Option.bind_some _ _).symm.trans H; rw [hy38026]; with_reducible exact H2_) | (have H2_ := (Option.bind_some _ _).symm.trans H; with_reducible exact H2_) | with_reducible exact H | (rw [hy38026]; exact H) | exact H
                          have Ny38026 := Aside0.mk hy38026
                          clear hy38026
                          obtain rfl := Option.some.inj H
                          go_wp2_with (first | ((with_reducible refine gate_callee (f := 48) rfl ?_); refine goesL_ (some 60) rfl rfl Try.func48 (by kernel_rfl) rfl #[.int .i64 x9_19] rfl (by (try simp only [List.map_toArray, List.map_cons, List.map_nil]); first | done | rfl | (simp only [List.length_drop, List.length_take]; rfl)) ?_; (with_reducible refine (spec_l2Day.calls x9_19 false _ A36.out).mono ?_); rintro e w' ⟨rfl, ⟨nd, rfl⟩⟩; refine ⟨_, rfl, ?_⟩) | ((with_reducible refine gate_dst (N := 62) rfl ?_); refine Kd.R_lit k84 _ 84 ?hg (N := 62) ?hd (xs := ([] : List (S84))) (inner := []) (ok := fun _ => True) (okp := fun _ => True) ?hr ?hp (fun _ hk => hk) trivial (Below.refl _ _) (Nat.le_refl _) (by simp) ?_; (case hd => rfl); (case hg => rfl); (case hr => first | (go_simp; done) | (go_simp; rfl)); (case hp => exact (Reps.none _ _)); intro v38027 w40 ho41 hb hg_ hnew_; clear hg_ hnew_; (first | rw [← Ny38026.out] at ho41 | (simp only [Int.reduceToNat] at ho41; rw [← Ny38026.out] at ho41)); have n0_ := Aside0.mk (Kd.R_elder' (by (with_reducible repeat (first | apply Kd.R_alloc | apply Kd.R_drewN | apply Kd.R_drew)); exact HO_7.out) (Kd.R_base ho41) hb); have n1_ := Aside0.mk (Kd.R_lower (Kd.R_new' ho41 (Kd.R_lt (by (with_reducible repeat (first | apply Kd.R_alloc | apply Kd.R_drewN | apply Kd.R_drew)); exact HO_7.out))) (below_size (by repeat (first | (with_reducible first | exact HB.out | apply below_alloc | apply pw_below_drewN | apply below_drew1) | exact HB.out)))); have n2_ := Aside0.mk (below_step (by repeat (first | (with_reducible first | exact HB.out | apply below_alloc | apply pw_below_drewN | apply below_drew1) | exact HB.out)) hb); clear HO_7; clear HB; have HO_7 := n0_; have HO38028 := n1_; have HB := n2_; clear n0_ n1_ n2_; clear hb ho41))
                          go_ret
                          exact ⟨_, by first | rfl | (simp [errW_none, errW_some] <;> rfl) | (simp [*, errW_none, errW_some] <;> rfl), by (with_reducible repeat (first | apply Kd.R_alloc | apply Kd.R_drewN | apply Kd.R_drew)); exact Kd.R_mono HO38028.out (fun _ hk => trivial), by repeat (first | (with_reducible first | exact HB.out | apply below_alloc | apply pw_below_drewN | apply below_drew1) | exact HB.out)⟩
            · rw [if_neg c17] at H
              have c17b0 : decide (x8_2 < a2) = false := decide_eq_false c17
              clear c17
              obtain rfl := Option.some.inj H
              go_wp2
              go_ret
              exact ⟨_, by first | rfl | (simp [errW_none, errW_some] <;> rfl) | (simp [*, errW_none, errW_some] <;> rfl), by (with_reducible repeat (first | apply Kd.R_alloc | apply Kd.R_drewN | apply Kd.R_drew)); exact HO_7.out, by repeat (first | (with_reducible first | exact HB.out | apply below_alloc | apply pw_below_drewN | apply below_drew1) | exact HB.out)⟩
end Go.Proofs.Ytjnibbkjoclboaa.Q
