/- Parts of the proof: what functions of the program and of the reference answer.
   No condition. -/
import Derived.Test.YtjkjjfbcakbmnaaDoorZBooksShut1
import Derived.Test.YtjkjjfbcakbmnaaDoorZBooksShut4
import Derived.Test.YtjkjjfbcakbmnaaDoorZBooksShut12
namespace Go.Proofs.YtjkjjfbcakbmnaaDoor.Q
open Go.RowKit Go.Proofs.YtjkjjfbcakbmnaaDoorW.PrintWords Go.Proofs.YtjkjjfbcakbmnaaDoorW.PrintLast Go.Proofs.YtjkjjfbcakbmnaaDoorW.PrintMore
set_option linter.unusedVariables false
set_option linter.unusedSimpArgs false
mutual
noncomputable def spec_Periods.j0 : Nat → Int → Int → Int → List (S66) → Bool → Option ((List (S66)))
  | 0, _, _, _, _, _ => none
  | k + 1, x0, x1, x2, x7, x33 => if x33 = true then (some x7) else (spec_Periods.l0 k x0 x1 x2 x7 0)
noncomputable def spec_Periods.l0 : Nat → Int → Int → Int → List (S66) → Int → Option ((List (S66)))
  | 0, _, _, _, _, _ => none
  | k + 1, x0, x1, x2, x7, x8 => if x8 < x2 then (if x0 = 2 then (spec_Periods.j2 k x0 x1 x2 x7 x8 (wrap64 (x1 + 27)) ((Int.tmod x8 3) == 2)) else (spec_Periods.j2 k x0 x1 x2 x7 x8 (wrap64 (x1 + 27)) false)) else (some x7)
noncomputable def spec_Periods.j2 : Nat → Int → Int → Int → List (S66) → Int → Int → Bool → Option ((List (S66)))
  | 0, _, _, _, _, _, _, _ => none
  | k + 1, x0, x1, x2, x7, x8, x9, x48 => if x48 = true then (spec_Periods.j3 k x0 x1 x2 x7 x8 (wrap64 (x1 + 34))) else (spec_Periods.j3 k x0 x1 x2 x7 x8 x9)
noncomputable def spec_Periods.j3 : Nat → Int → Int → Int → List (S66) → Int → Int → Option ((List (S66)))
  | 0, _, _, _, _, _, _ => none
  | k + 1, x0, x1, x2, x7, x8, x9 => if x0 = 1 then ((spec_l2Day.f x1).bind fun t37010 => (if t37010 = true then ((spec_MonthEnd.f k x1).bind fun t37014 => ((spec_l2Day.f t37014).bind fun t37015 => (if t37015 = true then (if x7.length < 8796093022208 then (spec_Periods.l0 k x0 (wrap64 (t37014 + 1)) x2 (x7 ++ [(⟨x1, t37014⟩ : S66)]) (wrap64 (x8 + 1))) else (none)) else (some (([] : List (S66))))))) else (some (([] : List (S66)))))) else ((spec_l2Day.f x9).bind fun t37022 => (if t37022 = true then (if x7.length < 8796093022208 then (spec_Periods.l0 k x0 (wrap64 (x9 + 1)) x2 (x7 ++ [(⟨x1, x9⟩ : S66)]) (wrap64 (x8 + 1))) else (none)) else (some (([] : List (S66))))))
end
noncomputable def spec_Periods.f (k : Nat) (a0 : Int) (a1 : Int) (a2 : Int) : Option ((List (S66))) := (some (([] : List (S66)) : List (S66))).bind fun y37001 => ((spec_l1In.f a0 1 3).bind fun t37004 => (if t37004 = true then ((spec_l1In.f a2 1 60).bind fun t37005 => (if t37005 = true then ((spec_l2Day.f a1).bind fun t37006 => (if t37006 = true then (if a0 = 1 then ((spec_DateOf.f k a1).bind fun bt37007 => (spec_Periods.j0 k a0 a1 a2 y37001 (bt37007.2.2 != 1))) else (spec_Periods.j0 k a0 a1 a2 y37001 false)) else (spec_Periods.j0 k a0 a1 a2 y37001 true))) else (spec_Periods.j0 k a0 a1 a2 y37001 true))) else (spec_Periods.j0 k a0 a1 a2 y37001 true)))
set_option maxHeartbeats 8000000 in
set_option maxRecDepth 100000 in
theorem spec_Periods.calls (k : Nat) (a0 : Int) (a1 : Int) (a2 : Int) (r : List (S66)) (w : World) (h : spec_Periods.f k a0 a1 a2 = some r) :
    Calls Tryd.prog 36 #[.int .i64 a0, .int .i64 a1, .int .i64 a2] w fun e w' => ∃ v0_ : Value, e = .returned (v0_) ∧ Kd.R k66 66 w' w.heap.size (fun _ => True) v0_ r ∧ Below w.heap.size w w' := by
  have hu66 := Tryd.underlying66
  have HB := Aside0.mk (Below.refl w.heap.size w)
  have H : ((some (([] : List (S66)) : List (S66))).bind fun y37001 => ((spec_l1In.f a0 1 3).bind fun t37004 => (if t37004 = true then ((spec_l1In.f a2 1 60).bind fun t37005 => (if t37005 = true then ((spec_l2Day.f a1).bind fun t37006 => (if t37006 = true then (if a0 = 1 then ((spec_DateOf.f k a1).bind fun bt37007 => (spec_Periods.j0 k a0 a1 a2 y37001 (bt37007.2.2 != 1))) else (spec_Periods.j0 k a0 a1 a2 y37001 false)) else (spec_Periods.j0 k a0 a1 a2 y37001 true))) else (spec_Periods.j0 k a0 a1 a2 y37001 true))) else (spec_Periods.j0 k a0 a1 a2 y37001 true)))) = some r := h
  clear h
  obtain ⟨y37001, hy37001⟩ : ∃ y_ : List (S66), y_ = (([] : List (S66))) := ⟨_, rfl⟩
  replace H : ((spec_l1In.f a0 1 3).bind fun t37004 => (if t37004 = true then ((spec_l1In.f a2 1 60).bind fun t37005 => (if t37005 = true then ((spec_l2Day.f a1).bind fun t37006 => (if t37006 = true then (if a0 = 1 then ((spec_DateOf.f k a1).bind fun bt37007 => (spec_Periods.j0 k a0 a1 a2 y37001 (bt37007.2.2 != 1))) else (spec_Periods.j0 k a0 a1 a2 y37001 false)) else (spec_Periods.j0 k a0 a1 a2 y37001 true))) else (spec_Periods.j0 k a0 a1 a2 y37001 true))) else (spec_Periods.j0 k a0 a1 a2 y37001 true))) = some r := by first | (rw [hy37001]; with_reducible exact H) | (have H2_ := (Option.bind_some _ _).symm.trans H; rw [hy37001]; with_reducible exact H2_) | (have H2_ := (Option.bind_some _ _).symm.trans H; with_reducible exact H2_) | with_reducible exact H | (rw [hy37001]; exact H) | exact H
  have Ny37001 := Aside0.mk hy37001
  clear hy37001
  have HC4 := Aside0.mk H
  clear H
  have kf : ∀ (x y z : Int) (w : World), (Instr.field 95 (.agg #[.int .i64 x, .int .i64 y, .int .i64 z]) 2).run Tryd.prog w = .ok (.int .i64 z) w := fun _ _ _ _ => by kernel_rfl
  go_enter Tryd.func36, Tryd.ntmps36
  go_upto_region 2 with (first | ((with_reducible refine gate_dst (N := 10) rfl ?_); refine Kd.R_lit k66 _ 66 ?hg (N := 10) ?hd (xs := ([] : List (S66))) (inner := []) (ok := fun _ => True) (okp := fun _ => True) ?hr ?hp (fun _ hk => hk) trivial (Below.refl _ _) (Nat.le_refl _) (by simp) ?_; (case hd => rfl); (case hg => rfl); (case hr => first | (go_simp; done) | (go_simp; rfl)); (case hp => exact (Reps.none _ _)); intro v37002 w5 ho6 hb hg_ hnew_; clear hg_ hnew_; (first | rw [← Ny37001.out] at ho6 | (simp only [Int.reduceToNat] at ho6; rw [← Ny37001.out] at ho6)); have n0_ := Aside0.mk (Kd.R_lower ho6 (below_size (by repeat (first | (with_reducible first | exact HB.out | apply below_alloc | apply pw_below_drewN | apply below_drew1) | exact HB.out)))); have n1_ := Aside0.mk (below_step (by repeat (first | (with_reducible first | exact HB.out | apply below_alloc | apply pw_below_drewN | apply below_drew1) | exact HB.out)) hb); clear HB; have HO37003 := n0_; have HB := n1_; clear n0_ n1_; clear hb ho6))
  (try simp only [Act.put, List.setIfInBounds_toArray, List.set_cons_zero, List.set_cons_succ])
  go_cut [33] (fun v33 wc => ∃ (kq : Nat) (x33_3 : Bool), v33 = .bool x33_3 ∧ Aside0 (spec_Periods.j0 kq a0 a1 a2 y37001 x33_3 = some r) ∧ Aside0 (kq ≤ k) ∧ Aside0 (Kd.R k66 66 wc w.heap.size (fun _ => True) v37002 y37001) ∧ Aside0 (Below w.heap.size w wc))
  case first =>
    have H := HC4.out
    clear HC4
    replace H := Option.bind_eq_some_iff.mp H
    obtain ⟨t37004, A70, H⟩ := H
    replace H : (if t37004 = true then ((spec_l1In.f a2 1 60).bind fun t37005 => (if t37005 = true then ((spec_l2Day.f a1).bind fun t37006 => (if t37006 = true then (if a0 = 1 then ((spec_DateOf.f k a1).bind fun bt37007 => (spec_Periods.j0 k a0 a1 a2 y37001 (bt37007.2.2 != 1))) else (spec_Periods.j0 k a0 a1 a2 y37001 false)) else (spec_Periods.j0 k a0 a1 a2 y37001 true))) else (spec_Periods.j0 k a0 a1 a2 y37001 true))) else (spec_Periods.j0 k a0 a1 a2 y37001 true)) = some r := H
    have A7 := Aside0.mk A70
    clear A70
    by_cases c8 : t37004 = true
    · subst c8
      have H1 : ((spec_l1In.f a2 1 60).bind fun t37005 => (if t37005 = true then ((spec_l2Day.f a1).bind fun t37006 => (if t37006 = true then (if a0 = 1 then ((spec_DateOf.f k a1).bind fun bt37007 => (spec_Periods.j0 k a0 a1 a2 y37001 (bt37007.2.2 != 1))) else (spec_Periods.j0 k a0 a1 a2 y37001 false)) else (spec_Periods.j0 k a0 a1 a2 y37001 true))) else (spec_Periods.j0 k a0 a1 a2 y37001 true))) = some r := by rw [if_pos rfl] at H; exact H
      clear H
      have H := H1
      clear H1
      replace H := Option.bind_eq_some_iff.mp H
      obtain ⟨t37005, A90, H⟩ := H
      replace H : (if t37005 = true then ((spec_l2Day.f a1).bind fun t37006 => (if t37006 = true then (if a0 = 1 then ((spec_DateOf.f k a1).bind fun bt37007 => (spec_Periods.j0 k a0 a1 a2 y37001 (bt37007.2.2 != 1))) else (spec_Periods.j0 k a0 a1 a2 y37001 false)) else (spec_Periods.j0 k a0 a1 a2 y37001 true))) else (spec_Periods.j0 k a0 a1 a2 y37001 true)) = some r := H
      have A9 := Aside0.mk A90
      clear A90
      by_cases c10 : t37005 = true
      · subst c10
        have H1 : ((spec_l2Day.f a1).bind fun t37006 => (if t37006 = true then (if a0 = 1 then ((spec_DateOf.f k a1).bind fun bt37007 => (spec_Periods.j0 k a0 a1 a2 y37001 (bt37007.2.2 != 1))) else (spec_Periods.j0 k a0 a1 a2 y37001 false)) else (spec_Periods.j0 k a0 a1 a2 y37001 true))) = some r := by rw [if_pos rfl] at H; exact H
        clear H
        have H := H1
        clear H1
        replace H := Option.bind_eq_some_iff.mp H
        obtain ⟨t37006, A110, H⟩ := H
        replace H : (if t37006 = true then (if a0 = 1 then ((spec_DateOf.f k a1).bind fun bt37007 => (spec_Periods.j0 k a0 a1 a2 y37001 (bt37007.2.2 != 1))) else (spec_Periods.j0 k a0 a1 a2 y37001 false)) else (spec_Periods.j0 k a0 a1 a2 y37001 true)) = some r := H
        have A11 := Aside0.mk A110
        clear A110
        by_cases c12 : t37006 = true
        · subst c12
          have H1 : (if a0 = 1 then ((spec_DateOf.f k a1).bind fun bt37007 => (spec_Periods.j0 k a0 a1 a2 y37001 (bt37007.2.2 != 1))) else (spec_Periods.j0 k a0 a1 a2 y37001 false)) = some r := by rw [if_pos rfl] at H; exact H
          clear H
          have H := H1
          clear H1
          by_cases c13 : a0 = 1
          · rw [if_pos c13] at H
            have c13b0 : (a0 == 1) = true := beq_iff_eq.mpr c13
            have c13b1 : (a0 != 1) = false := bne_eq_false_iff_eq.mpr c13
            clear c13
            (first | rw [c13b0] | (simp only [i64_w, i32_w]; rw [c13b0]) | skip)
            replace H := Option.bind_eq_some_iff.mp H
            obtain ⟨⟨t37007, t37008, t37009⟩, A140, H⟩ := H
            replace H : (spec_Periods.j0 k a0 a1 a2 y37001 (t37009 != 1)) = some r := H
            have A14 := Aside0.mk A140
            clear A140
            have H' := Aside0.mk H
            clear H
            go_wp2_with (first | ((with_reducible refine gate_callee (f := 26) rfl ?_); refine goesL_ (some 12) rfl rfl Tryd.func26 (by kernel_rfl) rfl #[.int .i64 a0, .int .i64 1, .int .i64 3] rfl (by (try simp only [List.map_toArray, List.map_cons, List.map_nil]); first | done | rfl | (simp only [List.length_drop, List.length_take]; rfl)) ?_; (with_reducible refine (spec_l1In.calls a0 1 3 true _ A7.out).mono ?_); rintro e w' ⟨rfl, ⟨nd, rfl⟩⟩; refine ⟨_, rfl, ?_⟩) | (go_at_call 26; (with_reducible refine (spec_l1In.calls a2 1 60 true _ A9.out).mono ?_); rintro e w' ⟨rfl, ⟨nd, rfl⟩⟩) | (go_at_call 42; (with_reducible refine (spec_l2Day.calls a1 true _ A11.out).mono ?_); rintro e w' ⟨rfl, ⟨nd, rfl⟩⟩) | (go_at_call 56; (with_reducible refine (spec_DateOf.calls k a1 t37007 t37008 t37009 _ A14.out).mono ?_); rintro e w15 ⟨rfl, hb⟩; have n0_ := Aside0.mk (Kd.R_below (by (with_reducible repeat (first | apply Kd.R_alloc | apply Kd.R_drewN | apply Kd.R_drew)); exact HO37003.out) hb); have n1_ := Aside0.mk (below_step (by repeat (first | (with_reducible first | exact HB.out | apply below_alloc | apply pw_below_drewN | apply below_drew1) | exact HB.out)) hb); clear HO37003; clear HB; have HO37003 := n0_; have HB := n1_; clear n0_ n1_; (try clear hb); (try clear hb2); (try clear hk); (try clear hi)))
            go_meet
            case rel => exact ⟨_, ((t37009 != 1)), (by first | rfl | (simp; done) | (simp [*]; done)), H', ⟨by first | omega | exact Nat.le_refl _⟩, ⟨by (with_reducible repeat (first | apply Kd.R_alloc | apply Kd.R_drewN | apply Kd.R_drew)); exact HO37003.out⟩, ⟨by repeat (first | (with_reducible first | exact HB.out | apply below_alloc | apply pw_below_drewN | apply below_drew1) | exact HB.out)⟩⟩
          · rw [if_neg c13] at H
            have c13b0 : (a0 == 1) = false := beq_eq_false_iff_ne.mpr c13
            have c13b1 : (a0 != 1) = true := bne_iff_ne.mpr c13
            (first | rw [c13b0] | (simp only [i64_w, i32_w]; rw [c13b0]) | skip)
            have H' := Aside0.mk H
            clear H
            go_wp2_with (first | ((with_reducible refine gate_callee (f := 26) rfl ?_); refine goesL_ (some 12) rfl rfl Tryd.func26 (by kernel_rfl) rfl #[.int .i64 a0, .int .i64 1, .int .i64 3] rfl (by (try simp only [List.map_toArray, List.map_cons, List.map_nil]); first | done | rfl | (simp only [List.length_drop, List.length_take]; rfl)) ?_; (with_reducible refine (spec_l1In.calls a0 1 3 true _ A7.out).mono ?_); rintro e w' ⟨rfl, ⟨nd, rfl⟩⟩; refine ⟨_, rfl, ?_⟩) | (go_at_call 26; (with_reducible refine (spec_l1In.calls a2 1 60 true _ A9.out).mono ?_); rintro e w' ⟨rfl, ⟨nd, rfl⟩⟩) | (go_at_call 42; (with_reducible refine (spec_l2Day.calls a1 true _ A11.out).mono ?_); rintro e w' ⟨rfl, ⟨nd, rfl⟩⟩))
            go_meet
            case rel => exact ⟨_, (false), (by first | rfl | (simp; done) | (simp [*]; done)), H', ⟨by first | omega | exact Nat.le_refl _⟩, ⟨by (with_reducible repeat (first | apply Kd.R_alloc | apply Kd.R_drewN | apply Kd.R_drew)); exact HO37003.out⟩, ⟨by repeat (first | (with_reducible first | exact HB.out | apply below_alloc | apply pw_below_drewN | apply below_drew1) | exact HB.out)⟩⟩
        · replace c12 := Bool.eq_false_iff.mpr c12
          subst c12
          have H1 : (spec_Periods.j0 k a0 a1 a2 y37001 true) = some r := by rw [if_neg (show ¬ (false = true) by decide)] at H; exact H
          clear H
          have H := H1
          clear H1
          have H' := Aside0.mk H
          clear H
          go_wp2_with (first | ((with_reducible refine gate_callee (f := 26) rfl ?_); refine goesL_ (some 12) rfl rfl Tryd.func26 (by kernel_rfl) rfl #[.int .i64 a0, .int .i64 1, .int .i64 3] rfl (by (try simp only [List.map_toArray, List.map_cons, List.map_nil]); first | done | rfl | (simp only [List.length_drop, List.length_take]; rfl)) ?_; (with_reducible refine (spec_l1In.calls a0 1 3 true _ A7.out).mono ?_); rintro e w' ⟨rfl, ⟨nd, rfl⟩⟩; refine ⟨_, rfl, ?_⟩) | (go_at_call 26; (with_reducible refine (spec_l1In.calls a2 1 60 true _ A9.out).mono ?_); rintro e w' ⟨rfl, ⟨nd, rfl⟩⟩) | (go_at_call 42; (with_reducible refine (spec_l2Day.calls a1 false _ A11.out).mono ?_); rintro e w' ⟨rfl, ⟨nd, rfl⟩⟩))
          go_meet
          case rel => exact ⟨_, (true), (by first | rfl | (simp; done) | (simp [*]; done)), H', ⟨by first | omega | exact Nat.le_refl _⟩, ⟨by (with_reducible repeat (first | apply Kd.R_alloc | apply Kd.R_drewN | apply Kd.R_drew)); exact HO37003.out⟩, ⟨by repeat (first | (with_reducible first | exact HB.out | apply below_alloc | apply pw_below_drewN | apply below_drew1) | exact HB.out)⟩⟩
      · replace c10 := Bool.eq_false_iff.mpr c10
        subst c10
        have H1 : (spec_Periods.j0 k a0 a1 a2 y37001 true) = some r := by rw [if_neg (show ¬ (false = true) by decide)] at H; exact H
        clear H
        have H := H1
        clear H1
        have H' := Aside0.mk H
        clear H
        go_wp2_with (first | ((with_reducible refine gate_callee (f := 26) rfl ?_); refine goesL_ (some 12) rfl rfl Tryd.func26 (by kernel_rfl) rfl #[.int .i64 a0, .int .i64 1, .int .i64 3] rfl (by (try simp only [List.map_toArray, List.map_cons, List.map_nil]); first | done | rfl | (simp only [List.length_drop, List.length_take]; rfl)) ?_; (with_reducible refine (spec_l1In.calls a0 1 3 true _ A7.out).mono ?_); rintro e w' ⟨rfl, ⟨nd, rfl⟩⟩; refine ⟨_, rfl, ?_⟩) | (go_at_call 26; (with_reducible refine (spec_l1In.calls a2 1 60 false _ A9.out).mono ?_); rintro e w' ⟨rfl, ⟨nd, rfl⟩⟩))
        go_meet
        case rel => exact ⟨_, (true), (by first | rfl | (simp; done) | (simp [*]; done)), H', ⟨by first | omega | exact Nat.le_refl _⟩, ⟨by (with_reducible repeat (first | apply Kd.R_alloc | apply Kd.R_drewN | apply Kd.R_drew)); exact HO37003.out⟩, ⟨by repeat (first | (with_reducible first | exact HB.out | apply below_alloc | apply pw_below_drewN | apply below_drew1) | exact HB.out)⟩⟩
    · replace c8 := Bool.eq_false_iff.mpr c8
      subst c8
      have H1 : (spec_Periods.j0 k a0 a1 a2 y37001 true) = some r := by rw [if_neg (show ¬ (false = true) by decide)] at H; exact H
      clear H
      have H := H1
      clear H1
      have H' := Aside0.mk H
      clear H
      go_wp2_with (first | ((with_reducible refine gate_callee (f := 26) rfl ?_); refine goesL_ (some 12) rfl rfl Tryd.func26 (by kernel_rfl) rfl #[.int .i64 a0, .int .i64 1, .int .i64 3] rfl (by (try simp only [List.map_toArray, List.map_cons, List.map_nil]); first | done | rfl | (simp only [List.length_drop, List.length_take]; rfl)) ?_; (with_reducible refine (spec_l1In.calls a0 1 3 false _ A7.out).mono ?_); rintro e w' ⟨rfl, ⟨nd, rfl⟩⟩; refine ⟨_, rfl, ?_⟩))
      go_meet
      case rel => exact ⟨_, (true), (by first | rfl | (simp; done) | (simp [*]; done)), H', ⟨by first | omega | exact Nat.le_refl _⟩, ⟨by (with_reducible repeat (first | apply Kd.R_alloc | apply Kd.R_drewN | apply Kd.R_drew)); exact HO37003.out⟩, ⟨by repeat (first | (with_reducible first | exact HB.out | apply below_alloc | apply pw_below_drewN | apply below_drew1) | exact HB.out)⟩⟩
  case rest =>
    clear HC4
    try clear c1
    try clear c2
    try clear p2
    try clear c3
    try clear c8
    try clear c10
    try clear c12
    try clear c13
    try clear c13b0
    try clear c13b1
    obtain ⟨kq, x33_3, rfl, HA, HJ3, HO_7, HB⟩ := hcut
    cases kq with
    | zero => exact absurd HA.out (by simp [spec_Periods.j0])
    | succ kj3 =>
      have H := HA.out
      clear HA
      simp only [spec_Periods.j0] at H
      by_cases c16 : x33_3 = true
      · subst c16
        have H1 : (some y37001) = some r := by rw [if_pos rfl] at H; exact H
        clear H
        have H := H1
        clear H1
        obtain rfl := Option.some.inj H
        go_wp2
        go_ret
        exact ⟨_, by first | rfl | (simp [errW_none, errW_some] <;> rfl) | (simp [*, errW_none, errW_some] <;> rfl), by (with_reducible repeat (first | apply Kd.R_alloc | apply Kd.R_drewN | apply Kd.R_drew)); exact HO_7.out, by repeat (first | (with_reducible first | exact HB.out | apply below_alloc | apply pw_below_drewN | apply below_drew1) | exact HB.out)⟩
      · replace c16 := Bool.eq_false_iff.mpr c16
        subst c16
        have H1 : (spec_Periods.l0 kj3 a0 a1 a2 y37001 0) = some r := by rw [if_neg (show ¬ (false = true) by decide)] at H; exact H
        clear H
        have H := H1
        clear H1
        have H' := Aside0.mk H
        clear H
        go_wp2
        go_loopg [1, 7, 8] kj3 (fun kq v1 v7 v8 w' => ∃ (x1_2 : Int) (x7_2 : List (S66)) (x8_2 : Int), v1 = .int .i64 x1_2 ∧ v8 = .int .i64 x8_2 ∧ Aside0 (spec_Periods.l0 kq a0 x1_2 a2 x7_2 x8_2 = some r) ∧ Aside0 (kq ≤ kj3) ∧ Aside0 (Kd.R k66 66 w' w.heap.size (fun _ => True) v7 x7_2) ∧ Aside0 (Below w.heap.size w w'))
        case atStart => exact ⟨(a1), (y37001), (0), (by first | rfl | (simp; done) | (simp [*]; done)), (by first | rfl | (simp; done) | (simp [*]; done)), H', ⟨Nat.le_refl _⟩, ⟨by (with_reducible repeat (first | apply Kd.R_alloc | apply Kd.R_drewN | apply Kd.R_drew)); exact HO_7.out⟩, ⟨by repeat (first | (with_reducible first | exact HB.out | apply below_alloc | apply pw_below_drewN | apply below_drew1) | exact HB.out)⟩⟩
        case round =>
          clear H'
          try clear c1
          try clear c2
          try clear p2
          try clear c3
          try clear c8
          try clear c10
          try clear c12
          try clear c13
          try clear c13b0
          try clear c13b1
          try clear c16
          try clear p2
          obtain ⟨x1_2, x7_2, x8_2, rfl, rfl, HA, HK2, HO_7, HB⟩ := hrel
          cases gk with
          | zero => exact absurd HA.out (by simp [spec_Periods.l0])
          | succ k2 =>
            have H := HA.out
            clear HA
            simp only [spec_Periods.l0] at H
            by_cases c17 : x8_2 < a2
            · rw [if_pos c17] at H
              have c17b0 : decide (x8_2 < a2) = true := decide_eq_true c17
              clear c17
              have HC18 := Aside0.mk H
              clear H
              go_upto_region 8 with (fail)
              go_cut [48] (fun v48 wc => ∃ (kq : Nat) (x48_17 : Bool), v48 = .bool x48_17 ∧ Aside0 (spec_Periods.j2 kq a0 x1_2 a2 x7_2 x8_2 (wrap64 (x1_2 + 27)) x48_17 = some r) ∧ Aside0 (kq ≤ k2) ∧ Aside0 (Kd.R k66 66 wc w.heap.size (fun _ => True) u7 x7_2) ∧ Aside0 (Below w.heap.size w wc))
              case first =>
                have H := HC18.out
                clear HC18
                by_cases c19 : a0 = 2
                · rw [if_pos c19] at H
                  have c19b0 : (a0 == 2) = true := beq_iff_eq.mpr c19
                  have c19b1 : (a0 != 2) = false := bne_eq_false_iff_eq.mpr c19
                  clear c19
                  (first | rw [c19b0] | (simp only [i64_w, i32_w]; rw [c19b0]) | skip)
                  have H' := Aside0.mk H
                  clear H
                  go_wp2
                  go_meet
                  case rel => exact ⟨_, (((Int.tmod x8_2 3) == 2)), (by first | rfl | (simp; done) | (simp [*]; done)), H', ⟨by have := HJ3.out; have := HK2.out; first | omega | exact Nat.le_refl _⟩, ⟨by (with_reducible repeat (first | apply Kd.R_alloc | apply Kd.R_drewN | apply Kd.R_drew)); exact HO_7.out⟩, ⟨by repeat (first | (with_reducible first | exact HB.out | apply below_alloc | apply pw_below_drewN | apply below_drew1) | exact HB.out)⟩⟩
                · rw [if_neg c19] at H
                  have c19b0 : (a0 == 2) = false := beq_eq_false_iff_ne.mpr c19
                  have c19b1 : (a0 != 2) = true := bne_iff_ne.mpr c19
                  (first | rw [c19b0] | (simp only [i64_w, i32_w]; rw [c19b0]) | skip)
                  have H' := Aside0.mk H
                  clear H
                  go_wp2
                  go_meet
                  case rel => exact ⟨_, (false), (by first | rfl | (simp; done) | (simp [*]; done)), H', ⟨by have := HJ3.out; have := HK2.out; first | omega | exact Nat.le_refl _⟩, ⟨by (with_reducible repeat (first | apply Kd.R_alloc | apply Kd.R_drewN | apply Kd.R_drew)); exact HO_7.out⟩, ⟨by repeat (first | (with_reducible first | exact HB.out | apply below_alloc | apply pw_below_drewN | apply below_drew1) | exact HB.out)⟩⟩
              case rest =>
                clear HC18
                try clear c1
                try clear c2
                try clear p2
                try clear c3
                try clear p6
                try clear c8
                try clear c10
                try clear c12
                try clear c13
                try clear c13b0
                try clear c13b1
                try clear c16
                try clear c17
                try clear c17b0
                try clear c19
                try clear c19b0
                try clear c19b1
                try clear p2
                obtain ⟨kq, x48_17, rfl, HA, HJ17, HO_7, HB⟩ := hcut
                cases kq with
                | zero => exact absurd HA.out (by simp [spec_Periods.j2])
                | succ kj17 =>
                  have H := HA.out
                  clear HA
                  simp only [spec_Periods.j2] at H
                  have HC20 := Aside0.mk H
                  clear H
                  go_upto_if 48 with (fail)
                  go_cut [9] (fun v9 wc => ∃ (kq : Nat) (x9_19 : Int), v9 = .int .i64 x9_19 ∧ Aside0 (spec_Periods.j3 kq a0 x1_2 a2 x7_2 x8_2 x9_19 = some r) ∧ Aside0 (kq ≤ kj17) ∧ Aside0 (Kd.R k66 66 wc w.heap.size (fun _ => True) u7 x7_2) ∧ Aside0 (Below w.heap.size w wc))
                  case first =>
                    have H := HC20.out
                    clear HC20
                    by_cases c21 : x48_17 = true
                    · subst c21
                      have H1 : (spec_Periods.j3 kj17 a0 x1_2 a2 x7_2 x8_2 (wrap64 (x1_2 + 34))) = some r := by rw [if_pos rfl] at H; exact H
                      clear H
                      have H := H1
                      clear H1
                      have H' := Aside0.mk H
                      clear H
                      go_wp2
                      go_meet
                      case rel => exact ⟨_, (wrap64 (x1_2 + 34)), (by first | rfl | (simp; done) | (simp [*]; done)), H', ⟨by have := HJ3.out; have := HK2.out; have := HJ17.out; first | omega | exact Nat.le_refl _⟩, ⟨by (with_reducible repeat (first | apply Kd.R_alloc | apply Kd.R_drewN | apply Kd.R_drew)); exact HO_7.out⟩, ⟨by repeat (first | (with_reducible first | exact HB.out | apply below_alloc | apply pw_below_drewN | apply below_drew1) | exact HB.out)⟩⟩
                    · replace c21 := Bool.eq_false_iff.mpr c21
                      subst c21
                      have H1 : (spec_Periods.j3 kj17 a0 x1_2 a2 x7_2 x8_2 (wrap64 (x1_2 + 27))) = some r := by rw [if_neg (show ¬ (false = true) by decide)] at H; exact H
                      clear H
                      have H := H1
                      clear H1
                      have H' := Aside0.mk H
                      clear H
                      go_wp2
                      go_meet
                      case rel => exact ⟨_, ((wrap64 (x1_2 + 27))), (by first | rfl | (simp; done) | (simp [*]; done)), H', ⟨by have := HJ3.out; have := HK2.out; have := HJ17.out; first | omega | exact Nat.le_refl _⟩, ⟨by (with_reducible repeat (first | apply Kd.R_alloc | apply Kd.R_drewN | apply Kd.R_drew)); exact HO_7.out⟩, ⟨by repeat (first | (with_reducible first | exact HB.out | apply below_alloc | apply pw_below_drewN | apply below_drew1) | exact HB.out)⟩⟩
                  case rest =>
                    clear HC20
                    try clear c1
                    try clear c2
                    try clear p2
                    try clear c3
                    try clear p6
                    try clear c8
                    try clear c10
                    try clear c12
                    try clear c13
                    try clear c13b0
                    try clear c13b1
                    try clear c16
                    try clear c17
                    try clear c17b0
                    try clear c19
                    try clear c19b0
                    try clear c19b1
                    try clear c21
                    try clear p2
                    try clear p6
                    obtain ⟨kq, x9_19, rfl, HA, HJ19, HO_7, HB⟩ := hcut
                    cases kq with
                    | zero => exact absurd HA.out (by simp [spec_Periods.j3])
                    | succ kj19 =>
                      have H := HA.out
                      clear HA
                      simp only [spec_Periods.j3] at H
                      by_cases c22 : a0 = 1
                      · rw [if_pos c22] at H
                        have c22b0 : (a0 == 1) = true := beq_iff_eq.mpr c22
                        have c22b1 : (a0 != 1) = false := bne_eq_false_iff_eq.mpr c22
                        clear c22
                        replace H := Option.bind_eq_some_iff.mp H
                        obtain ⟨t37010, A230, H⟩ := H
                        replace H : (if t37010 = true then ((spec_MonthEnd.f kj19 x1_2).bind fun t37014 => ((spec_l2Day.f t37014).bind fun t37015 => (if t37015 = true then (if x7_2.length < 8796093022208 then (spec_Periods.l0 kj19 a0 (wrap64 (t37014 + 1)) a2 (x7_2 ++ [(⟨x1_2, t37014⟩ : S66)]) (wrap64 (x8_2 + 1))) else (none)) else (some (([] : List (S66))))))) else (some (([] : List (S66))))) = some r := H
                        have A23 := Aside0.mk A230
                        clear A230
                        by_cases c24 : t37010 = true
                        · subst c24
                          have H1 : ((spec_MonthEnd.f kj19 x1_2).bind fun t37014 => ((spec_l2Day.f t37014).bind fun t37015 => (if t37015 = true then (if x7_2.length < 8796093022208 then (spec_Periods.l0 kj19 a0 (wrap64 (t37014 + 1)) a2 (x7_2 ++ [(⟨x1_2, t37014⟩ : S66)]) (wrap64 (x8_2 + 1))) else (none)) else (some (([] : List (S66))))))) = some r := by rw [if_pos rfl] at H; exact H
                          clear H
                          have H := H1
                          clear H1
                          replace H := Option.bind_eq_some_iff.mp H
                          obtain ⟨t37014, A250, H⟩ := H
                          replace H : ((spec_l2Day.f t37014).bind fun t37015 => (if t37015 = true then (if x7_2.length < 8796093022208 then (spec_Periods.l0 kj19 a0 (wrap64 (t37014 + 1)) a2 (x7_2 ++ [(⟨x1_2, t37014⟩ : S66)]) (wrap64 (x8_2 + 1))) else (none)) else (some (([] : List (S66)))))) = some r := H
                          have A25 := Aside0.mk A250
                          clear A250
                          replace H := Option.bind_eq_some_iff.mp H
                          obtain ⟨t37015, A260, H⟩ := H
                          replace H : (if t37015 = true then (if x7_2.length < 8796093022208 then (spec_Periods.l0 kj19 a0 (wrap64 (t37014 + 1)) a2 (x7_2 ++ [(⟨x1_2, t37014⟩ : S66)]) (wrap64 (x8_2 + 1))) else (none)) else (some (([] : List (S66))))) = some r := H
                          have A26 := Aside0.mk A260
                          clear A260
                          by_cases c27 : t37015 = true
                          · subst c27
                            have H1 : (if x7_2.length < 8796093022208 then (spec_Periods.l0 kj19 a0 (wrap64 (t37014 + 1)) a2 (x7_2 ++ [(⟨x1_2, t37014⟩ : S66)]) (wrap64 (x8_2 + 1))) else (none)) = some r := by rw [if_pos rfl] at H; exact H
                            clear H
                            have H := H1
                            clear H1
                            by_cases c28 : x7_2.length < 8796093022208
                            · rw [if_pos c28] at H
                              have LMc28 := Aside0.mk c28
                              clear c28
                              obtain ⟨y37016, hy37016⟩ : ∃ y_ : List (S66), y_ = (x7_2 ++ [(⟨x1_2, t37014⟩ : S66)]) := ⟨_, rfl⟩
                              replace H : (spec_Periods.l0 kj19 a0 (wrap64 (t37014 + 1)) a2 y37016 (wrap64 (x8_2 + 1))) = some r := by first | (rw [hy37016]; with_reducible exact H) | (have H2_ := (Option.bind_some _ _).symm.trans H; rw [hy37016]; with_reducible exact H2_) | (have H2_ := (Option.bind_some _ _).symm.trans H; with_reducible exact H2_) | with_reducible exact H | (rw [hy37016]; exact H) | exact H
                              have Ny37016 := Aside0.mk hy37016
                              clear hy37016
                              have H' := Aside0.mk H
                              clear H
                              go_wp2_with (first | ((with_reducible refine gate_callee (f := 42) rfl ?_); refine goesL_ (some 54) rfl rfl Tryd.func42 (by kernel_rfl) rfl #[.int .i64 x1_2] rfl (by (try simp only [List.map_toArray, List.map_cons, List.map_nil]); first | done | rfl | (simp only [List.length_drop, List.length_take]; rfl)) ?_; (with_reducible refine (spec_l2Day.calls x1_2 true _ A23.out).mono ?_); rintro e w' ⟨rfl, ⟨nd, rfl⟩⟩; refine ⟨_, rfl, ?_⟩) | ((with_reducible refine gate_callee (f := 57) rfl ?_); refine goesL_ (some 58) rfl rfl Tryd.func57 (by kernel_rfl) rfl #[.int .i64 x1_2] rfl (by (try simp only [List.map_toArray, List.map_cons, List.map_nil]); first | done | rfl | (simp only [List.length_drop, List.length_take]; rfl)) ?_; (with_reducible refine (spec_MonthEnd.calls kj19 x1_2 t37014 _ A25.out).mono ?_); rintro e w29 ⟨rfl, hb⟩; refine ⟨_, rfl, ?_⟩; have n0_ := Aside0.mk (Kd.R_below (by (with_reducible repeat (first | apply Kd.R_alloc | apply Kd.R_drewN | apply Kd.R_drew)); exact HO_7.out) hb); have n1_ := Aside0.mk (below_step (by repeat (first | (with_reducible first | exact HB.out | apply below_alloc | apply pw_below_drewN | apply below_drew1) | exact HB.out)) hb); clear HO_7; clear HB; have HO_7 := n0_; have HB := n1_; clear n0_ n1_; (try clear hb); (try clear hb2); (try clear hk); (try clear hi)) | ((with_reducible refine gate_callee (f := 42) rfl ?_); refine goesL_ (some 60) rfl rfl Tryd.func42 (by kernel_rfl) rfl #[.int .i64 t37014] rfl (by (try simp only [List.map_toArray, List.map_cons, List.map_nil]); first | done | rfl | (simp only [List.length_drop, List.length_take]; rfl)) ?_; (with_reducible refine (spec_l2Day.calls t37014 true _ A26.out).mono ?_); rintro e w' ⟨rfl, ⟨nd, rfl⟩⟩; refine ⟨_, rfl, ?_⟩) | ((with_reducible refine gate_builtin (b := .append) (xs := #[.tmp 63, .tmp 67]) rfl ?_); at_builtin; refine Kd.R_append k66 (w0 := w) w.heap.size rfl (.tmp 63) (.tmp 67) 30 66 (.agg #[(.int .i64 0), (.int .i64 0)]) 16 rfl Tryd.underlying30 info66 rfl (by decide) (by omega) u7 x7_2 (⟨x1_2, t37014⟩ : S66) [.int .i64 x1_2, .int .i64 t37014] (fun _ => True) (fun _ => False) rfl rfl ?aP (fun _ hk => hk.elim) ?aF ?aO ?aB ?aS ?aL ?_; (case aP => exact k66_mkM _ _ _ (⟨x1_2, t37014⟩ : S66)); (case aB => exact (by repeat (first | (with_reducible first | exact HB.out | apply below_alloc | apply pw_below_drewN | apply below_drew1) | exact HB.out))); (case aF => exact (fun _ _ => trivial)); (case aO => exact (by (with_reducible repeat (first | apply Kd.R_alloc | apply Kd.R_drewN | apply Kd.R_drew)); exact HO_7.out)); (case aS => exact (below_size (by repeat (first | (with_reducible first | exact HB.out | apply below_alloc | apply pw_below_drewN | apply below_drew1) | exact HB.out)))); (case aL => have := LMc28.out; omega); intro v37017 w30 ho hb hg hat; rw [← Ny37016.out] at ho; have n0_ := Aside0.mk (hb); have n1_ := Aside0.mk (ho); clear HB; clear HO_7; have HB := n0_; have HO37018 := n1_; clear n0_ n1_; clear ho hb hg hat))
                              go_roundg kj19
                              case measure => have := HJ3.out; have := HK2.out; have := HJ17.out; have := HJ19.out; omega
                              case rel => exact ⟨(wrap64 (t37014 + 1)), (y37016), (wrap64 (x8_2 + 1)), (by first | rfl | (simp; done) | (simp [*]; done)), (by first | rfl | (simp; done) | (simp [*]; done)), H', ⟨by have := HJ3.out; have := HK2.out; have := HJ17.out; have := HJ19.out; omega⟩, ⟨by (with_reducible repeat (first | apply Kd.R_alloc | apply Kd.R_drewN | apply Kd.R_drew)); exact HO37018.out⟩, ⟨by repeat (first | (with_reducible first | exact HB.out | apply below_alloc | apply pw_below_drewN | apply below_drew1) | exact HB.out)⟩⟩
                            · rw [if_neg c28] at H
                              exact absurd H (by simp)
                          · replace c27 := Bool.eq_false_iff.mpr c27
                            subst c27
                            have H1 : (some (([] : List (S66)))) = some r := by rw [if_neg (show ¬ (false = true) by decide)] at H; exact H
                            clear H
                            have H := H1
                            clear H1
                            obtain ⟨y37019, hy37019⟩ : ∃ y_ : List (S66), y_ = (([] : List (S66))) := ⟨_, rfl⟩
                            replace H : (some y37019) = some r := by first | (rw [hy37019]; with_reducible exact H) | (have H2_ := (Option.bind_some _ _).symm.trans H; rw [hy37019]; with_reducible exact H2_) | (have H2_ := (Option.bind_some _ _).symm.trans H; with_reducible exact H2_) | with_reducible exact H | (rw [hy37019]; exact H) | exact H
                            have Ny37019 := Aside0.mk hy37019
                            clear hy37019
                            obtain rfl := Option.some.inj H
                            go_wp2_with (first | ((with_reducible refine gate_callee (f := 42) rfl ?_); refine goesL_ (some 54) rfl rfl Tryd.func42 (by kernel_rfl) rfl #[.int .i64 x1_2] rfl (by (try simp only [List.map_toArray, List.map_cons, List.map_nil]); first | done | rfl | (simp only [List.length_drop, List.length_take]; rfl)) ?_; (with_reducible refine (spec_l2Day.calls x1_2 true _ A23.out).mono ?_); rintro e w' ⟨rfl, ⟨nd, rfl⟩⟩; refine ⟨_, rfl, ?_⟩) | ((with_reducible refine gate_callee (f := 57) rfl ?_); refine goesL_ (some 58) rfl rfl Tryd.func57 (by kernel_rfl) rfl #[.int .i64 x1_2] rfl (by (try simp only [List.map_toArray, List.map_cons, List.map_nil]); first | done | rfl | (simp only [List.length_drop, List.length_take]; rfl)) ?_; (with_reducible refine (spec_MonthEnd.calls kj19 x1_2 t37014 _ A25.out).mono ?_); rintro e w31 ⟨rfl, hb⟩; refine ⟨_, rfl, ?_⟩; have n0_ := Aside0.mk (Kd.R_below (by (with_reducible repeat (first | apply Kd.R_alloc | apply Kd.R_drewN | apply Kd.R_drew)); exact HO_7.out) hb); have n1_ := Aside0.mk (below_step (by repeat (first | (with_reducible first | exact HB.out | apply below_alloc | apply pw_below_drewN | apply below_drew1) | exact HB.out)) hb); clear HO_7; clear HB; have HO_7 := n0_; have HB := n1_; clear n0_ n1_; (try clear hb); (try clear hb2); (try clear hk); (try clear hi)) | ((with_reducible refine gate_callee (f := 42) rfl ?_); refine goesL_ (some 60) rfl rfl Tryd.func42 (by kernel_rfl) rfl #[.int .i64 t37014] rfl (by (try simp only [List.map_toArray, List.map_cons, List.map_nil]); first | done | rfl | (simp only [List.length_drop, List.length_take]; rfl)) ?_; (with_reducible refine (spec_l2Day.calls t37014 false _ A26.out).mono ?_); rintro e w' ⟨rfl, ⟨nd, rfl⟩⟩; refine ⟨_, rfl, ?_⟩) | ((with_reducible refine gate_dst (N := 62) rfl ?_); refine Kd.R_lit k66 _ 66 ?hg (N := 62) ?hd (xs := ([] : List (S66))) (inner := []) (ok := fun _ => True) (okp := fun _ => True) ?hr ?hp (fun _ hk => hk) trivial (Below.refl _ _) (Nat.le_refl _) (by simp) ?_; (case hd => rfl); (case hg => rfl); (case hr => first | (go_simp; done) | (go_simp; rfl)); (case hp => exact (Reps.none _ _)); intro v37020 w32 ho33 hb hg_ hnew_; clear hg_ hnew_; (first | rw [← Ny37019.out] at ho33 | (simp only [Int.reduceToNat] at ho33; rw [← Ny37019.out] at ho33)); have n0_ := Aside0.mk (Kd.R_elder' (by (with_reducible repeat (first | apply Kd.R_alloc | apply Kd.R_drewN | apply Kd.R_drew)); exact HO_7.out) (Kd.R_base ho33) hb); have n1_ := Aside0.mk (Kd.R_lower (Kd.R_new' ho33 (Kd.R_lt (by (with_reducible repeat (first | apply Kd.R_alloc | apply Kd.R_drewN | apply Kd.R_drew)); exact HO_7.out))) (below_size (by repeat (first | (with_reducible first | exact HB.out | apply below_alloc | apply pw_below_drewN | apply below_drew1) | exact HB.out)))); have n2_ := Aside0.mk (below_step (by repeat (first | (with_reducible first | exact HB.out | apply below_alloc | apply pw_below_drewN | apply below_drew1) | exact HB.out)) hb); clear HO_7; clear HB; have HO_7 := n0_; have HO37021 := n1_; have HB := n2_; clear n0_ n1_ n2_; clear hb ho33))
                            go_ret
                            exact ⟨_, by first | rfl | (simp [errW_none, errW_some] <;> rfl) | (simp [*, errW_none, errW_some] <;> rfl), by (with_reducible repeat (first | apply Kd.R_alloc | apply Kd.R_drewN | apply Kd.R_drew)); exact Kd.R_mono HO37021.out (fun _ hk => trivial), by repeat (first | (with_reducible first | exact HB.out | apply below_alloc | apply pw_below_drewN | apply below_drew1) | exact HB.out)⟩
                        · replace c24 := Bool.eq_false_iff.mpr c24
                          subst c24
                          have H1 : (some (([] : List (S66)))) = some r := by rw [if_neg (show ¬ (false = true) by decide)] at H; exact H
                          clear H
                          have H := H1
                          clear H1
                          obtain ⟨y37011, hy37011⟩ : ∃ y_ : List (S66), y_ = (([] : List (S66))) := ⟨_, rfl⟩
                          replace H : (some y37011) = some r := by first | (rw [hy37011]; with_reducible exact H) | (have H2_ := (Option.bind_some _ _).symm.trans H; rw [hy37011]; with_reducible exact H2_) | (have H2_ := (Option.bind_some _ _).symm.trans H; with_reducible exact H2_) | with_reducible exact H | (rw [hy37011]; exact H) | exact H
                          have Ny37011 := Aside0.mk hy37011
                          clear hy37011
                          obtain rfl := Option.some.inj H
                          go_wp2_with (first | ((with_reducible refine gate_callee (f := 42) rfl ?_); refine goesL_ (some 54) rfl rfl Tryd.func42 (by kernel_rfl) rfl #[.int .i64 x1_2] rfl (by (try simp only [List.map_toArray, List.map_cons, List.map_nil]); first | done | rfl | (simp only [List.length_drop, List.length_take]; rfl)) ?_; (with_reducible refine (spec_l2Day.calls x1_2 false _ A23.out).mono ?_); rintro e w' ⟨rfl, ⟨nd, rfl⟩⟩; refine ⟨_, rfl, ?_⟩) | ((with_reducible refine gate_dst (N := 56) rfl ?_); refine Kd.R_lit k66 _ 66 ?hg (N := 56) ?hd (xs := ([] : List (S66))) (inner := []) (ok := fun _ => True) (okp := fun _ => True) ?hr ?hp (fun _ hk => hk) trivial (Below.refl _ _) (Nat.le_refl _) (by simp) ?_; (case hd => rfl); (case hg => rfl); (case hr => first | (go_simp; done) | (go_simp; rfl)); (case hp => exact (Reps.none _ _)); intro v37012 w34 ho35 hb hg_ hnew_; clear hg_ hnew_; (first | rw [← Ny37011.out] at ho35 | (simp only [Int.reduceToNat] at ho35; rw [← Ny37011.out] at ho35)); have n0_ := Aside0.mk (Kd.R_elder' (by (with_reducible repeat (first | apply Kd.R_alloc | apply Kd.R_drewN | apply Kd.R_drew)); exact HO_7.out) (Kd.R_base ho35) hb); have n1_ := Aside0.mk (Kd.R_lower (Kd.R_new' ho35 (Kd.R_lt (by (with_reducible repeat (first | apply Kd.R_alloc | apply Kd.R_drewN | apply Kd.R_drew)); exact HO_7.out))) (below_size (by repeat (first | (with_reducible first | exact HB.out | apply below_alloc | apply pw_below_drewN | apply below_drew1) | exact HB.out)))); have n2_ := Aside0.mk (below_step (by repeat (first | (with_reducible first | exact HB.out | apply below_alloc | apply pw_below_drewN | apply below_drew1) | exact HB.out)) hb); clear HO_7; clear HB; have HO_7 := n0_; have HO37013 := n1_; have HB := n2_; clear n0_ n1_ n2_; clear hb ho35))
                          go_ret
                          exact ⟨_, by first | rfl | (simp [errW_none, errW_some] <;> rfl) | (simp [*, errW_none, errW_some] <;> rfl), by (with_reducible repeat (first | apply Kd.R_alloc | apply Kd.R_drewN | apply Kd.R_drew)); exact Kd.R_mono HO37013.out (fun _ hk => trivial), by repeat (first | (with_reducible first | exact HB.out | apply below_alloc | apply pw_below_drewN | apply below_drew1) | exact HB.out)⟩
                      · rw [if_neg c22] at H
                        have c22b0 : (a0 == 1) = false := beq_eq_false_iff_ne.mpr c22
                        have c22b1 : (a0 != 1) = true := bne_iff_ne.mpr c22
                        replace H := Option.bind_eq_some_iff.mp H
                        obtain ⟨t37022, A360, H⟩ := H
                        replace H : (if t37022 = true then (if x7_2.length < 8796093022208 then (spec_Periods.l0 kj19 a0 (wrap64 (x9_19 + 1)) a2 (x7_2 ++ [(⟨x1_2, x9_19⟩ : S66)]) (wrap64 (x8_2 + 1))) else (none)) else (some (([] : List (S66))))) = some r := H
                        have A36 := Aside0.mk A360
                        clear A360
                        by_cases c37 : t37022 = true
                        · subst c37
                          have H1 : (if x7_2.length < 8796093022208 then (spec_Periods.l0 kj19 a0 (wrap64 (x9_19 + 1)) a2 (x7_2 ++ [(⟨x1_2, x9_19⟩ : S66)]) (wrap64 (x8_2 + 1))) else (none)) = some r := by rw [if_pos rfl] at H; exact H
                          clear H
                          have H := H1
                          clear H1
                          by_cases c38 : x7_2.length < 8796093022208
                          · rw [if_pos c38] at H
                            have LMc38 := Aside0.mk c38
                            clear c38
                            obtain ⟨y37023, hy37023⟩ : ∃ y_ : List (S66), y_ = (x7_2 ++ [(⟨x1_2, x9_19⟩ : S66)]) := ⟨_, rfl⟩
                            replace H : (spec_Periods.l0 kj19 a0 (wrap64 (x9_19 + 1)) a2 y37023 (wrap64 (x8_2 + 1))) = some r := by first | (rw [hy37023]; with_reducible exact H) | (have H2_ := (Option.bind_some _ _).symm.trans H; rw [hy37023]; with_reducible exact H2_) | (have H2_ := (Option.bind_some _ _).symm.trans H; with_reducible exact H2_) | with_reducible exact H | (rw [hy37023]; exact H) | exact H
                            have Ny37023 := Aside0.mk hy37023
                            clear hy37023
                            have H' := Aside0.mk H
                            clear H
                            go_wp2_with (first | ((with_reducible refine gate_callee (f := 42) rfl ?_); refine goesL_ (some 60) rfl rfl Tryd.func42 (by kernel_rfl) rfl #[.int .i64 x9_19] rfl (by (try simp only [List.map_toArray, List.map_cons, List.map_nil]); first | done | rfl | (simp only [List.length_drop, List.length_take]; rfl)) ?_; (with_reducible refine (spec_l2Day.calls x9_19 true _ A36.out).mono ?_); rintro e w' ⟨rfl, ⟨nd, rfl⟩⟩; refine ⟨_, rfl, ?_⟩) | ((with_reducible refine gate_builtin (b := .append) (xs := #[.tmp 63, .tmp 67]) rfl ?_); at_builtin; refine Kd.R_append k66 (w0 := w) w.heap.size rfl (.tmp 63) (.tmp 67) 30 66 (.agg #[(.int .i64 0), (.int .i64 0)]) 16 rfl Tryd.underlying30 info66 rfl (by decide) (by omega) u7 x7_2 (⟨x1_2, x9_19⟩ : S66) [.int .i64 x1_2, .int .i64 x9_19] (fun _ => True) (fun _ => False) rfl rfl ?aP (fun _ hk => hk.elim) ?aF ?aO ?aB ?aS ?aL ?_; (case aP => exact k66_mkM _ _ _ (⟨x1_2, x9_19⟩ : S66)); (case aB => exact (by repeat (first | (with_reducible first | exact HB.out | apply below_alloc | apply pw_below_drewN | apply below_drew1) | exact HB.out))); (case aF => exact (fun _ _ => trivial)); (case aO => exact (by (with_reducible repeat (first | apply Kd.R_alloc | apply Kd.R_drewN | apply Kd.R_drew)); exact HO_7.out)); (case aS => exact (below_size (by repeat (first | (with_reducible first | exact HB.out | apply below_alloc | apply pw_below_drewN | apply below_drew1) | exact HB.out)))); (case aL => have := LMc38.out; omega); intro v37024 w39 ho hb hg hat; rw [← Ny37023.out] at ho; have n0_ := Aside0.mk (hb); have n1_ := Aside0.mk (ho); clear HB; clear HO_7; have HB := n0_; have HO37025 := n1_; clear n0_ n1_; clear ho hb hg hat))
                            go_roundg kj19
                            case measure => have := HJ3.out; have := HK2.out; have := HJ17.out; have := HJ19.out; omega
                            case rel => exact ⟨(wrap64 (x9_19 + 1)), (y37023), (wrap64 (x8_2 + 1)), (by first | rfl | (simp; done) | (simp [*]; done)), (by first | rfl | (simp; done) | (simp [*]; done)), H', ⟨by have := HJ3.out; have := HK2.out; have := HJ17.out; have := HJ19.out; omega⟩, ⟨by (with_reducible repeat (first | apply Kd.R_alloc | apply Kd.R_drewN | apply Kd.R_drew)); exact HO37025.out⟩, ⟨by repeat (first | (with_reducible first | exact HB.out | apply below_alloc | apply pw_below_drewN | apply below_drew1) | exact HB.out)⟩⟩
                          · rw [if_neg c38] at H
                            exact absurd H (by simp)
                        · replace c37 := Bool.eq_false_iff.mpr c37
                          subst c37
                          have H1 : (some (([] : List (S66)))) = some r := by rw [if_neg (show ¬ (false = true) by decide)] at H; exact H
                          clear H
                          have H := H1
                          clear H1
                          obtain ⟨y37026, hy37026⟩ : ∃ y_ : List (S66), y_ = (([] : List (S66))) := ⟨_, rfl⟩
                          replace H : (some y37026) = some r := by first | (rw [hy37026]; with_reducible exact H) | (have H2_ := (Option.bind_some _ _).symm.trans H; rw [hy37026]; with_reducible exact H2_) | (have H2_ := (Option.bind_some _ _).symm.trans H; with_reducible exact H2_) | with_reducible exact H | (rw [hy37026]; exact H) | exact H
                          have Ny37026 := Aside0.mk hy37026
                          clear hy37026
                          obtain rfl := Option.some.inj H
                          go_wp2_with (first | ((with_reducible refine gate_callee (f := 42) rfl ?_); refine goesL_ (some 60) rfl rfl Tryd.func42 (by kernel_rfl) rfl #[.int .i64 x9_19] rfl (by (try simp only [List.map_toArray, List.map_cons, List.map_nil]); first | done | rfl | (simp only [List.length_drop, List.length_take]; rfl)) ?_; (with_reducible refine (spec_l2Day.calls x9_19 false _ A36.out).mono ?_); rintro e w' ⟨rfl, ⟨nd, rfl⟩⟩; refine ⟨_, rfl, ?_⟩) | ((with_reducible refine gate_dst (N := 62) rfl ?_); refine Kd.R_lit k66 _ 66 ?hg (N := 62) ?hd (xs := ([] : List (S66))) (inner := []) (ok := fun _ => True) (okp := fun _ => True) ?hr ?hp (fun _ hk => hk) trivial (Below.refl _ _) (Nat.le_refl _) (by simp) ?_; (case hd => rfl); (case hg => rfl); (case hr => first | (go_simp; done) | (go_simp; rfl)); (case hp => exact (Reps.none _ _)); intro v37027 w40 ho41 hb hg_ hnew_; clear hg_ hnew_; (first | rw [← Ny37026.out] at ho41 | (simp only [Int.reduceToNat] at ho41; rw [← Ny37026.out] at ho41)); have n0_ := Aside0.mk (Kd.R_elder' (by (with_reducible repeat (first | apply Kd.R_alloc | apply Kd.R_drewN | apply Kd.R_drew)); exact HO_7.out) (Kd.R_base ho41) hb); have n1_ := Aside0.mk (Kd.R_lower (Kd.R_new' ho41 (Kd.R_lt (by (with_reducible repeat (first | apply Kd.R_alloc | apply Kd.R_drewN | apply Kd.R_drew)); exact HO_7.out))) (below_size (by repeat (first | (with_reducible first | exact HB.out | apply below_alloc | apply pw_below_drewN | apply below_drew1) | exact HB.out)))); have n2_ := Aside0.mk (below_step (by repeat (first | (with_reducible first | exact HB.out | apply below_alloc | apply pw_below_drewN | apply below_drew1) | exact HB.out)) hb); clear HO_7; clear HB; have HO_7 := n0_; have HO37028 := n1_; have HB := n2_; clear n0_ n1_ n2_; clear hb ho41))
                          go_ret
                          exact ⟨_, by first | rfl | (simp [errW_none, errW_some] <;> rfl) | (simp [*, errW_none, errW_some] <;> rfl), by (with_reducible repeat (first | apply Kd.R_alloc | apply Kd.R_drewN | apply Kd.R_drew)); exact Kd.R_mono HO37028.out (fun _ hk => trivial), by repeat (first | (with_reducible first | exact HB.out | apply below_alloc | apply pw_below_drewN | apply below_drew1) | exact HB.out)⟩
            · rw [if_neg c17] at H
              have c17b0 : decide (x8_2 < a2) = false := decide_eq_false c17
              clear c17
              obtain rfl := Option.some.inj H
              go_wp2
              go_ret
              exact ⟨_, by first | rfl | (simp [errW_none, errW_some] <;> rfl) | (simp [*, errW_none, errW_some] <;> rfl), by (with_reducible repeat (first | apply Kd.R_alloc | apply Kd.R_drewN | apply Kd.R_drew)); exact HO_7.out, by repeat (first | (with_reducible first | exact HB.out | apply below_alloc | apply pw_below_drewN | apply below_drew1) | exact HB.out)⟩
end Go.Proofs.YtjkjjfbcakbmnaaDoor.Q
