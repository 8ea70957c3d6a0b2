/- Parts of the proof: what functions of the program and of the reference answer.
   No condition. -/
import Derived.Test.YtphmnkcfjgallaaWRepsOne
import Derived.Test.YtphmnkcfjgallaaZC1
import Derived.Test.YtphmnkcfjgallaaZC2
import Derived.Test.YtphmnkcfjgallaaZC3
namespace Go.Proofs.Ytphmnkcfjgallaa.Q
open Go.RowKit Go.Proofs.YtphmnkcfjgallaaW.PrintWords Go.Proofs.YtphmnkcfjgallaaW.PrintLast Go.Proofs.YtphmnkcfjgallaaW.PrintMore
attribute [local go_sem] max2_int min2_int max_two min_two max_three min_three max_four min_four   -- for this text's walks alone
set_option linter.unusedVariables false
set_option linter.unusedSimpArgs false

/-! ### spec_HeadOf: function 92 -/
mutual
noncomputable def spec_HeadOf.l0 : Nat → List (S34) → Int → Int → Option (Int)
  | 0, _, _, _ => none
  | k + 1, x0, x3, x4 => if x4 < (x0.length : Int) then (if 0 ≤ x4 then (if (((rd_T34 x0 x4).f3).length : Int) > 60 then (spec_HeadOf.j1 k x0 x3 x4 true) else (spec_HeadOf.j1 k x0 x3 x4 (decide ((((rd_T34 x0 x4).f2).size : Int) > 40)))) else (none)) else (some x3)
noncomputable def spec_HeadOf.j1 : Nat → List (S34) → Int → Int → Bool → Option (Int)
  | 0, _, _, _, _ => none
  | k + 1, x0, x3, x4, x31 => if x31 = true then (some 0) else (if 0 ≤ x4 then (if x4 < (x0.length : Int) then ((spec_l5Numbers.f k ((rd_T34 x0 x4).f0) ((rd_T34 x0 x4).f1) ((rd_T34 x0 x4).f2) ((rd_T34 x0 x4).f3)).bind fun t122 => (spec_HeadOf.l1 k x0 x3 x4 t122 0)) else (none)) else (none))
noncomputable def spec_HeadOf.l1 : Nat → List (S34) → Int → Int → List Int → Int → Option (Int)
  | 0, _, _, _, _, _ => none
  | k + 1, x0, x3, x4, x5, x6 => if x6 < (x5.length : Int) then (if 0 ≤ x6 then ((spec_l1In.f (rd x5 x6) (-549755813888) 549755813887).bind fun t126 => (if t126 = true then (spec_HeadOf.l1 k x0 (Int.tmod (wrap64 ((wrap64 ((wrap64 (x3 * 1000003)) + (rd x5 x6))) + 549755813888)) 1099511627791) x4 x5 (wrap64 (x6 + 1))) else (some 0))) else (none)) else (spec_HeadOf.l0 k x0 x3 (wrap64 (x4 + 1)))
end
noncomputable def spec_HeadOf.f (k : Nat) (l0 : List (S34)) : Option (Int) := if (l0.length : Int) > 1000 then (some 0) else (spec_HeadOf.l0 k l0 1 0)
theorem spec_HeadOf.mono_l : ∀ k, (∀ y0 y1 y2, LeO (spec_HeadOf.l0 k y0 y1 y2) (spec_HeadOf.l0 (k + 1) y0 y1 y2)) ∧ (∀ y0 y1 y2 y3, LeO (spec_HeadOf.j1 k y0 y1 y2 y3) (spec_HeadOf.j1 (k + 1) y0 y1 y2 y3)) ∧ (∀ y0 y1 y2 y3 y4, LeO (spec_HeadOf.l1 k y0 y1 y2 y3 y4) (spec_HeadOf.l1 (k + 1) y0 y1 y2 y3 y4))
  | 0 => ⟨fun _ _ _ r h => by simp [spec_HeadOf.l0] at h, fun _ _ _ _ r h => by simp [spec_HeadOf.j1] at h, fun _ _ _ _ _ r h => by simp [spec_HeadOf.l1] at h⟩
  | k + 1 => by
    obtain ⟨ih0, ih1, ih2⟩ := spec_HeadOf.mono_l k
    refine ⟨?_, ?_, ?_⟩
    · intro y0 y1 y2
      unfold spec_HeadOf.l0
      repeat' first
      | (with_reducible exact ih0 _ _ _)
      | (with_reducible exact ih1 _ _ _ _)
      | (with_reducible exact ih2 _ _ _ _ _)
      | (with_reducible exact spec_l5Numbers.mono _ _ _ _ _)
      | (with_reducible exact LeO.refl _)
      | (with_reducible exact LeO.none _)
      | (with_reducible refine LeO.ite ?_ ?_)
      | (with_reducible refine LeO.bind ?_ (fun _ => ?_))
      | exact ih0 _ _ _
      | exact ih1 _ _ _ _
      | exact ih2 _ _ _ _ _
      | exact spec_l5Numbers.mono _ _ _ _ _
      | exact LeO.none _
      | refine LeO.ite ?_ ?_
      | refine LeO.bind ?_ (fun _ => ?_)
    · intro y0 y1 y2 y3
      unfold spec_HeadOf.j1
      repeat' first
      | (with_reducible exact ih0 _ _ _)
      | (with_reducible exact ih1 _ _ _ _)
      | (with_reducible exact ih2 _ _ _ _ _)
      | (with_reducible exact spec_l5Numbers.mono _ _ _ _ _)
      | (with_reducible exact LeO.refl _)
      | (with_reducible exact LeO.none _)
      | (with_reducible refine LeO.ite ?_ ?_)
      | (with_reducible refine LeO.bind ?_ (fun _ => ?_))
      | exact ih0 _ _ _
      | exact ih1 _ _ _ _
      | exact ih2 _ _ _ _ _
      | exact spec_l5Numbers.mono _ _ _ _ _
      | exact LeO.none _
      | refine LeO.ite ?_ ?_
      | refine LeO.bind ?_ (fun _ => ?_)
    · intro y0 y1 y2 y3 y4
      unfold spec_HeadOf.l1
      repeat' first
      | (with_reducible exact ih0 _ _ _)
      | (with_reducible exact ih1 _ _ _ _)
      | (with_reducible exact ih2 _ _ _ _ _)
      | (with_reducible exact spec_l5Numbers.mono _ _ _ _ _)
      | (with_reducible exact LeO.refl _)
      | (with_reducible exact LeO.none _)
      | (with_reducible refine LeO.ite ?_ ?_)
      | (with_reducible refine LeO.bind ?_ (fun _ => ?_))
      | exact ih0 _ _ _
      | exact ih1 _ _ _ _
      | exact ih2 _ _ _ _ _
      | exact spec_l5Numbers.mono _ _ _ _ _
      | exact LeO.none _
      | refine LeO.ite ?_ ?_
      | refine LeO.bind ?_ (fun _ => ?_)
theorem spec_HeadOf.mono : ∀ a0 k, LeO (spec_HeadOf.f k a0) (spec_HeadOf.f (k + 1) a0) := by
  intro a0 k
  obtain ⟨ih0, ih1, ih2⟩ := spec_HeadOf.mono_l k
  unfold spec_HeadOf.f
  repeat' first
      | (with_reducible exact ih0 _ _ _)
      | (with_reducible exact ih1 _ _ _ _)
      | (with_reducible exact ih2 _ _ _ _ _)
      | (with_reducible exact spec_l5Numbers.mono _ _ _ _ _)
      | (with_reducible exact LeO.refl _)
      | (with_reducible exact LeO.none _)
      | (with_reducible refine LeO.ite ?_ ?_)
      | (with_reducible refine LeO.bind ?_ (fun _ => ?_))
      | exact ih0 _ _ _
      | exact ih1 _ _ _ _
      | exact ih2 _ _ _ _ _
      | exact spec_l5Numbers.mono _ _ _ _ _
      | exact LeO.none _
      | refine LeO.ite ?_ ?_
      | refine LeO.bind ?_ (fun _ => ?_)
set_option maxHeartbeats 8000000 in
set_option maxRecDepth 100000 in
theorem spec_HeadOf.calls (k : Nat) (A0 : Option Addr) (c0 : Nat) (l0 : List (S34)) (r : Int) (w : World) (hr0 : Kd.C k34 w A0 l0.length l0) (hc0 : l0.length ≤ c0) (h : spec_HeadOf.f k l0 = some r) :
    Calls Try.prog 92 #[.slice A0 l0.length c0] w fun e w' => e = .returned (.int .i64 r) ∧ Below w.heap.size w w' := by
  have hu34 := Try.underlying34
  have HR0 := Aside0.mk hr0
  have HC0 := Aside0.mk hc0
  clear hr0 hc0
  have HB := Aside0.mk (Below.refl w.heap.size w)
  have H : (if (l0.length : Int) > 1000 then (some 0) else (spec_HeadOf.l0 k l0 1 0)) = some r := h
  clear h
  by_cases c2 : (l0.length : Int) > 1000
  · rw [if_pos c2] at H
    have c2b0 : decide (1000 < (l0.length : Int)) = true := decide_eq_true c2
    have c2b1 : decide (1000 < l0.length) = true := decide_eq_true (by omega)
    clear c2
    obtain rfl := Option.some.inj H
    go_enter Try.func92, Try.ntmps92
    go_wp2
    go_ret
    exact ⟨by first | rfl | (simp [errW_none, errW_some] <;> rfl) | (simp [*, errW_none, errW_some] <;> rfl), by repeat (first | (with_reducible first | exact HB.out | apply below_alloc | apply pw_below_drewN | apply below_drew1) | exact HB.out)⟩
  · rw [if_neg c2] at H
    have c2b0 : decide (1000 < (l0.length : Int)) = false := decide_eq_false c2
    have c2b1 : decide (1000 < l0.length) = false := decide_eq_false (by omega)
    clear c2
    have H' := Aside0.mk H
    clear H
    go_enter Try.func92, Try.ntmps92
    go_wp2
    go_loopg [3, 4] k (fun kq v3 v4 w' => ∃ (x3_1 : Int) (x4_1 : Int), v3 = .int .i64 x3_1 ∧ v4 = .int .i64 x4_1 ∧ Aside0 (spec_HeadOf.l0 kq l0 x3_1 x4_1 = some r) ∧ Aside0 (kq ≤ k) ∧ Aside0 (Below w.heap.size w w'))
    case atStart => exact ⟨(1), (0), (by first | rfl | (simp; done) | (simp [*]; done)), (by first | rfl | (simp; done) | (simp [*]; done)), H', ⟨Nat.le_refl _⟩, ⟨by repeat (first | (with_reducible first | exact HB.out | apply below_alloc | apply pw_below_drewN | apply below_drew1) | exact HB.out)⟩⟩
    case round =>
      clear H'
      try clear c2
      try clear c2b0
      try clear c2b1
      try clear p2
      obtain ⟨x3_1, x4_1, rfl, rfl, HA, HK1, HB⟩ := hrel
      cases gk with
      | zero => exact absurd HA.out (by simp [spec_HeadOf.l0])
      | succ k1 =>
        have H := HA.out
        clear HA
        simp only [spec_HeadOf.l0] at H
        by_cases c3 : x4_1 < (l0.length : Int)
        · rw [if_pos c3] at H
          have c3b0 : decide (x4_1 < (l0.length : Int)) = true := decide_eq_true c3
          clear c3
          have HC4 := Aside0.mk H
          clear H
          go_upto_region 7 with (fail)
          go_cut [31] (fun v31 wc => ∃ (kq : Nat) (x31_3 : Bool), v31 = .bool x31_3 ∧ Aside0 (spec_HeadOf.j1 kq l0 x3_1 x4_1 x31_3 = some r) ∧ Aside0 (kq ≤ k1) ∧ Aside0 (Below w.heap.size w wc))
          case first =>
            have H := HC4.out
            clear HC4
            by_cases c5 : 0 ≤ x4_1
            · rw [if_pos c5] at H
              have c5b0 : decide (0 ≤ x4_1) = true := decide_eq_true c5
              clear c5
              (first | rw [c5b0] | (simp only [i64_w, i32_w]; rw [c5b0]) | skip)
              by_cases c6 : (((rd_T34 l0 x4_1).f3).length : Int) > 60
              · rw [if_pos c6] at H
                have c6b0 : decide (60 < (((rd_T34 l0 x4_1).f3).length : Int)) = true := decide_eq_true c6
                have c6b1 : decide (60 < ((rd_T34 l0 x4_1).f3).length) = true := decide_eq_true (by omega)
                clear c6
                have H' := Aside0.mk H
                clear H
                have p119 : 0 ≤ (x4_1 : Int) := of_decide_eq_true (by first | (with_reducible assumption) | assumption)
                have q119 : x4_1 < (l0.length : Int) := of_decide_eq_true (by first | (with_reducible assumption) | assumption)
                obtain ⟨ad119, A119_3, c119_3, e119, hx119_0, hx119_1, hx119_2, hx119_3, hl119_3, hi119_3⟩ := at_T34 HR0.out x4_1 p119 q119
                cases e119
                replace hx119_0 := (HB.out.cell (World.block_lt_of_cell? w _ hx119_0)).trans hx119_0
                replace hx119_1 := (HB.out.cell (World.block_lt_of_cell? w _ hx119_1)).trans hx119_1
                replace hx119_2 := (HB.out.cell (World.block_lt_of_cell? w _ hx119_2)).trans hx119_2
                replace hx119_3 := (HB.out.cell (World.block_lt_of_cell? w _ hx119_3)).trans hx119_3
                have HR119_3 := Aside0.mk hi119_3
                have HC119_3 := Aside0.mk hl119_3
                clear hi119_3 hl119_3
                replace p119 := eq_true p119
                replace q119 := eq_true q119
                go_wp2
                go_meet
                case rel => exact ⟨_, (true), (by first | rfl | (simp; done) | (simp [*]; done)), H', ⟨by have := HK1.out; first | omega | exact Nat.le_refl _⟩, ⟨by repeat (first | (with_reducible first | exact HB.out | apply below_alloc | apply pw_below_drewN | apply below_drew1) | exact HB.out)⟩⟩
              · rw [if_neg c6] at H
                have c6b0 : decide (60 < (((rd_T34 l0 x4_1).f3).length : Int)) = false := decide_eq_false c6
                have c6b1 : decide (60 < ((rd_T34 l0 x4_1).f3).length) = false := decide_eq_false (by omega)
                clear c6
                have H' := Aside0.mk H
                clear H
                have p119 : 0 ≤ (x4_1 : Int) := of_decide_eq_true (by first | (with_reducible assumption) | assumption)
                have q119 : x4_1 < (l0.length : Int) := of_decide_eq_true (by first | (with_reducible assumption) | assumption)
                obtain ⟨ad119, A119_3, c119_3, e119, hx119_0, hx119_1, hx119_2, hx119_3, hl119_3, hi119_3⟩ := at_T34 HR0.out x4_1 p119 q119
                cases e119
                replace hx119_0 := (HB.out.cell (World.block_lt_of_cell? w _ hx119_0)).trans hx119_0
                replace hx119_1 := (HB.out.cell (World.block_lt_of_cell? w _ hx119_1)).trans hx119_1
                replace hx119_2 := (HB.out.cell (World.block_lt_of_cell? w _ hx119_2)).trans hx119_2
                replace hx119_3 := (HB.out.cell (World.block_lt_of_cell? w _ hx119_3)).trans hx119_3
                have HR119_3 := Aside0.mk hi119_3
                have HC119_3 := Aside0.mk hl119_3
                clear hi119_3 hl119_3
                replace p119 := eq_true p119
                replace q119 := eq_true q119
                have p120 : 0 ≤ (x4_1 : Int) := of_decide_eq_true (by first | (with_reducible assumption) | assumption)
                have q120 : x4_1 < (l0.length : Int) := of_decide_eq_true (by first | (with_reducible assumption) | assumption)
                obtain ⟨ad120, A120_3, c120_3, e120, hx120_0, hx120_1, hx120_2, hx120_3, hl120_3, hi120_3⟩ := at_T34 HR0.out x4_1 p120 q120
                obtain rfl : ad119 = ad120 := (by injection e120)
                replace hx120_0 := (HB.out.cell (World.block_lt_of_cell? w _ hx120_0)).trans hx120_0
                replace hx120_1 := (HB.out.cell (World.block_lt_of_cell? w _ hx120_1)).trans hx120_1
                replace hx120_2 := (HB.out.cell (World.block_lt_of_cell? w _ hx120_2)).trans hx120_2
                replace hx120_3 := (HB.out.cell (World.block_lt_of_cell? w _ hx120_3)).trans hx120_3
                have HR120_3 := Aside0.mk hi120_3
                have HC120_3 := Aside0.mk hl120_3
                clear hi120_3 hl120_3
                replace p120 := eq_true p120
                replace q120 := eq_true q120
                have ea_ := Option.some.inj (hx119_3.symm.trans hx120_3)
                injection ea_ with ea_ en_ ec_
                subst ea_
                subst ec_
                clear en_
                go_wp2
                go_meet
                case rel => exact ⟨_, (decide ((((rd_T34 l0 x4_1).f2).size : Int) > 40)), (by first | rfl | (simp; done) | (simp [*]; done)), H', ⟨by have := HK1.out; first | omega | exact Nat.le_refl _⟩, ⟨by repeat (first | (with_reducible first | exact HB.out | apply below_alloc | apply pw_below_drewN | apply below_drew1) | exact HB.out)⟩⟩
            · rw [if_neg c5] at H
              exact absurd H (by simp)
          case rest =>
            clear HC4
            try clear c1
            try clear p1
            try clear q1
            try clear hx1
            try clear c2
            try clear c2b0
            try clear c2b1
            try clear p2
            try clear c3
            try clear c3b0
            try clear c5
            try clear c5b0
            try clear c6
            try clear c6b0
            try clear c6b1
            try clear hx119_0
            try clear hx119_1
            try clear hx119_2
            try clear hx119_3
            try clear hx120_0
            try clear hx120_1
            try clear hx120_2
            try clear hx120_3
            try clear p119
            try clear p120
            try clear p2
            try clear q119
            try clear q120
            obtain ⟨kq, x31_3, rfl, HA, HJ3, HB⟩ := hcut
            cases kq with
            | zero => exact absurd HA.out (by simp [spec_HeadOf.j1])
            | succ kj3 =>
              have H := HA.out
              clear HA
              simp only [spec_HeadOf.j1] at H
              by_cases c7 : x31_3 = true
              · subst c7
                have H1 : (some 0) = some r := by rw [if_pos rfl] at H; exact H
                clear H
                have H := H1
                clear H1
                obtain rfl := Option.some.inj H
                go_wp2
                go_ret
                exact ⟨by first | rfl | (simp [errW_none, errW_some] <;> rfl) | (simp [*, errW_none, errW_some] <;> rfl), by repeat (first | (with_reducible first | exact HB.out | apply below_alloc | apply pw_below_drewN | apply below_drew1) | exact HB.out)⟩
              · replace c7 := Bool.eq_false_iff.mpr c7
                subst c7
                have H1 : (if 0 ≤ x4_1 then (if x4_1 < (l0.length : Int) then ((spec_l5Numbers.f kj3 ((rd_T34 l0 x4_1).f0) ((rd_T34 l0 x4_1).f1) ((rd_T34 l0 x4_1).f2) ((rd_T34 l0 x4_1).f3)).bind fun t122 => (spec_HeadOf.l1 kj3 l0 x3_1 x4_1 t122 0)) else (none)) else (none)) = some r := by rw [if_neg (show ¬ (false = true) by decide)] at H; exact H
                clear H
                have H := H1
                clear H1
                by_cases c8 : 0 ≤ x4_1
                · rw [if_pos c8] at H
                  have c8b0 : decide (0 ≤ x4_1) = true := decide_eq_true c8
                  clear c8
                  by_cases c9 : x4_1 < (l0.length : Int)
                  · rw [if_pos c9] at H
                    have c9b0 : decide (x4_1 < (l0.length : Int)) = true := decide_eq_true c9
                    clear c9
                    replace H := Option.bind_eq_some_iff.mp H
                    obtain ⟨t122, A100, H⟩ := H
                    replace H : (spec_HeadOf.l1 kj3 l0 x3_1 x4_1 t122 0) = some r := H
                    have A10 := Aside0.mk A100
                    clear A100
                    have H' := Aside0.mk H
                    clear H
                    have p121 : 0 ≤ (x4_1 : Int) := of_decide_eq_true (by first | (with_reducible assumption) | assumption)
                    have q121 : x4_1 < (l0.length : Int) := of_decide_eq_true (by first | (with_reducible assumption) | assumption)
                    obtain ⟨ad121, A121_3, c121_3, e121, hx121_0, hx121_1, hx121_2, hx121_3, hl121_3, hi121_3⟩ := at_T34 HR0.out x4_1 p121 q121
                    cases e121
                    replace hx121_0 := (HB.out.cell (World.block_lt_of_cell? w _ hx121_0)).trans hx121_0
                    replace hx121_1 := (HB.out.cell (World.block_lt_of_cell? w _ hx121_1)).trans hx121_1
                    replace hx121_2 := (HB.out.cell (World.block_lt_of_cell? w _ hx121_2)).trans hx121_2
                    replace hx121_3 := (HB.out.cell (World.block_lt_of_cell? w _ hx121_3)).trans hx121_3
                    have HR121_3 := Aside0.mk hi121_3
                    have HC121_3 := Aside0.mk hl121_3
                    clear hi121_3 hl121_3
                    replace p121 := eq_true p121
                    replace q121 := eq_true q121
                    go_wp2_with (first | ((with_reducible refine gate_callee (f := 137) rfl ?_); refine goesL_ (some 36) rfl rfl Try.func137 (by kernel_rfl) rfl #[.agg #[.int .i64 ((rd_T34 l0 x4_1).f0), .int .i64 ((rd_T34 l0 x4_1).f1), .string ((rd_T34 l0 x4_1).f2), .slice A121_3 ((rd_T34 l0 x4_1).f3).length c121_3]] rfl (by (try simp only [List.map_toArray, List.map_cons, List.map_nil]); first | done | rfl | (simp only [List.length_drop, List.length_take]; rfl)) ?_; (with_reducible refine (spec_l5Numbers.calls kj3 ((rd_T34 l0 x4_1).f0) ((rd_T34 l0 x4_1).f1) ((rd_T34 l0 x4_1).f2) _ _ ((rd_T34 l0 x4_1).f3) t122 _ ?side1 ?side2 A10.out).mono ?_); (case side1 => repeat (first | exact (Kd.C_below HR121_3.out HB.out) | (with_reducible refine Kd.C_alloc ?_ _) | (with_reducible refine Kd.C_drewN ?_ _) | (with_reducible refine Kd.C_drew ?_))); (case side2 => exact HC121_3.out); rintro e w11 ⟨v123, rfl, ho0, hb⟩; refine ⟨_, rfl, ?_⟩; have n0_ := Aside0.mk (Kd.R_lower ho0 (below_size (by repeat (first | (with_reducible first | exact HB.out | apply below_alloc | apply pw_below_drewN | apply below_drew1) | exact HB.out)))); have n1_ := Aside0.mk (below_step (by repeat (first | (with_reducible first | exact HB.out | apply below_alloc | apply pw_below_drewN | apply below_drew1) | exact HB.out)) hb); clear HB; have HO124 := n0_; have HB := n1_; clear n0_ n1_; (try clear hb); (try clear hb2); (try clear hk); (try clear hi); (try clear ho0)))
                    go_loopg [3, 6] kj3 (fun kq v3 v6 w' => ∃ (x3_3 : Int) (x6_3 : Int), v3 = .int .i64 x3_3 ∧ v6 = .int .i64 x6_3 ∧ Aside0 (spec_HeadOf.l1 kq l0 x3_3 x4_1 t122 x6_3 = some r) ∧ Aside0 (kq ≤ kj3) ∧ Aside0 (Kd.R (Kd.int .i64) 3 w' w.heap.size (fun _ => True) v123 t122) ∧ Aside0 (Below w.heap.size w w'))
                    case atStart => exact ⟨(x3_1), (0), (by first | rfl | (simp; done) | (simp [*]; done)), (by first | rfl | (simp; done) | (simp [*]; done)), H', ⟨Nat.le_refl _⟩, ⟨by (with_reducible repeat (first | apply Kd.R_alloc | apply Kd.R_drewN | apply Kd.R_drew)); exact HO124.out⟩, ⟨by repeat (first | (with_reducible first | exact HB.out | apply below_alloc | apply pw_below_drewN | apply below_drew1) | exact HB.out)⟩⟩
                    case round =>
                      clear H'
                      try clear c1
                      try clear p1
                      try clear q1
                      try clear hx1
                      try clear c2
                      try clear c2b0
                      try clear c2b1
                      try clear p2
                      try clear c3
                      try clear c3b0
                      try clear c5
                      try clear c5b0
                      try clear c6
                      try clear c6b0
                      try clear c6b1
                      try clear c7
                      try clear c8
                      try clear c8b0
                      try clear c9
                      try clear c9b0
                      try clear c11
                      try clear p11
                      try clear q11
                      try clear hx11
                      try clear hx119_0
                      try clear hx119_1
                      try clear hx119_2
                      try clear hx119_3
                      try clear hx120_0
                      try clear hx120_1
                      try clear hx120_2
                      try clear hx120_3
                      try clear hx121_0
                      try clear hx121_1
                      try clear hx121_2
                      try clear hx121_3
                      try clear p1
                      try clear p119
                      try clear p120
                      try clear p121
                      try clear p2
                      try clear q1
                      try clear q119
                      try clear q120
                      try clear q121
                      obtain ⟨x3_3, x6_3, rfl, rfl, HA, HK3, HO_5, HB⟩ := hrel
                      cases gk with
                      | zero => exact absurd HA.out (by simp [spec_HeadOf.l1])
                      | succ k3 =>
                        have H := HA.out
                        clear HA
                        simp only [spec_HeadOf.l1] at H
                        by_cases c12 : x6_3 < (t122.length : Int)
                        · rw [if_pos c12] at H
                          have c12b0 : decide (x6_3 < (t122.length : Int)) = true := decide_eq_true c12
                          clear c12
                          by_cases c13 : 0 ≤ x6_3
                          · rw [if_pos c13] at H
                            have c13b0 : decide (0 ≤ x6_3) = true := decide_eq_true c13
                            clear c13
                            replace H := Option.bind_eq_some_iff.mp H
                            obtain ⟨t126, A140, H⟩ := H
                            replace H : (if t126 = true then (spec_HeadOf.l1 k3 l0 (Int.tmod (wrap64 ((wrap64 ((wrap64 (x3_3 * 1000003)) + (rd t122 x6_3))) + 549755813888)) 1099511627791) x4_1 t122 (wrap64 (x6_3 + 1))) else (some 0)) = some r := H
                            have A14 := Aside0.mk A140
                            clear A140
                            by_cases c15 : t126 = true
                            · subst c15
                              have H1 : (spec_HeadOf.l1 k3 l0 (Int.tmod (wrap64 ((wrap64 ((wrap64 (x3_3 * 1000003)) + (rd t122 x6_3))) + 549755813888)) 1099511627791) x4_1 t122 (wrap64 (x6_3 + 1))) = some r := by rw [if_pos rfl] at H; exact H
                              clear H
                              have H := H1
                              clear H1
                              have H' := Aside0.mk H
                              clear H
                              obtain ⟨Ao16, co16, eo16⟩ := Kd.R_slice HO_5.out
                              subst eo16
                              have p125 : 0 ≤ (x6_3 : Int) := of_decide_eq_true (by first | (with_reducible assumption) | assumption)
                              have q125 : x6_3 < (t122.length : Int) := of_decide_eq_true (by first | (with_reducible assumption) | assumption)
                              obtain ⟨ad125, e125, hx125_0⟩ := Kd.at_int (Kd.R_reads' HO_5.out).2.2 x6_3 p125 q125
                              cases e125
                              replace p125 := eq_true p125
                              replace q125 := eq_true q125
                              go_wp2_with (first | ((with_reducible refine gate_callee (f := 79) rfl ?_); refine goesL_ (some 47) rfl rfl Try.func79 (by kernel_rfl) rfl #[.int .i64 (rd t122 x6_3), .int .i64 (-549755813888), .int .i64 549755813887] rfl (by (try simp only [List.map_toArray, List.map_cons, List.map_nil]); first | done | rfl | (simp only [List.length_drop, List.length_take]; rfl)) ?_; (with_reducible refine (spec_l1In.calls (rd t122 x6_3) (-549755813888) 549755813887 true _ A14.out).mono ?_); rintro e w' ⟨rfl, ⟨nd, rfl⟩⟩; refine ⟨_, rfl, ?_⟩; have p127 : 0 ≤ (x6_3 : Int) := of_decide_eq_true (by first | (with_reducible assumption) | assumption); have q127 : x6_3 < (t122.length : Int) := of_decide_eq_true (by first | (with_reducible assumption) | assumption); obtain ⟨ad127, e127, hx127_0⟩ := Kd.at_int (Kd.R_reads' HO_5.out).2.2 x6_3 p127 q127; obtain rfl : ad125 = ad127 := (by injection e127); replace p127 := eq_true p127; replace q127 := eq_true q127))
                              go_roundg k3
                              case measure => have := HK1.out; have := HJ3.out; have := HK3.out; omega
                              case rel => exact ⟨(Int.tmod (wrap64 ((wrap64 ((wrap64 (x3_3 * 1000003)) + (rd t122 x6_3))) + 549755813888)) 1099511627791), (wrap64 (x6_3 + 1)), (by first | rfl | (simp; done) | (simp [*]; done)), (by first | rfl | (simp; done) | (simp [*]; done)), H', ⟨by have := HK1.out; have := HJ3.out; have := HK3.out; omega⟩, ⟨by (with_reducible repeat (first | apply Kd.R_alloc | apply Kd.R_drewN | apply Kd.R_drew)); exact HO_5.out⟩, ⟨by repeat (first | (with_reducible first | exact HB.out | apply below_alloc | apply pw_below_drewN | apply below_drew1) | exact HB.out)⟩⟩
                            · replace c15 := Bool.eq_false_iff.mpr c15
                              subst c15
                              have H1 : (some 0) = some r := by rw [if_neg (show ¬ (false = true) by decide)] at H; exact H
                              clear H
                              have H := H1
                              clear H1
                              obtain rfl := Option.some.inj H
                              obtain ⟨Ao17, co17, eo17⟩ := Kd.R_slice HO_5.out
                              subst eo17
                              have p125 : 0 ≤ (x6_3 : Int) := of_decide_eq_true (by first | (with_reducible assumption) | assumption)
                              have q125 : x6_3 < (t122.length : Int) := of_decide_eq_true (by first | (with_reducible assumption) | assumption)
                              obtain ⟨ad125, e125, hx125_0⟩ := Kd.at_int (Kd.R_reads' HO_5.out).2.2 x6_3 p125 q125
                              cases e125
                              replace p125 := eq_true p125
                              replace q125 := eq_true q125
                              go_wp2_with (first | ((with_reducible refine gate_callee (f := 79) rfl ?_); refine goesL_ (some 47) rfl rfl Try.func79 (by kernel_rfl) rfl #[.int .i64 (rd t122 x6_3), .int .i64 (-549755813888), .int .i64 549755813887] rfl (by (try simp only [List.map_toArray, List.map_cons, List.map_nil]); first | done | rfl | (simp only [List.length_drop, List.length_take]; rfl)) ?_; (with_reducible refine (spec_l1In.calls (rd t122 x6_3) (-549755813888) 549755813887 false _ A14.out).mono ?_); rintro e w' ⟨rfl, ⟨nd, rfl⟩⟩; refine ⟨_, rfl, ?_⟩))
                              go_ret
                              exact ⟨by first | rfl | (simp [errW_none, errW_some] <;> rfl) | (simp [*, errW_none, errW_some] <;> rfl), by repeat (first | (with_reducible first | exact HB.out | apply below_alloc | apply pw_below_drewN | apply below_drew1) | exact HB.out)⟩
                          · rw [if_neg c13] at H
                            exact absurd H (by simp)
                        · rw [if_neg c12] at H
                          have c12b0 : decide (x6_3 < (t122.length : Int)) = false := decide_eq_false c12
                          clear c12
                          have H' := Aside0.mk H
                          clear H
                          obtain ⟨Ao18, co18, eo18⟩ := Kd.R_slice HO_5.out
                          subst eo18
                          go_wp2
                          go_roundg k3
                          case measure => have := HK1.out; have := HJ3.out; have := HK3.out; omega
                          case rel => exact ⟨(x3_3), (wrap64 (x4_1 + 1)), (by first | rfl | (simp; done) | (simp [*]; done)), (by first | rfl | (simp; done) | (simp [*]; done)), H', ⟨by have := HK1.out; have := HJ3.out; have := HK3.out; omega⟩, ⟨by repeat (first | (with_reducible first | exact HB.out | apply below_alloc | apply pw_below_drewN | apply below_drew1) | exact HB.out)⟩⟩
                  · rw [if_neg c9] at H
                    exact absurd H (by simp)
                · rw [if_neg c8] at H
                  exact absurd H (by simp)
        · rw [if_neg c3] at H
          have c3b0 : decide (x4_1 < (l0.length : Int)) = false := decide_eq_false c3
          clear c3
          obtain rfl := Option.some.inj H
          go_wp2
          go_ret
          exact ⟨by first | rfl | (simp [errW_none, errW_some] <;> rfl) | (simp [*, errW_none, errW_some] <;> rfl), by repeat (first | (with_reducible first | exact HB.out | apply below_alloc | apply pw_below_drewN | apply below_drew1) | exact HB.out)⟩

end Go.Proofs.Ytphmnkcfjgallaa.Q
namespace Go.Proofs.Ytphmnkcfjgallaa.Q
open Go.RowKit Go.Proofs.YtphmnkcfjgallaaW.PrintWords Go.Proofs.YtphmnkcfjgallaaW.PrintLast Go.Proofs.YtphmnkcfjgallaaW.PrintMore
attribute [local go_sem] max2_int min2_int max_two min_two max_three min_three max_four min_four   -- for this text's walks alone
set_option linter.unusedVariables false
set_option linter.unusedSimpArgs false

/-! ### hand text d5_specledger.lean -/
open Classical in
noncomputable def headR (h : Int) : List Ent → Int
  | [] => h
  | e :: l => if tooLong e then 0 else if (linkAll (h, false) (numsOf e)).2 = true then 0 else headR (linkAll (h, false) (numsOf e)).1 l
theorem linkStep_bad (h x : Int) : (linkStep (h, true) x).2 = true := by unfold linkStep; split <;> rfl
theorem linkAll_bad (xs : List Int) : ∀ s : Int × Bool, s.2 = true → (linkAll s xs).2 = true := by
  induction xs with
  | nil => intro s h; exact h
  | cons x xs ih =>
    intro s h
    obtain ⟨a, b⟩ := s
    cases h
    exact ih _ (linkStep_bad a x)
theorem headR_eq (l : List Ent) : ∀ h : Int, headR h l = open Classical in if ∃ e ∈ l, tooLong e then 0 else if (linkAll (h, false) (l.flatMap numsOf)).2 = true then 0 else (linkAll (h, false) (l.flatMap numsOf)).1 := by
  induction l with
  | nil => intro h; simp [headR, linkAll]
  | cons e l ih =>
    intro h
    unfold headR
    by_cases ht : tooLong e
    · rw [if_pos ht, if_pos ⟨e, List.mem_cons_self, ht⟩]
    · rw [if_neg ht]
      have hq : (∃ x ∈ e :: l, tooLong x) ↔ ∃ x ∈ l, tooLong x := by
        constructor
        · rintro ⟨x, hx, q⟩
          rcases List.mem_cons.1 hx with rfl | hx
          · exact absurd q ht
          · exact ⟨x, hx, q⟩
        · rintro ⟨x, hx, q⟩
          exact ⟨x, List.mem_cons_of_mem _ hx, q⟩
      rw [List.flatMap_cons, linkAll_append]
      by_cases hE : ∃ x ∈ l, tooLong x
      · rw [if_pos (hq.2 hE), ih, if_pos hE]
        split <;> rfl
      · rw [if_neg (fun q => hE (hq.1 q))]
        cases hb : (linkAll (h, false) (numsOf e)).2 with
        | true => rw [if_pos rfl, if_pos (linkAll_bad _ _ hb)]
        | false =>
          rw [if_neg (by simp), ih, if_neg hE]
          rw [show linkAll (h, false) (numsOf e) = ((linkAll (h, false) (numsOf e)).1, false) from Prod.ext rfl hb]
theorem headV_eq (l : List Ent) : headV l = if 1000 < l.length then 0 else headR 1 l := by
  unfold headV
  rw [headR_eq]
  by_cases h : 1000 < l.length
  · rw [if_pos h, if_pos (Or.inl h)]
  · rw [if_neg h]
    by_cases hE : ∃ e ∈ l, tooLong e
    · rw [if_pos (Or.inr hE), if_pos hE]
    · rw [if_neg (fun q => q.elim h hE), if_neg hE]
theorem nums_l1 (a0 a1 : Int) (t : ByteArray) (ls : List Lin) (hl : ls.length ≤ 60) : ∀ (n k : Nat) (i : Int) (acc : List Int), 0 ≤ i → i + n = (ls.length : Int) → acc.length + 5 * n ≤ 1000 →
    spec_l5Numbers.l1 (k + n + 1) acc i a0 a1 t ls = some (acc ++ (ls.drop i.toNat).flatMap lineNums) := by
  intro n
  induction n with
  | zero =>
    intro k i acc h0 h1 h2
    unfold spec_l5Numbers.l1
    rw [if_neg (by omega), List.drop_of_length_le (by omega)]
    simp
  | succ n ih =>
    intro k i acc h0 h1 h2
    rw [show k + (n + 1) + 1 = (k + n + 1) + 1 by omega]
    unfold spec_l5Numbers.l1
    rw [if_pos (by omega), if_pos h0]
    show (if acc.length + 5 < 17592186044416 then _ else _) = _
    rw [if_pos (by omega), show wrap64 (i + 1) = i + 1 by unfold wrap64; omega]
    rw [ih k (i + 1) _ (by omega) (by omega) (by simp; omega)]
    rw [List.append_assoc]
    congr 2
    rw [List.drop_eq_getElem_cons (show i.toNat < ls.length by omega), List.flatMap_cons, show (i + 1).toNat = i.toNat + 1 by omega]
    congr 1
    unfold rd_T112 lineNums
    rw [List.getD_eq_getElem?_getD, List.getElem?_eq_getElem (by omega)]
    rfl
theorem nums_l0 (e : Ent) (hl : e.f3.length ≤ 60) (ht : e.f2.size ≤ 40) : ∀ (n k : Nat) (i : Int), 0 ≤ i → i + n = (e.f2.size : Int) →
    spec_l5Numbers.l0 (k + n + e.f3.length + 2) ([e.f0, e.f1, (e.f2.size : Int)] ++ bytesN e.f2 i.toNat) i e.f0 e.f1 e.f2 e.f3 = some (numsOf e) := by
  have hb : ∀ m : Nat, (bytesN e.f2 m).length = m := by
    intro m
    induction m with
    | zero => rfl
    | succ m ih => simp [bytesN, ih]
  intro n
  induction n with
  | zero =>
    intro k i h0 h1
    obtain rfl : i = (e.f2.size : Int) := by omega
    rw [show k + 0 + e.f3.length + 2 = (k + e.f3.length + 1) + 1 by omega]
    unfold spec_l5Numbers.l0
    rw [if_neg (by omega), if_pos (by simp [hb]; omega), nums_l1 _ _ _ _ hl e.f3.length k 0 _ (by omega) (by omega) (by simp [hb]; omega)]
    unfold numsOf
    simp
  | succ n ih =>
    intro k i h0 h1
    rw [show k + (n + 1) + e.f3.length + 2 = (k + n + e.f3.length + 2) + 1 by omega]
    unfold spec_l5Numbers.l0
    rw [if_pos (by omega), if_pos h0, if_pos (by simp [hb]; omega)]
    have hr := bt_range e.f2 i
    rw [show wrap64 (i + 1) = i + 1 by unfold wrap64; omega, show wrap64 (bt e.f2 i) = bt e.f2 i by unfold wrap64; omega]
    have hs := ih k (i + 1) (by omega) (by omega)
    rw [show (i + 1).toNat = i.toNat + 1 by omega] at hs
    rw [← hs, List.append_assoc]
    show _ = spec_l5Numbers.l0 _ (_ ++ (bytesN e.f2 i.toNat ++ [bt e.f2 (i.toNat : Int)])) _ _ _ _ _
    rw [show ((i.toNat : Nat) : Int) = i by omega]
theorem nums_f (e : Ent) (h : ¬ tooLong e) {k : Nat} (hk : 200 ≤ k) : spec_l5Numbers.f k e.f0 e.f1 e.f2 e.f3 = some (numsOf e) := by
  unfold tooLong at h
  have := nums_l0 e (by omega) (by omega) e.f2.size (k - e.f2.size - e.f3.length - 2) 0 (by omega) (by omega)
  rw [show k - e.f2.size - e.f3.length - 2 + e.f2.size + e.f3.length + 2 = k by omega] at this
  exact this
theorem nums_len (e : Ent) (h : ¬ tooLong e) : (numsOf e).length ≤ 350 := by
  unfold tooLong at h
  have hb : ∀ m : Nat, (bytesN e.f2 m).length = m := by
    intro m
    induction m with
    | zero => rfl
    | succ m ih => simp [bytesN, ih]
  have hf : ∀ l : List Lin, (l.flatMap lineNums).length = 5 * l.length := by
    intro l
    induction l with
    | nil => rfl
    | cons x l ih => rw [List.flatMap_cons, List.length_append, ih]; simp [lineNums]; omega
  unfold numsOf
  simp only [List.length_append, hb, hf, List.length_cons, List.length_nil]
  omega
theorem link_wrap {h x : Int} (hh : HeadIn (h, false)) (hx : inB x (-549755813888) 549755813887 = true) : ((Int.tmod (wrap64 ((wrap64 ((wrap64 (h * 1000003)) + x)) + 549755813888)) 1099511627791), false) = linkStep (h, false) x := by
  obtain ⟨h0, h1⟩ := hh
  have hx' := inB_true.1 hx
  simp only at h0 h1
  rw [show wrap64 (h * 1000003) = h * 1000003 by unfold wrap64; omega, show wrap64 (h * 1000003 + x) = h * 1000003 + x by unfold wrap64; omega, show wrap64 (h * 1000003 + x + 549755813888) = h * 1000003 + x + 549755813888 by unfold wrap64; omega]
  unfold linkStep
  rw [if_pos hx', Int.tmod_eq_emod_of_nonneg (by omega)]
theorem link_out {h x : Int} (hx : inB x (-549755813888) 549755813887 = false) : linkStep (h, false) x = (h, true) := if_neg (inB_false.1 hx)
theorem head_l1 (l : List Ent) (xs : List Int) (i : Int) : ∀ (n k : Nat) (h j : Int), 0 ≤ j → j + n = (xs.length : Int) → xs.length ≤ 350 → HeadIn (h, false) →
    spec_HeadOf.l1 (k + n + 1) l h i xs j = if (linkAll (h, false) (xs.drop j.toNat)).2 = true then some 0 else spec_HeadOf.l0 k l (linkAll (h, false) (xs.drop j.toNat)).1 (wrap64 (i + 1)) := by
  intro n
  induction n with
  | zero =>
    intro k h j h0 h1 h2 hh
    unfold spec_HeadOf.l1
    rw [if_neg (by omega), List.drop_of_length_le (by omega)]
    rfl
  | succ n ih =>
    intro k h j h0 h1 h2 hh
    rw [show k + (n + 1) + 1 = (k + n + 1) + 1 by omega]
    unfold spec_HeadOf.l1
    rw [if_pos (by omega), if_pos h0]
    have hd : xs.drop j.toNat = rd xs j :: xs.drop (j + 1).toNat := by
      rw [List.drop_eq_getElem_cons (show j.toNat < xs.length by omega), show (j + 1).toNat = j.toNat + 1 by omega]
      unfold rd
      rw [List.getD_eq_getElem?_getD, List.getElem?_eq_getElem (by omega)]
      rfl
    rw [hd, linkAll_cons]
    show (if inB (rd xs j) (-549755813888) 549755813887 = true then _ else _) = _
    cases hx : inB (rd xs j) (-549755813888) 549755813887 with
    | true =>
      rw [if_pos rfl, show wrap64 (j + 1) = j + 1 by unfold wrap64; omega, ← link_wrap hh hx]
      exact ih k _ (j + 1) (by omega) (by omega) h2 (by rw [link_wrap hh hx]; exact linkStep_in hh _)
    | false =>
      rw [if_neg (by simp), link_out hx, if_pos (linkAll_bad _ _ rfl)]
theorem head_l0 (l : List Ent) (hl : l.length ≤ 1000) : ∀ (n k : Nat) (h i : Int), 0 ≤ i → i + n = (l.length : Int) → HeadIn (h, false) → 1000 ≤ k →
    spec_HeadOf.l0 (k + 400 * n) l h i = some (headR h (l.drop i.toNat)) := by
  intro n
  induction n with
  | zero =>
    intro k h i h0 h1 hh hk
    rw [show k + 400 * 0 = (k - 1) + 1 by omega]
    unfold spec_HeadOf.l0
    rw [if_neg (by omega), List.drop_of_length_le (by omega)]
    rfl
  | succ n ih =>
    intro k h i h0 h1 hh hk
    have hd : l.drop i.toNat = rd_T34 l i :: l.drop (i + 1).toNat := by
      rw [List.drop_eq_getElem_cons (show i.toNat < l.length by omega), show (i + 1).toNat = i.toNat + 1 by omega]
      unfold rd_T34
      rw [List.getD_eq_getElem?_getD, List.getElem?_eq_getElem (by omega)]
      rfl
    rw [hd]
    rw [show k + 400 * (n + 1) = ((k + 400 * n + 398) + 1) + 1 by omega]
    unfold spec_HeadOf.l0
    rw [if_pos (by omega), if_pos h0]
    unfold headR
    by_cases ht : tooLong (rd_T34 l i)
    · rw [if_pos ht]
      have hj : ∀ b : Bool, b = true → spec_HeadOf.j1 ((k + 400 * n + 398) + 1) l h i b = some 0 := fun b hb => by
        unfold spec_HeadOf.j1
        rw [if_pos hb]
      unfold tooLong at ht
      by_cases hc : ((rd_T34 l i).f3.length : Int) > 60
      · rw [if_pos hc]; exact hj _ rfl
      · rw [if_neg hc]; exact hj _ (by simp; omega)
    · have hj : spec_HeadOf.j1 ((k + 400 * n + 398) + 1) l h i false = some (if (linkAll (h, false) (numsOf (rd_T34 l i))).2 = true then 0 else headR (linkAll (h, false) (numsOf (rd_T34 l i))).1 (l.drop (i + 1).toNat)) := by
        unfold spec_HeadOf.j1
        rw [if_neg (by simp), if_pos h0, if_pos (by omega), nums_f _ ht (by omega)]
        have hn := nums_len _ ht
        show spec_HeadOf.l1 (k + 400 * n + 398) l h i (numsOf (rd_T34 l i)) 0 = _
        rw [show k + 400 * n + 398 = (k + 397 - (numsOf (rd_T34 l i)).length + 400 * n) + (numsOf (rd_T34 l i)).length + 1 by omega]
        rw [head_l1 l _ i _ _ h 0 (by omega) (by omega) hn hh, show wrap64 (i + 1) = i + 1 by unfold wrap64; omega]
        simp only [Int.toNat_zero, List.drop_zero]
        have hin : HeadIn ((linkAll (h, false) (numsOf (rd_T34 l i))).1, false) := linkAll_in hh (numsOf (rd_T34 l i))
        rw [ih _ _ (i + 1) (by omega) (by omega) hin (by omega)]
        split <;> rfl
      rw [if_neg ht, ← hj]
      unfold tooLong at ht
      rw [if_neg (by omega)]
      congr 1
      simp
      omega
theorem spec_HeadOf.to (A0 : Option Addr) (c0 : Nat) (l0 : List Ent) (w : World) (hr0 : Kd.C k34 w A0 l0.length l0) (hc : l0.length ≤ c0) :
    Calls Try.prog 92 #[.slice A0 l0.length c0] w fun e w' => e = .returned (.int .i64 (headV l0)) ∧ Below w.heap.size w w' := by
  refine spec_HeadOf.calls (1000 + 400 * l0.length) A0 c0 l0 (headV l0) w hr0 hc ?_
  unfold spec_HeadOf.f
  rw [headV_eq]
  by_cases h : 1000 < l0.length
  · rw [if_pos (by omega), if_pos h]
  · rw [if_neg (by omega), if_neg h, head_l0 l0 (by omega) l0.length 1000 1 0 (by omega) (by omega) headIn_one (by omega)]
    rfl
set_option maxHeartbeats 16000000 in
set_option maxRecDepth 100000 in
theorem spec_LedgerOk.to (A0 : Option Addr) (c0 : Nat) (l0 : List Acc) (dims curs : Int) (A1 : Option Addr) (c1 : Nat) (l1 : List Ent) (h : Int) (w : World) (hr0 : Kd.C k131 w A0 l0.length l0) (hs : ∀ x ∈ l0, x.f0.size ≤ maxLen) (hr1 : Kd.C k34 w A1 l1.length l1) (hc1 : l1.length ≤ c1) (hm : ∀ e ∈ l1, e.f2.size ≤ maxLen) :
    Calls Try.prog 78 #[.agg #[.slice A0 l0.length c0, .int .i64 dims, .int .i64 curs], .agg #[.slice A1 l1.length c1, .int .i64 h]] w fun x w' => x = .returned (.bool (ledgerB l0 dims curs l1 h)) ∧ Below w.heap.size w w' := by
  have hl0 := hr0.2.1
  have hl1 := hr1.2.1
  have H0 := Aside0.mk hr0
  have H1 := Aside0.mk hr1
  have HS := Aside0.mk hs
  have HM := Aside0.mk hm
  have HCAP := Aside0.mk hc1
  have HB0 := Aside0.mk (below_two w (.cells #[.slice A0 l0.length c0, .int .i64 dims, .int .i64 curs] 26) (.cells #[.slice A1 l1.length c1, .int .i64 h] 29))
  have H00 := Aside0.mk (Kd.C_below hr0 HB0.out)
  have H11 := Aside0.mk (Kd.C_below hr1 HB0.out)
  clear hr0 hr1 hs hm hc1
  by_cases hlen : 1000 < l1.length
  case pos =>
    have HN := Aside0.mk (ledgerB_not (fun q => by have := q.2.1; omega) : false = ledgerB l0 dims curs l1 h)
    have hlen' : 1000 < (l1.length : Int) := by omega
    go_enter Try.func78, Try.ntmps78
    go_wp2_with fail
    go_quiet (fail)
    go_wp2_with fail
    go_ret
    exact ⟨ret_bool HN.out, pw_below_drewN HB0.out _⟩
  have hlenb : decide (1000 < (l1.length : Int)) = false := by simp; omega
  have f0 : ((w.alloc (.cells #[.slice A0 l0.length c0, .int .i64 dims, .int .i64 curs] 26)).alloc (.cells #[.slice A1 l1.length c1, .int .i64 h] 29)).cell? ⟨w.heap.size, 0, none⟩ = some (.slice A0 l0.length c0) := by go_simp
  have f1 : ((w.alloc (.cells #[.slice A0 l0.length c0, .int .i64 dims, .int .i64 curs] 26)).alloc (.cells #[.slice A1 l1.length c1, .int .i64 h] 29)).cell? ⟨w.heap.size, 1, none⟩ = some (.int .i64 dims) := by go_simp
  have f2 : ((w.alloc (.cells #[.slice A0 l0.length c0, .int .i64 dims, .int .i64 curs] 26)).alloc (.cells #[.slice A1 l1.length c1, .int .i64 h] 29)).cell? ⟨w.heap.size, 2, none⟩ = some (.int .i64 curs) := by go_simp
  have f3 : ((w.alloc (.cells #[.slice A0 l0.length c0, .int .i64 dims, .int .i64 curs] 26)).alloc (.cells #[.slice A1 l1.length c1, .int .i64 h] 29)).cell? ⟨w.heap.size + 1, 0, none⟩ = some (.slice A1 l1.length c1) := by go_simp
  have f4 : ((w.alloc (.cells #[.slice A0 l0.length c0, .int .i64 dims, .int .i64 curs] 26)).alloc (.cells #[.slice A1 l1.length c1, .int .i64 h] 29)).cell? ⟨w.heap.size + 1, 1, none⟩ = some (.int .i64 h) := by go_simp
  cases hfr : frameB l0 dims curs with
  | false =>
    have HF := Aside0.mk hfr
    have HN := Aside0.mk (ledgerB_not (fun q => by have := q.1; rw [hfr] at this; cases this) : false = ledgerB l0 dims curs l1 h)
    clear hfr
    go_enter Try.func78, Try.ntmps78
    go_wp2_with fail
    first | (go_region_with (first | (go_at_call 131; refine (spec_FrameOk.to A0 c0 l0 dims curs _ (by repeat (first | exact H00.out | refine Kd.C_drew ?_)) HS.out).mono ?_; rintro x w2 ⟨rfl, hb⟩; rw [HF.out]; have g3 := pw_cell_below hb f3))) | fail
    all_goals (
      have HBF := Aside0.mk (below_into (w := w) hb (below_drew HB0.out))
      clear hb
      go_wp2_with fail
      go_ret
      exact ⟨ret_bool HN.out, HBF.out⟩)
  | true =>
    have HF := Aside0.mk hfr
    clear hfr
    by_cases hh : h = headV l1
    case neg =>
      have HN := Aside0.mk (ledgerB_not (fun q => hh q.2.2.2) : false = ledgerB l0 dims curs l1 h)
      have hhb : (h != headV l1) = true := bne_iff_ne.2 hh
      go_enter Try.func78, Try.ntmps78
      go_wp2_with fail
      go_region_held3 (fun w' => w'.cell? ⟨w.heap.size, 0, none⟩ = some (.slice A0 l0.length c0) ∧ w'.cell? ⟨w.heap.size, 1, none⟩ = some (.int .i64 dims) ∧ w'.cell? ⟨w.heap.size, 2, none⟩ = some (.int .i64 curs) ∧ w'.cell? ⟨w.heap.size + 1, 0, none⟩ = some (.slice A1 l1.length c1) ∧ w'.cell? ⟨w.heap.size + 1, 1, none⟩ = some (.int .i64 h)) ((first | go_keep | exact ⟨pw_cell_below hb (by assumption), pw_cell_below hb (by assumption), pw_cell_below hb (by assumption), pw_cell_below hb (by assumption), pw_cell_below hb (by assumption)⟩))
        (first
          | (go_at_call 131; refine (spec_FrameOk.to A0 c0 l0 dims curs _ (by repeat (first | exact H00.out | refine Kd.C_drew ?_)) HS.out).mono ?_; rintro x w2 ⟨rfl, hb⟩; rw [HF.out])
          | (go_at_call 92; refine (spec_HeadOf.to A1 c1 l1 _ (by first | exact Kd.C_below H11.out (below_into hb (below_drew (Below.refl _ _))) | (repeat (first | exact H11.out | refine Kd.C_drew ?_))) HCAP.out).mono ?_; rintro x w3 ⟨rfl, hb3⟩; replace hb := below_into hb3 hb; clear hb3))
      have HBF := Aside0.mk (below_into (w := w) hb (below_drew HB0.out))
      clear hb
      go_wp2_with fail
      go_ret
      exact ⟨ret_bool HN.out, HBF.out⟩
    have hhb : (h != headV l1) = false := by rw [hh]; exact bne_self_eq_false' _
    have HH := Aside0.mk hh
    clear hh
    obtain ⟨hch, hd, hc⟩ := frame_parts HF.out
    clear hch hd hc
    go_enter Try.func78, Try.ntmps78
    go_wp2_with fail
    go_region_held3 (fun w' => w'.cell? ⟨w.heap.size, 0, none⟩ = some (.slice A0 l0.length c0) ∧ w'.cell? ⟨w.heap.size, 1, none⟩ = some (.int .i64 dims) ∧ w'.cell? ⟨w.heap.size, 2, none⟩ = some (.int .i64 curs) ∧ w'.cell? ⟨w.heap.size + 1, 0, none⟩ = some (.slice A1 l1.length c1) ∧ w'.cell? ⟨w.heap.size + 1, 1, none⟩ = some (.int .i64 h)) ((first | go_keep | exact ⟨pw_cell_below hb (by assumption), pw_cell_below hb (by assumption), pw_cell_below hb (by assumption), pw_cell_below hb (by assumption), pw_cell_below hb (by assumption)⟩))
        (first
          | (go_at_call 131; refine (spec_FrameOk.to A0 c0 l0 dims curs _ (by repeat (first | exact H00.out | refine Kd.C_drew ?_)) HS.out).mono ?_; rintro x w2 ⟨rfl, hb⟩; rw [HF.out])
          | (go_at_call 92; refine (spec_HeadOf.to A1 c1 l1 _ (by first | exact Kd.C_below H11.out (below_into hb (below_drew (Below.refl _ _))) | (repeat (first | exact H11.out | refine Kd.C_drew ?_))) HCAP.out).mono ?_; rintro x w3 ⟨rfl, hb3⟩; replace hb := below_into hb3 hb; clear hb3))
    have HBW1 := Aside0.mk (below_into (w := w) hb (below_drew HB0.out))
    have F0 := Aside0.mk (pw_cell_below hb f0)
    have F1 := Aside0.mk (pw_cell_below hb f1)
    have F2 := Aside0.mk (pw_cell_below hb f2)
    have F3 := Aside0.mk (pw_cell_below hb f3)
    have F4 := Aside0.mk (pw_cell_below hb f4)
    have HB1 := Aside0.mk (Below.refl w3.heap.size w3)
    have g3 := pw_cell_below hb f3
    clear hb f0 f1 f2 f3 f4
    go_wp2_with fail
    clear g3
    go_loopw [5] (fun v wr => ∃ i : Int, 0 ≤ i ∧ i ≤ (l1.length : Int) ∧ v = .int .i64 i ∧ Aside0 (Below w3.heap.size w3 wr) ∧ Aside0 (∀ e ∈ l1.take i.toNat, entryP l0 dims curs e)) (fun v _ => (l1.length - (intOf v).toNat))
    case atStart => exact ⟨0, by omega, by omega, rfl, HB1, ⟨fun x hx => by cases hx⟩⟩
    case round =>
      clear HB1
      obtain ⟨i, hi0, hi1, rfl, HB1, HO⟩ := hrel
      have g0 := pw_cell_below HB1.out F0.out
      have g1 := pw_cell_below HB1.out F1.out
      have g2 := pw_cell_below HB1.out F2.out
      have g3 := pw_cell_below HB1.out F3.out
      have HBW := Aside0.mk (below_into HB1.out HBW1.out)
      by_cases hlt : i < (l1.length : Int)
      · obtain ⟨ad, A3, c3, e0, x0, x1, x2, x3, x4, x5⟩ := at_T34 (Kd.C_below H1.out HBW.out) i hi0 hlt
        cases e0
        have X5 := Aside0.mk x5
        have HC0 := Aside0.mk (Kd.C_below H0.out HBW.out)
        have HMI := Aside0.mk (all_at (z := z34) (p := fun e => e.f2.size ≤ maxLen) hi0 hlt HM.out)
        clear x5
        go_wp2_with fail
        go_region_held3 (fun w' => w'.cell? ⟨w.heap.size, 0, none⟩ = some (.slice A0 l0.length c0) ∧ w'.cell? ⟨w.heap.size, 1, none⟩ = some (.int .i64 dims) ∧ w'.cell? ⟨w.heap.size, 2, none⟩ = some (.int .i64 curs) ∧ w'.cell? ⟨w.heap.size + 1, 0, none⟩ = some (.slice (some ad) l1.length c1) ∧ w'.cell? (ad.add (i.toNat * 4)) = some (.int .i64 (rd_T34 l1 i).f0) ∧ w'.cell? ⟨(ad.add (i.toNat * 4)).block, (ad.add (i.toNat * 4)).off + 1, none⟩ = some (.int .i64 (rd_T34 l1 i).f1) ∧ w'.cell? ⟨(ad.add (i.toNat * 4)).block, (ad.add (i.toNat * 4)).off + 2, none⟩ = some (.string (rd_T34 l1 i).f2) ∧ w'.cell? ⟨(ad.add (i.toNat * 4)).block, (ad.add (i.toNat * 4)).off + 3, none⟩ = some (.slice A3 (rd_T34 l1 i).f3.length c3)) ((first | go_keep | exact ⟨pw_cell_below hb (by assumption), pw_cell_below hb (by assumption), pw_cell_below hb (by assumption), pw_cell_below hb (by assumption), pw_cell_below hb (by assumption), pw_cell_below hb (by assumption), pw_cell_below hb (by assumption), pw_cell_below hb (by assumption)⟩))
          ((go_at_call 91; refine (spec_EntryOk.to A0 c0 l0 dims curs (rd_T34 l1 i) A3 c3 _ (by repeat (first | exact HC0.out | refine Kd.C_drew ?_)) HS.out (by repeat (first | exact X5.out | refine Kd.C_drew ?_)) HMI.out).mono ?_; rintro x w2 ⟨rfl, hb⟩; rw [HF.out, Bool.true_and]))
        have HB2 := Aside0.mk (below_into (w := w3) hb (below_drew HB1.out))
        clear hb
        cases hen : entryB l0 dims curs (rd_T34 l1 i) with
        | false =>
          have HN := Aside0.mk (ledgerB_not (fun q => by have := entryB_true.2 (all_at (z := z34) (p := entryP l0 dims curs) hi0 hlt q.2.2.1); rw [show entryB l0 dims curs (l1.getD i.toNat z34) = false from hen] at this; cases this) : false = ledgerB l0 dims curs l1 h)
          have HBF := Aside0.mk (below_into HB2.out HBW1.out)
          clear hen HB2
          go_wp2_with fail
          go_ret
          exact ⟨ret_bool HN.out, HBF.out⟩
        | true =>
          have HO2 := Aside0.mk (all_step (z := z34) (p := entryP l0 dims curs) hi0 hlt HO.out (entryB_true.1 hen))
          clear hen
          go_wp2_with fail
          go_roundw
          case rel => exact ⟨i + 1, by omega, by omega, rfl, HB2, HO2⟩
          case measure => simp [intOf]; omega
      · have HY := Aside0.mk (ledgerB_true.2 (show ledgerP l0 dims curs l1 h from ⟨HF.out, by omega, all_end (by omega) HO.out, HH.out⟩))
        go_wp2_with fail
        go_ret
        exact ⟨ret_bool HY.out.symm, HBW.out⟩
-- CALLS spec_LedgerOk
open Classical in
noncomputable def spec_LedgerOk.f (l0 : List Acc) (dims curs : Int) (l1 : List Ent) (h : Int) : Option Bool := if (∀ x ∈ l0, x.f0.size ≤ maxLen) ∧ (∀ e ∈ l1, e.f2.size ≤ maxLen) then some (ledgerB l0 dims curs l1 h) else none
theorem spec_LedgerOk.calls (A0 : Option Addr) (c0 : Nat) (l0 : List Acc) (dims curs : Int) (A1 : Option Addr) (c1 : Nat) (l1 : List Ent) (h : Int) (r : Bool) (w : World) (hr0 : Kd.C k131 w A0 l0.length l0) (hc0 : l0.length ≤ c0) (hr1 : Kd.C k34 w A1 l1.length l1) (hc1 : l1.length ≤ c1) (hf : spec_LedgerOk.f l0 dims curs l1 h = some r) :
    Calls Try.prog 78 #[.agg #[.slice A0 l0.length c0, .int .i64 dims, .int .i64 curs], .agg #[.slice A1 l1.length c1, .int .i64 h]] w fun x w' => x = .returned (.bool r) ∧ Below w.heap.size w w' := by
  unfold spec_LedgerOk.f at hf
  split at hf
  · rename_i q
    cases hf
    exact spec_LedgerOk.to A0 c0 l0 dims curs A1 c1 l1 h w hr0 q.1 hr1 hc1 q.2
  · cases hf


end Go.Proofs.Ytphmnkcfjgallaa.Q
namespace Go.Proofs.Ytphmnkcfjgallaa.Q
open Go.RowKit Go.Proofs.YtphmnkcfjgallaaW.PrintWords Go.Proofs.YtphmnkcfjgallaaW.PrintLast Go.Proofs.YtphmnkcfjgallaaW.PrintMore
attribute [local go_sem] max2_int min2_int max_two min_two max_three min_three max_four min_four   -- for this text's walks alone
set_option linter.unusedVariables false
set_option linter.unusedSimpArgs false

/-! ### hand text d7_specyear.lean -/
abbrev Per := S133
def perOk (ps : List Per) (i : Int) : Prop := (0 ≤ (rd_T133 ps i).f0 ∧ (rd_T133 ps i).f0 ≤ 40000) ∧ (0 ≤ (rd_T133 ps i).f1 ∧ (rd_T133 ps i).f1 ≤ 40000) ∧ (rd_T133 ps i).f0 ≤ (rd_T133 ps i).f1 ∧ (0 < i → (rd_T133 ps i).f0 = (rd_T133 ps (i - 1)).f1 + 1)
def yearP (ps : List Per) : Prop := (1 ≤ ps.length ∧ ps.length ≤ 60) ∧ ∀ i : Int, 0 ≤ i → i < (ps.length : Int) → perOk ps i
open Classical in
noncomputable def yearB (ps : List Per) : Bool := decide (yearP ps)
open Classical in
theorem yearB_true {ps : List Per} : yearB ps = true ↔ yearP ps := by unfold yearB; rw [decide_eq_true_eq]
theorem yearB_not {ps : List Per} (h : ¬ yearP ps) : false = yearB ps := by
  cases hb : yearB ps with
  | false => rfl
  | true => exact absurd (yearB_true.1 hb) h
theorem per_step {ps : List Per} {i : Int} (h : ∀ j : Int, 0 ≤ j → j < i → perOk ps j) (hi : perOk ps i) : ∀ j : Int, 0 ≤ j → j < i + 1 → perOk ps j := by
  intro j h0 h1
  by_cases e : j = i
  · subst e; exact hi
  · exact h j h0 (by omega)
set_option maxHeartbeats 16000000 in
set_option maxRecDepth 100000 in
theorem spec_l6Year.to (A0 : Option Addr) (c0 : Nat) (l0 : List Per) (w : World) (hr0 : Kd.C k133 w A0 l0.length l0) :
    Calls Try.prog 98 #[.slice A0 l0.length c0] w fun x w' => x = .returned (.bool (yearB l0)) ∧ Below w.heap.size w w' := by
  have hl0 := hr0.2.1
  have H0 := Aside0.mk hr0
  clear hr0
  go_enter Try.func98, Try.ntmps98
  go_wp2_with fail
  go_loopw [3] (fun v wr => ∃ i : Int, 0 ≤ i ∧ i ≤ (l0.length : Int) ∧ v = .int .i64 i ∧ Aside0 (Below w.heap.size w wr) ∧ Aside0 (∀ j : Int, 0 ≤ j → j < i → perOk l0 j)) (fun v _ => (l0.length - (intOf v).toNat))
  case atStart => exact ⟨0, by omega, by omega, rfl, ⟨Below.refl _ _⟩, ⟨fun j h0 h1 => by omega⟩⟩
  case round =>
    obtain ⟨i, hi0, hi1, rfl, HB, HO⟩ := hrel
    by_cases hlt : i < (l0.length : Int)
    · obtain ⟨ad, e0, x0, x1⟩ := at_T133 (Kd.C_below H0.out HB.out) i hi0 hlt
      cases e0
      have HNO := Aside0.mk (fun (q : ¬ perOk l0 i) => yearB_not (ps := l0) (fun y => q (y.2 i hi0 hlt)))
      generalize hp0 : (rd_T133 l0 i).f0 = p0 at *
      generalize hp1 : (rd_T133 l0 i).f1 = p1 at *
      have HP0 := Aside0.mk hp0
      have HP1 := Aside0.mk hp1
      clear hp0 hp1
      cases h1 : inB p0 0 40000 with
      | false =>
        have C1 := Aside0.mk (fun W => (h1 ▸ spec_l2Day.to p0 W : Calls Try.prog 80 #[.int .i64 p0] W fun e w' => e = .returned (.bool false) ∧ w' = W))
        have HN := Aside0.mk (HNO.out (fun q => inB_false.1 h1 (HP0.out ▸ q.1)))
        clear h1
        go_wp2_with fail
        go_quiet ((go_at_call 80; exact Calls.quiet_of_same (C1.out _)))
        go_wp2_with fail
        go_ret
        exact ⟨ret_bool HN.out, pw_below_drewN HB.out _⟩
      | true =>
        have C1 := Aside0.mk (fun W => (h1 ▸ spec_l2Day.to p0 W : Calls Try.prog 80 #[.int .i64 p0] W fun e w' => e = .returned (.bool true) ∧ w' = W))
        obtain ⟨a0, a1⟩ := inB_true.1 h1
        clear h1
        cases h2 : inB p1 0 40000 with
        | false =>
          have C2 := Aside0.mk (fun W => (h2 ▸ spec_l2Day.to p1 W : Calls Try.prog 80 #[.int .i64 p1] W fun e w' => e = .returned (.bool false) ∧ w' = W))
          have HN := Aside0.mk (HNO.out (fun q => inB_false.1 h2 (HP1.out ▸ q.2.1)))
          clear h2
          go_wp2_with fail
          go_quiet ((go_at_call 80; first | exact Calls.quiet_of_same (C1.out _) | exact Calls.quiet_of_same (C2.out _)))
          go_wp2_with fail
          go_ret
          exact ⟨ret_bool HN.out, pw_below_drewN HB.out _⟩
        | true =>
          have C2 := Aside0.mk (fun W => (h2 ▸ spec_l2Day.to p1 W : Calls Try.prog 80 #[.int .i64 p1] W fun e w' => e = .returned (.bool true) ∧ w' = W))
          obtain ⟨b0, b1⟩ := inB_true.1 h2
          clear h2
          by_cases h3 : p1 < p0
          · have HN := Aside0.mk (HNO.out (fun q => by have := q.2.2.1; rw [HP0.out, HP1.out] at this; omega))
            have h3b : decide (p1 < p0) = true := decide_eq_true h3
            go_wp2_with fail
            go_quiet ((go_at_call 80; first | exact Calls.quiet_of_same (C1.out _) | exact Calls.quiet_of_same (C2.out _)))
            go_wp2_with fail
            go_ret
            exact ⟨ret_bool HN.out, pw_below_drewN HB.out _⟩
          · have h3b : decide (p1 < p0) = false := decide_eq_false h3
            by_cases h4 : 0 < i
            · obtain ⟨j, hj⟩ : ∃ j : Int, j = i - 1 := ⟨_, rfl⟩
              have hj0 : 0 ≤ j := by omega
              have hj1 : j < (l0.length : Int) := by omega
              have hwr : IntKind.i64.wrap (i - 1) = j := by unfold IntKind.wrap; simp [IntKind.bits]; omega
              obtain ⟨bd, e1, y0, y1⟩ := at_T133 (Kd.C_below H0.out HB.out) j hj0 hj1
              obtain rfl : ad = bd := by injection e1
              obtain ⟨m0, m1⟩ := (HO.out j hj0 (by omega)).2.1
              have HJ := Aside0.mk hj
              clear hj
              generalize hq1 : (rd_T133 l0 j).f1 = q1 at *
              have HQ1 := Aside0.mk hq1
              clear hq1
              have hwr2 : IntKind.i64.wrap (q1 + 1) = q1 + 1 := by unfold IntKind.wrap; simp [IntKind.bits]; omega
              have h4b : decide (0 < i) = true := decide_eq_true h4
              by_cases h7 : p0 = q1 + 1
              · have h7b : (p0 != q1 + 1) = false := by rw [h7]; exact bne_self_eq_false' _
                have HO2 := Aside0.mk (per_step HO.out (show perOk l0 i from ⟨by rw [HP0.out]; exact ⟨a0, a1⟩, by rw [HP1.out]; exact ⟨b0, b1⟩, by rw [HP0.out, HP1.out]; omega, fun q => by rw [HP0.out, ← HJ.out, HQ1.out]; exact h7⟩))
                clear h7
                go_wp2_with fail
                go_quiet ((go_at_call 80; first | exact Calls.quiet_of_same (C1.out _) | exact Calls.quiet_of_same (C2.out _)))
                clear hwr hwr2
                go_wp2_with fail
                go_roundw
                case rel => exact ⟨i + 1, by omega, by omega, rfl, ⟨pw_below_drewN HB.out _⟩, HO2⟩
                case measure => simp [intOf]; omega
              · have h7b : (p0 != q1 + 1) = true := bne_iff_ne.2 h7
                have HN := Aside0.mk (HNO.out (fun q => by have := q.2.2.2 h4; rw [HP0.out, ← HJ.out, HQ1.out] at this; exact h7 this))
                clear h7
                go_wp2_with fail
                go_quiet ((go_at_call 80; first | exact Calls.quiet_of_same (C1.out _) | exact Calls.quiet_of_same (C2.out _)))
                clear hwr hwr2
                go_wp2_with fail
                go_ret
                exact ⟨ret_bool HN.out, pw_below_drewN HB.out _⟩
            · have h4b : decide (0 < i) = false := decide_eq_false h4
              have HO2 := Aside0.mk (per_step HO.out (show perOk l0 i from ⟨by rw [HP0.out]; exact ⟨a0, a1⟩, by rw [HP1.out]; exact ⟨b0, b1⟩, by rw [HP0.out, HP1.out]; omega, fun q => absurd q h4⟩))
              go_wp2_with fail
              go_quiet ((go_at_call 80; first | exact Calls.quiet_of_same (C1.out _) | exact Calls.quiet_of_same (C2.out _)))
              go_wp2_with fail
              go_roundw
              case rel => exact ⟨i + 1, by omega, by omega, rfl, ⟨pw_below_drewN HB.out _⟩, HO2⟩
              case measure => simp [intOf]; omega
    · go_wp2_with fail
      refine (spec_l1In.to _ _ _ _).mono ?_
      rintro x w' ⟨rfl, rfl⟩
      cases h5 : inB (l0.length : Int) 1 60 with
      | false =>
        have HN := Aside0.mk (yearB_not (fun q => inB_false.1 h5 (by have := q.1; omega)) : false = yearB l0)
        clear h5
        go_wp2_with fail
        go_ret
        exact ⟨ret_bool HN.out, HB.out⟩
      | true =>
        have h6 := inB_true.1 h5
        have HY := Aside0.mk (yearB_true.2 (show yearP l0 from ⟨by omega, fun j h0 h1 => HO.out j h0 (by omega)⟩))
        clear h5 h6
        go_wp2_with fail
        go_ret
        exact ⟨ret_bool HY.out.symm, HB.out⟩


end Go.Proofs.Ytphmnkcfjgallaa.Q
