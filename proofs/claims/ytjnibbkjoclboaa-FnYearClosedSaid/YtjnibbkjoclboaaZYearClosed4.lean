/- Parts of the proof: what functions of the program and of the reference answer.
   No condition. -/
import Derived.Test.YtjnibbkjoclboaaZYearClosed1
import Derived.Test.YtjnibbkjoclboaaZYearClosed2
namespace Go.Proofs.Ytjnibbkjoclboaa.Q
open Go.RowKit Go.Proofs.YtjnibbkjoclboaaW.PrintWords Go.Proofs.YtjnibbkjoclboaaW.PrintLast Go.Proofs.YtjnibbkjoclboaaW.PrintMore
attribute [local go_sem] max2_int min2_int max_two min_two max_three min_three max_four min_four   -- for this text's walks alone
set_option linter.unusedVariables false
set_option linter.unusedSimpArgs false
mutual
noncomputable def spec_HeadOf.l0 : Nat → List (S37) → Int → Int → Option (Int)
  | 0, _, _, _ => none
  | k + 1, x0, x3, x4 => if x4 < (x0.length : Int) then (if 0 ≤ x4 then (if (((rd_T37 x0 x4).f3).length : Int) > 60 then (spec_HeadOf.j1 k x0 x3 x4 true) else (spec_HeadOf.j1 k x0 x3 x4 (decide ((((rd_T37 x0 x4).f2).size : Int) > 40)))) else (none)) else (some x3)
noncomputable def spec_HeadOf.j1 : Nat → List (S37) → Int → Int → Bool → Option (Int)
  | 0, _, _, _, _ => none
  | k + 1, x0, x3, x4, x31 => if x31 = true then (some 0) else (if 0 ≤ x4 then (if x4 < (x0.length : Int) then ((spec_l5Numbers.f k ((rd_T37 x0 x4).f0) ((rd_T37 x0 x4).f1) ((rd_T37 x0 x4).f2) ((rd_T37 x0 x4).f3)).bind fun t56004 => (spec_HeadOf.l1 k x0 x3 x4 t56004 0)) else (none)) else (none))
noncomputable def spec_HeadOf.l1 : Nat → List (S37) → Int → Int → List Int → Int → Option (Int)
  | 0, _, _, _, _, _ => none
  | k + 1, x0, x3, x4, x5, x6 => if x6 < (x5.length : Int) then (if 0 ≤ x6 then ((spec_l1In.f (rd x5 x6) (-549755813888) 549755813887).bind fun t56008 => (if t56008 = true then (spec_HeadOf.l1 k x0 (Int.tmod (wrap64 ((wrap64 ((wrap64 (x3 * 1000003)) + (rd x5 x6))) + 549755813888)) 1099511627791) x4 x5 (wrap64 (x6 + 1))) else (some 0))) else (none)) else (spec_HeadOf.l0 k x0 x3 (wrap64 (x4 + 1)))
end
noncomputable def spec_HeadOf.f (k : Nat) (l0 : List (S37)) : Option (Int) := if (l0.length : Int) > 1000 then (some 0) else (spec_HeadOf.l0 k l0 1 0)
set_option maxHeartbeats 8000000 in
set_option maxRecDepth 100000 in
theorem spec_HeadOf.calls (k : Nat) (A0 : Option Addr) (c0 : Nat) (l0 : List (S37)) (r : Int) (w : World) (hr0 : Kd.C k37 w A0 l0.length l0) (hc0 : l0.length ≤ c0) (h : spec_HeadOf.f k l0 = some r) :
    Calls Try.prog 55 #[.slice A0 l0.length c0] w fun e w' => e = .returned (.int .i64 r) ∧ Below w.heap.size w w' := by
  have hu37 := Try.underlying37
  have HR0 := Aside0.mk hr0
  have HC0 := Aside0.mk hc0
  clear hr0 hc0
  have HB := Aside0.mk (Below.refl w.heap.size w)
  have H : (if (l0.length : Int) > 1000 then (some 0) else (spec_HeadOf.l0 k l0 1 0)) = some r := h
  clear h
  by_cases c2 : (l0.length : Int) > 1000
  · rw [if_pos c2] at H
    have c2b0 : decide (1000 < (l0.length : Int)) = true := decide_eq_true c2
    have c2b1 : decide (1000 < l0.length) = true := decide_eq_true (by omega)
    clear c2
    obtain rfl := Option.some.inj H
    go_enter Try.func55, Try.ntmps55
    go_wp2
    go_ret
    exact ⟨by first | rfl | (simp [errW_none, errW_some] <;> rfl) | (simp [*, errW_none, errW_some] <;> rfl), by repeat (first | (with_reducible first | exact HB.out | apply below_alloc | apply pw_below_drewN | apply below_drew1) | exact HB.out)⟩
  · rw [if_neg c2] at H
    have c2b0 : decide (1000 < (l0.length : Int)) = false := decide_eq_false c2
    have c2b1 : decide (1000 < l0.length) = false := decide_eq_false (by omega)
    clear c2
    have H' := Aside0.mk H
    clear H
    go_enter Try.func55, Try.ntmps55
    go_wp2
    go_loopg [3, 4] k (fun kq v3 v4 w' => ∃ (x3_1 : Int) (x4_1 : Int), v3 = .int .i64 x3_1 ∧ v4 = .int .i64 x4_1 ∧ Aside0 (spec_HeadOf.l0 kq l0 x3_1 x4_1 = some r) ∧ Aside0 (kq ≤ k) ∧ Aside0 (Below w.heap.size w w'))
    case atStart => exact ⟨(1), (0), (by first | rfl | (simp; done) | (simp [*]; done)), (by first | rfl | (simp; done) | (simp [*]; done)), H', ⟨Nat.le_refl _⟩, ⟨by repeat (first | (with_reducible first | exact HB.out | apply below_alloc | apply pw_below_drewN | apply below_drew1) | exact HB.out)⟩⟩
    case round =>
      clear H'
      try clear c2
      try clear c2b0
      try clear c2b1
      try clear p2
      obtain ⟨x3_1, x4_1, rfl, rfl, HA, HK1, HB⟩ := hrel
      cases gk with
      | zero => exact absurd HA.out (by simp [spec_HeadOf.l0])
      | succ k1 =>
        have H := HA.out
        clear HA
        simp only [spec_HeadOf.l0] at H
        by_cases c3 : x4_1 < (l0.length : Int)
        · rw [if_pos c3] at H
          have c3b0 : decide (x4_1 < (l0.length : Int)) = true := decide_eq_true c3
          clear c3
          have HC4 := Aside0.mk H
          clear H
          go_upto_region 7 with (fail)
          go_cut [31] (fun v31 wc => ∃ (kq : Nat) (x31_3 : Bool), v31 = .bool x31_3 ∧ Aside0 (spec_HeadOf.j1 kq l0 x3_1 x4_1 x31_3 = some r) ∧ Aside0 (kq ≤ k1) ∧ Aside0 (Below w.heap.size w wc))
          case first =>
            have H := HC4.out
            clear HC4
            by_cases c5 : 0 ≤ x4_1
            · rw [if_pos c5] at H
              have c5b0 : decide (0 ≤ x4_1) = true := decide_eq_true c5
              clear c5
              (first | rw [c5b0] | (simp only [i64_w, i32_w]; rw [c5b0]) | skip)
              by_cases c6 : (((rd_T37 l0 x4_1).f3).length : Int) > 60
              · rw [if_pos c6] at H
                have c6b0 : decide (60 < (((rd_T37 l0 x4_1).f3).length : Int)) = true := decide_eq_true c6
                have c6b1 : decide (60 < ((rd_T37 l0 x4_1).f3).length) = true := decide_eq_true (by omega)
                clear c6
                have H' := Aside0.mk H
                clear H
                have p56001 : 0 ≤ (x4_1 : Int) := of_decide_eq_true (by first | (with_reducible assumption) | assumption)
                have q56001 : x4_1 < (l0.length : Int) := of_decide_eq_true (by first | (with_reducible assumption) | assumption)
                obtain ⟨ad56001, A56001_3, c56001_3, e56001, hx56001_0, hx56001_1, hx56001_2, hx56001_3, hl56001_3, hi56001_3⟩ := at_T37 HR0.out x4_1 p56001 q56001
                cases e56001
                replace hx56001_0 := (HB.out.cell (World.block_lt_of_cell? w _ hx56001_0)).trans hx56001_0
                replace hx56001_1 := (HB.out.cell (World.block_lt_of_cell? w _ hx56001_1)).trans hx56001_1
                replace hx56001_2 := (HB.out.cell (World.block_lt_of_cell? w _ hx56001_2)).trans hx56001_2
                replace hx56001_3 := (HB.out.cell (World.block_lt_of_cell? w _ hx56001_3)).trans hx56001_3
                have HR56001_3 := Aside0.mk hi56001_3
                have HC56001_3 := Aside0.mk hl56001_3
                clear hi56001_3 hl56001_3
                replace p56001 := eq_true p56001
                replace q56001 := eq_true q56001
                go_wp2
                go_meet
                case rel => exact ⟨_, (true), (by first | rfl | (simp; done) | (simp [*]; done)), H', ⟨by have := HK1.out; first | omega | exact Nat.le_refl _⟩, ⟨by repeat (first | (with_reducible first | exact HB.out | apply below_alloc | apply pw_below_drewN | apply below_drew1) | exact HB.out)⟩⟩
              · rw [if_neg c6] at H
                have c6b0 : decide (60 < (((rd_T37 l0 x4_1).f3).length : Int)) = false := decide_eq_false c6
                have c6b1 : decide (60 < ((rd_T37 l0 x4_1).f3).length) = false := decide_eq_false (by omega)
                clear c6
                have H' := Aside0.mk H
                clear H
                have p56001 : 0 ≤ (x4_1 : Int) := of_decide_eq_true (by first | (with_reducible assumption) | assumption)
                have q56001 : x4_1 < (l0.length : Int) := of_decide_eq_true (by first | (with_reducible assumption) | assumption)
                obtain ⟨ad56001, A56001_3, c56001_3, e56001, hx56001_0, hx56001_1, hx56001_2, hx56001_3, hl56001_3, hi56001_3⟩ := at_T37 HR0.out x4_1 p56001 q56001
                cases e56001
                replace hx56001_0 := (HB.out.cell (World.block_lt_of_cell? w _ hx56001_0)).trans hx56001_0
                replace hx56001_1 := (HB.out.cell (World.block_lt_of_cell? w _ hx56001_1)).trans hx56001_1
                replace hx56001_2 := (HB.out.cell (World.block_lt_of_cell? w _ hx56001_2)).trans hx56001_2
                replace hx56001_3 := (HB.out.cell (World.block_lt_of_cell? w _ hx56001_3)).trans hx56001_3
                have HR56001_3 := Aside0.mk hi56001_3
                have HC56001_3 := Aside0.mk hl56001_3
                clear hi56001_3 hl56001_3
                replace p56001 := eq_true p56001
                replace q56001 := eq_true q56001
                have p56002 : 0 ≤ (x4_1 : Int) := of_decide_eq_true (by first | (with_reducible assumption) | assumption)
                have q56002 : x4_1 < (l0.length : Int) := of_decide_eq_true (by first | (with_reducible assumption) | assumption)
                obtain ⟨ad56002, A56002_3, c56002_3, e56002, hx56002_0, hx56002_1, hx56002_2, hx56002_3, hl56002_3, hi56002_3⟩ := at_T37 HR0.out x4_1 p56002 q56002
                obtain rfl : ad56001 = ad56002 := (by injection e56002)
                replace hx56002_0 := (HB.out.cell (World.block_lt_of_cell? w _ hx56002_0)).trans hx56002_0
                replace hx56002_1 := (HB.out.cell (World.block_lt_of_cell? w _ hx56002_1)).trans hx56002_1
                replace hx56002_2 := (HB.out.cell (World.block_lt_of_cell? w _ hx56002_2)).trans hx56002_2
                replace hx56002_3 := (HB.out.cell (World.block_lt_of_cell? w _ hx56002_3)).trans hx56002_3
                have HR56002_3 := Aside0.mk hi56002_3
                have HC56002_3 := Aside0.mk hl56002_3
                clear hi56002_3 hl56002_3
                replace p56002 := eq_true p56002
                replace q56002 := eq_true q56002
                have ea_ := Option.some.inj (hx56001_3.symm.trans hx56002_3)
                injection ea_ with ea_ en_ ec_
                subst ea_
                subst ec_
                clear en_
                go_wp2
                go_meet
                case rel => exact ⟨_, (decide ((((rd_T37 l0 x4_1).f2).size : Int) > 40)), (by first | rfl | (simp; done) | (simp [*]; done)), H', ⟨by have := HK1.out; first | omega | exact Nat.le_refl _⟩, ⟨by repeat (first | (with_reducible first | exact HB.out | apply below_alloc | apply pw_below_drewN | apply below_drew1) | exact HB.out)⟩⟩
            · rw [if_neg c5] at H
              exact absurd H (by simp)
          case rest =>
            clear HC4
            try clear c2
            try clear c2b0
            try clear c2b1
            try clear p2
            try clear c3
            try clear c3b0
            try clear c5
            try clear c5b0
            try clear p5
            try clear q5
            try clear hx5
            try clear c6
            try clear c6b0
            try clear c6b1
            try clear hx56001_0
            try clear hx56001_1
            try clear hx56001_2
            try clear hx56001_3
            try clear hx56002_0
            try clear hx56002_1
            try clear hx56002_2
            try clear hx56002_3
            try clear p2
            try clear p56001
            try clear p56002
            try clear q56001
            try clear q56002
            obtain ⟨kq, x31_3, rfl, HA, HJ3, HB⟩ := hcut
            cases kq with
            | zero => exact absurd HA.out (by simp [spec_HeadOf.j1])
            | succ kj3 =>
              have H := HA.out
              clear HA
              simp only [spec_HeadOf.j1] at H
              by_cases c7 : x31_3 = true
              · subst c7
                have H1 : (some 0) = some r := by rw [if_pos rfl] at H; exact H
                clear H
                have H := H1
                clear H1
                obtain rfl := Option.some.inj H
                go_wp2
                go_ret
                exact ⟨by first | rfl | (simp [errW_none, errW_some] <;> rfl) | (simp [*, errW_none, errW_some] <;> rfl), by repeat (first | (with_reducible first | exact HB.out | apply below_alloc | apply pw_below_drewN | apply below_drew1) | exact HB.out)⟩
              · replace c7 := Bool.eq_false_iff.mpr c7
                subst c7
                have H1 : (if 0 ≤ x4_1 then (if x4_1 < (l0.length : Int) then ((spec_l5Numbers.f kj3 ((rd_T37 l0 x4_1).f0) ((rd_T37 l0 x4_1).f1) ((rd_T37 l0 x4_1).f2) ((rd_T37 l0 x4_1).f3)).bind fun t56004 => (spec_HeadOf.l1 kj3 l0 x3_1 x4_1 t56004 0)) else (none)) else (none)) = some r := by rw [if_neg (show ¬ (false = true) by decide)] at H; exact H
                clear H
                have H := H1
                clear H1
                by_cases c8 : 0 ≤ x4_1
                · rw [if_pos c8] at H
                  have c8b0 : decide (0 ≤ x4_1) = true := decide_eq_true c8
                  clear c8
                  by_cases c9 : x4_1 < (l0.length : Int)
                  · rw [if_pos c9] at H
                    have c9b0 : decide (x4_1 < (l0.length : Int)) = true := decide_eq_true c9
                    clear c9
                    replace H := Option.bind_eq_some_iff.mp H
                    obtain ⟨t56004, A100, H⟩ := H
                    replace H : (spec_HeadOf.l1 kj3 l0 x3_1 x4_1 t56004 0) = some r := H
                    have A10 := Aside0.mk A100
                    clear A100
                    have H' := Aside0.mk H
                    clear H
                    have p56003 : 0 ≤ (x4_1 : Int) := of_decide_eq_true (by first | (with_reducible assumption) | assumption)
                    have q56003 : x4_1 < (l0.length : Int) := of_decide_eq_true (by first | (with_reducible assumption) | assumption)
                    obtain ⟨ad56003, A56003_3, c56003_3, e56003, hx56003_0, hx56003_1, hx56003_2, hx56003_3, hl56003_3, hi56003_3⟩ := at_T37 HR0.out x4_1 p56003 q56003
                    cases e56003
                    replace hx56003_0 := (HB.out.cell (World.block_lt_of_cell? w _ hx56003_0)).trans hx56003_0
                    replace hx56003_1 := (HB.out.cell (World.block_lt_of_cell? w _ hx56003_1)).trans hx56003_1
                    replace hx56003_2 := (HB.out.cell (World.block_lt_of_cell? w _ hx56003_2)).trans hx56003_2
                    replace hx56003_3 := (HB.out.cell (World.block_lt_of_cell? w _ hx56003_3)).trans hx56003_3
                    have HR56003_3 := Aside0.mk hi56003_3
                    have HC56003_3 := Aside0.mk hl56003_3
                    clear hi56003_3 hl56003_3
                    replace p56003 := eq_true p56003
                    replace q56003 := eq_true q56003
                    go_wp2_with (first | ((with_reducible refine gate_callee (f := 65) rfl ?_); refine goesL_ (some 36) rfl rfl Try.func65 (by kernel_rfl) rfl #[.agg #[.int .i64 ((rd_T37 l0 x4_1).f0), .int .i64 ((rd_T37 l0 x4_1).f1), .string ((rd_T37 l0 x4_1).f2), .slice A56003_3 ((rd_T37 l0 x4_1).f3).length c56003_3]] rfl (by (try simp only [List.map_toArray, List.map_cons, List.map_nil]); first | done | rfl | (simp only [List.length_drop, List.length_take]; rfl)) ?_; (with_reducible refine (spec_l5Numbers.calls kj3 ((rd_T37 l0 x4_1).f0) ((rd_T37 l0 x4_1).f1) ((rd_T37 l0 x4_1).f2) _ _ ((rd_T37 l0 x4_1).f3) t56004 _ ?side1 ?side2 A10.out).mono ?_); (case side1 => repeat (first | exact (Kd.C_below HR56003_3.out HB.out) | (with_reducible refine Kd.C_alloc ?_ _) | (with_reducible refine Kd.C_drewN ?_ _) | (with_reducible refine Kd.C_drew ?_))); (case side2 => exact HC56003_3.out); rintro e w11 ⟨v56005, rfl, ho0, hb⟩; refine ⟨_, rfl, ?_⟩; have n0_ := Aside0.mk (Kd.R_lower ho0 (below_size (by repeat (first | (with_reducible first | exact HB.out | apply below_alloc | apply pw_below_drewN | apply below_drew1) | exact HB.out)))); have n1_ := Aside0.mk (below_step (by repeat (first | (with_reducible first | exact HB.out | apply below_alloc | apply pw_below_drewN | apply below_drew1) | exact HB.out)) hb); clear HB; have HO56006 := n0_; have HB := n1_; clear n0_ n1_; (try clear hb); (try clear hb2); (try clear hk); (try clear hi); (try clear ho0)))
                    go_loopg [3, 6] kj3 (fun kq v3 v6 w' => ∃ (x3_3 : Int) (x6_3 : Int), v3 = .int .i64 x3_3 ∧ v6 = .int .i64 x6_3 ∧ Aside0 (spec_HeadOf.l1 kq l0 x3_3 x4_1 t56004 x6_3 = some r) ∧ Aside0 (kq ≤ kj3) ∧ Aside0 (Kd.R (Kd.int .i64) 3 w' w.heap.size (fun _ => True) v56005 t56004) ∧ Aside0 (Below w.heap.size w w'))
                    case atStart => exact ⟨(x3_1), (0), (by first | rfl | (simp; done) | (simp [*]; done)), (by first | rfl | (simp; done) | (simp [*]; done)), H', ⟨Nat.le_refl _⟩, ⟨by (with_reducible repeat (first | apply Kd.R_alloc | apply Kd.R_drewN | apply Kd.R_drew)); exact HO56006.out⟩, ⟨by repeat (first | (with_reducible first | exact HB.out | apply below_alloc | apply pw_below_drewN | apply below_drew1) | exact HB.out)⟩⟩
                    case round =>
                      clear H'
                      try clear c2
                      try clear c2b0
                      try clear c2b1
                      try clear p2
                      try clear c3
                      try clear c3b0
                      try clear c5
                      try clear c5b0
                      try clear p5
                      try clear q5
                      try clear hx5
                      try clear c6
                      try clear c6b0
                      try clear c6b1
                      try clear c7
                      try clear c8
                      try clear c8b0
                      try clear c9
                      try clear c9b0
                      try clear hx56001_0
                      try clear hx56001_1
                      try clear hx56001_2
                      try clear hx56001_3
                      try clear hx56002_0
                      try clear hx56002_1
                      try clear hx56002_2
                      try clear hx56002_3
                      try clear hx56003_0
                      try clear hx56003_1
                      try clear hx56003_2
                      try clear hx56003_3
                      try clear p2
                      try clear p5
                      try clear p56001
                      try clear p56002
                      try clear p56003
                      try clear q5
                      try clear q56001
                      try clear q56002
                      try clear q56003
                      obtain ⟨x3_3, x6_3, rfl, rfl, HA, HK3, HO_5, HB⟩ := hrel
                      cases gk with
                      | zero => exact absurd HA.out (by simp [spec_HeadOf.l1])
                      | succ k3 =>
                        have H := HA.out
                        clear HA
                        simp only [spec_HeadOf.l1] at H
                        by_cases c12 : x6_3 < (t56004.length : Int)
                        · rw [if_pos c12] at H
                          have c12b0 : decide (x6_3 < (t56004.length : Int)) = true := decide_eq_true c12
                          clear c12
                          by_cases c13 : 0 ≤ x6_3
                          · rw [if_pos c13] at H
                            have c13b0 : decide (0 ≤ x6_3) = true := decide_eq_true c13
                            clear c13
                            replace H := Option.bind_eq_some_iff.mp H
                            obtain ⟨t56008, A140, H⟩ := H
                            replace H : (if t56008 = true then (spec_HeadOf.l1 k3 l0 (Int.tmod (wrap64 ((wrap64 ((wrap64 (x3_3 * 1000003)) + (rd t56004 x6_3))) + 549755813888)) 1099511627791) x4_1 t56004 (wrap64 (x6_3 + 1))) else (some 0)) = some r := H
                            have A14 := Aside0.mk A140
                            clear A140
                            by_cases c15 : t56008 = true
                            · subst c15
                              have H1 : (spec_HeadOf.l1 k3 l0 (Int.tmod (wrap64 ((wrap64 ((wrap64 (x3_3 * 1000003)) + (rd t56004 x6_3))) + 549755813888)) 1099511627791) x4_1 t56004 (wrap64 (x6_3 + 1))) = some r := by rw [if_pos rfl] at H; exact H
                              clear H
                              have H := H1
                              clear H1
                              have H' := Aside0.mk H
                              clear H
                              obtain ⟨Ao16, co16, eo16⟩ := Kd.R_slice HO_5.out
                              subst eo16
                              have p56007 : 0 ≤ (x6_3 : Int) := of_decide_eq_true (by first | (with_reducible assumption) | assumption)
                              have q56007 : x6_3 < (t56004.length : Int) := of_decide_eq_true (by first | (with_reducible assumption) | assumption)
                              obtain ⟨ad56007, e56007, hx56007_0⟩ := Kd.at_int (Kd.R_reads' HO_5.out).2.2 x6_3 p56007 q56007
                              cases e56007
                              replace p56007 := eq_true p56007
                              replace q56007 := eq_true q56007
                              go_wp2_with (first | ((with_reducible refine gate_callee (f := 44) rfl ?_); refine goesL_ (some 47) rfl rfl Try.func44 (by kernel_rfl) rfl #[.int .i64 (rd t56004 x6_3), .int .i64 (-549755813888), .int .i64 549755813887] rfl (by (try simp only [List.map_toArray, List.map_cons, List.map_nil]); first | done | rfl | (simp only [List.length_drop, List.length_take]; rfl)) ?_; (with_reducible refine (spec_l1In.calls (rd t56004 x6_3) (-549755813888) 549755813887 true _ A14.out).mono ?_); rintro e w' ⟨rfl, ⟨nd, rfl⟩⟩; refine ⟨_, rfl, ?_⟩; have p56009 : 0 ≤ (x6_3 : Int) := of_decide_eq_true (by first | (with_reducible assumption) | assumption); have q56009 : x6_3 < (t56004.length : Int) := of_decide_eq_true (by first | (with_reducible assumption) | assumption); obtain ⟨ad56009, e56009, hx56009_0⟩ := Kd.at_int (Kd.R_reads' HO_5.out).2.2 x6_3 p56009 q56009; obtain rfl : ad56007 = ad56009 := (by injection e56009); replace p56009 := eq_true p56009; replace q56009 := eq_true q56009))
                              go_roundg k3
                              case measure => have := HK1.out; have := HJ3.out; have := HK3.out; omega
                              case rel => exact ⟨(Int.tmod (wrap64 ((wrap64 ((wrap64 (x3_3 * 1000003)) + (rd t56004 x6_3))) + 549755813888)) 1099511627791), (wrap64 (x6_3 + 1)), (by first | rfl | (simp; done) | (simp [*]; done)), (by first | rfl | (simp; done) | (simp [*]; done)), H', ⟨by have := HK1.out; have := HJ3.out; have := HK3.out; omega⟩, ⟨by (with_reducible repeat (first | apply Kd.R_alloc | apply Kd.R_drewN | apply Kd.R_drew)); exact HO_5.out⟩, ⟨by repeat (first | (with_reducible first | exact HB.out | apply below_alloc | apply pw_below_drewN | apply below_drew1) | exact HB.out)⟩⟩
                            · replace c15 := Bool.eq_false_iff.mpr c15
                              subst c15
                              have H1 : (some 0) = some r := by rw [if_neg (show ¬ (false = true) by decide)] at H; exact H
                              clear H
                              have H := H1
                              clear H1
                              obtain rfl := Option.some.inj H
                              obtain ⟨Ao17, co17, eo17⟩ := Kd.R_slice HO_5.out
                              subst eo17
                              have p56007 : 0 ≤ (x6_3 : Int) := of_decide_eq_true (by first | (with_reducible assumption) | assumption)
                              have q56007 : x6_3 < (t56004.length : Int) := of_decide_eq_true (by first | (with_reducible assumption) | assumption)
                              obtain ⟨ad56007, e56007, hx56007_0⟩ := Kd.at_int (Kd.R_reads' HO_5.out).2.2 x6_3 p56007 q56007
                              cases e56007
                              replace p56007 := eq_true p56007
                              replace q56007 := eq_true q56007
                              go_wp2_with (first | ((with_reducible refine gate_callee (f := 44) rfl ?_); refine goesL_ (some 47) rfl rfl Try.func44 (by kernel_rfl) rfl #[.int .i64 (rd t56004 x6_3), .int .i64 (-549755813888), .int .i64 549755813887] rfl (by (try simp only [List.map_toArray, List.map_cons, List.map_nil]); first | done | rfl | (simp only [List.length_drop, List.length_take]; rfl)) ?_; (with_reducible refine (spec_l1In.calls (rd t56004 x6_3) (-549755813888) 549755813887 false _ A14.out).mono ?_); rintro e w' ⟨rfl, ⟨nd, rfl⟩⟩; refine ⟨_, rfl, ?_⟩))
                              go_ret
                              exact ⟨by first | rfl | (simp [errW_none, errW_some] <;> rfl) | (simp [*, errW_none, errW_some] <;> rfl), by repeat (first | (with_reducible first | exact HB.out | apply below_alloc | apply pw_below_drewN | apply below_drew1) | exact HB.out)⟩
                          · rw [if_neg c13] at H
                            exact absurd H (by simp)
                        · rw [if_neg c12] at H
                          have c12b0 : decide (x6_3 < (t56004.length : Int)) = false := decide_eq_false c12
                          clear c12
                          have H' := Aside0.mk H
                          clear H
                          obtain ⟨Ao18, co18, eo18⟩ := Kd.R_slice HO_5.out
                          subst eo18
                          go_wp2
                          go_roundg k3
                          case measure => have := HK1.out; have := HJ3.out; have := HK3.out; omega
                          case rel => exact ⟨(x3_3), (wrap64 (x4_1 + 1)), (by first | rfl | (simp; done) | (simp [*]; done)), (by first | rfl | (simp; done) | (simp [*]; done)), H', ⟨by have := HK1.out; have := HJ3.out; have := HK3.out; omega⟩, ⟨by repeat (first | (with_reducible first | exact HB.out | apply below_alloc | apply pw_below_drewN | apply below_drew1) | exact HB.out)⟩⟩
                  · rw [if_neg c9] at H
                    exact absurd H (by simp)
                · rw [if_neg c8] at H
                  exact absurd H (by simp)
        · rw [if_neg c3] at H
          have c3b0 : decide (x4_1 < (l0.length : Int)) = false := decide_eq_false c3
          clear c3
          obtain rfl := Option.some.inj H
          go_wp2
          go_ret
          exact ⟨by first | rfl | (simp [errW_none, errW_some] <;> rfl) | (simp [*, errW_none, errW_some] <;> rfl), by repeat (first | (with_reducible first | exact HB.out | apply below_alloc | apply pw_below_drewN | apply below_drew1) | exact HB.out)⟩
end Go.Proofs.Ytjnibbkjoclboaa.Q
