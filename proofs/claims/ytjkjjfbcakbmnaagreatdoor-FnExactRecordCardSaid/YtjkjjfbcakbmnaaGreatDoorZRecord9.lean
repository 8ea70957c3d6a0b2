/- Parts of the proof: what functions of the program and of the reference answer.
   No condition. -/
import Derived.Test.YtjkjjfbcakbmnaaGreatDoorZRecord1
import Derived.Test.YtjkjjfbcakbmnaaGreatDoorZRecord2
import Derived.Test.YtjkjjfbcakbmnaaGreatDoorZRecord3
namespace Go.Proofs.YtjkjjfbcakbmnaaGreatDoor.Q
open Go.RowKit Go.Proofs.YtjkjjfbcakbmnaaGreatDoorW.PrintWords Go.Proofs.YtjkjjfbcakbmnaaGreatDoorW.PrintLast Go.Proofs.YtjkjjfbcakbmnaaGreatDoorW.PrintMore
attribute [local go_sem] max2_int min2_int max_two min_two max_three min_three max_four min_four   -- for this text's walks alone
set_option linter.unusedVariables false
set_option linter.unusedSimpArgs false
mutual
noncomputable def spec_HeadOf.l0 : Nat → List (S41) → Int → Int → Option (Int)
  | 0, _, _, _ => none
  | k + 1, x0, x3, x4 => if x4 < (x0.length : Int) then (if 0 ≤ x4 then (if (((rd_T41 x0 x4).f3).length : Int) > 60 then (spec_HeadOf.j1 k x0 x3 x4 true) else (spec_HeadOf.j1 k x0 x3 x4 (decide ((((rd_T41 x0 x4).f2).size : Int) > 40)))) else (none)) else (some x3)
noncomputable def spec_HeadOf.j1 : Nat → List (S41) → Int → Int → Bool → Option (Int)
  | 0, _, _, _, _ => none
  | k + 1, x0, x3, x4, x31 => if x31 = true then (some 0) else (if 0 ≤ x4 then (if x4 < (x0.length : Int) then ((spec_l5Numbers.f k ((rd_T41 x0 x4).f0) ((rd_T41 x0 x4).f1) ((rd_T41 x0 x4).f2) ((rd_T41 x0 x4).f3)).bind fun t89004 => (spec_HeadOf.l1 k x0 x3 x4 t89004 0)) else (none)) else (none))
noncomputable def spec_HeadOf.l1 : Nat → List (S41) → Int → Int → List Int → Int → Option (Int)
  | 0, _, _, _, _, _ => none
  | k + 1, x0, x3, x4, x5, x6 => if x6 < (x5.length : Int) then (if 0 ≤ x6 then ((spec_l1In.f (rd x5 x6) (-549755813888) 549755813887).bind fun t89008 => (if t89008 = true then (spec_HeadOf.l1 k x0 (Int.tmod (wrap64 ((wrap64 ((wrap64 (x3 * 1000003)) + (rd x5 x6))) + 549755813888)) 1099511627791) x4 x5 (wrap64 (x6 + 1))) else (some 0))) else (none)) else (spec_HeadOf.l0 k x0 x3 (wrap64 (x4 + 1)))
end
noncomputable def spec_HeadOf.f (k : Nat) (l0 : List (S41)) : Option (Int) := if (l0.length : Int) > 1000 then (some 0) else (spec_HeadOf.l0 k l0 1 0)
set_option maxHeartbeats 8000000 in
set_option maxRecDepth 100000 in
theorem spec_HeadOf.calls (k : Nat) (A0 : Option Addr) (c0 : Nat) (l0 : List (S41)) (r : Int) (w : World) (hr0 : Kd.C k41 w A0 l0.length l0) (hc0 : l0.length ≤ c0) (h : spec_HeadOf.f k l0 = some r) :
    Calls Tryz.prog 88 #[.slice A0 l0.length c0] w fun e w' => e = .returned (.int .i64 r) ∧ Below w.heap.size w w' := by
  have hu41 := Tryz.underlying41
  have HR0 := Aside0.mk hr0
  have HC0 := Aside0.mk hc0
  clear hr0 hc0
  have HB := Aside0.mk (Below.refl w.heap.size w)
  have H : (if (l0.length : Int) > 1000 then (some 0) else (spec_HeadOf.l0 k l0 1 0)) = some r := h
  clear h
  by_cases c2 : (l0.length : Int) > 1000
  · rw [if_pos c2] at H
    have c2b0 : decide (1000 < (l0.length : Int)) = true := decide_eq_true c2
    have c2b1 : decide (1000 < l0.length) = true := decide_eq_true (by omega)
    clear c2
    obtain rfl := Option.some.inj H
    go_enter Tryz.func88, Tryz.ntmps88
    go_wp2
    go_ret
    exact ⟨by first | rfl | (simp [errW_none, errW_some] <;> rfl) | (simp [*, errW_none, errW_some] <;> rfl), by repeat (first | (with_reducible first | exact HB.out | apply y01 | apply y02 | apply y04) | exact HB.out)⟩
  · rw [if_neg c2] at H
    have c2b0 : decide (1000 < (l0.length : Int)) = false := decide_eq_false c2
    have c2b1 : decide (1000 < l0.length) = false := decide_eq_false (by omega)
    clear c2
    have H' := Aside0.mk H
    clear H
    go_enter Tryz.func88, Tryz.ntmps88
    go_wp2
    go_loopg [3, 4] k (fun kq v3 v4 w' => ∃ (x3_1 : Int) (x4_1 : Int), v3 = .int .i64 x3_1 ∧ v4 = .int .i64 x4_1 ∧ Aside0 (spec_HeadOf.l0 kq l0 x3_1 x4_1 = some r) ∧ Aside0 (kq ≤ k) ∧ Aside0 (Below w.heap.size w w'))
    case atStart => exact ⟨(1), (0), (by first | rfl | (simp; done) | (simp [*]; done)), (by first | rfl | (simp; done) | (simp [*]; done)), H', ⟨Nat.le_refl _⟩, ⟨by repeat (first | (with_reducible first | exact HB.out | apply y01 | apply y02 | apply y04) | exact HB.out)⟩⟩
    case round =>
      clear H'
      try clear c2
      try clear c2b0
      try clear c2b1
      try clear p2
      obtain ⟨x3_1, x4_1, rfl, rfl, HA, HK1, HB⟩ := hrel
      cases gk with
      | zero => exact absurd HA.out (by simp [spec_HeadOf.l0])
      | succ k1 =>
        have H := HA.out
        clear HA
        simp only [spec_HeadOf.l0] at H
        by_cases c3 : x4_1 < (l0.length : Int)
        · rw [if_pos c3] at H
          have c3b0 : decide (x4_1 < (l0.length : Int)) = true := decide_eq_true c3
          clear c3
          have HC4 := Aside0.mk H
          clear H
          go_upto_region 7 with (fail)
          go_cut [31] (fun v31 wc => ∃ (kq : Nat) (x31_3 : Bool), v31 = .bool x31_3 ∧ Aside0 (spec_HeadOf.j1 kq l0 x3_1 x4_1 x31_3 = some r) ∧ Aside0 (kq ≤ k1) ∧ Aside0 (Below w.heap.size w wc))
          case first =>
            have H := HC4.out
            clear HC4
            by_cases c5 : 0 ≤ x4_1
            · rw [if_pos c5] at H
              have c5b0 : decide (0 ≤ x4_1) = true := decide_eq_true c5
              clear c5
              (first | rw [c5b0] | (simp only [i64_w, i32_w]; rw [c5b0]) | skip)
              by_cases c6 : (((rd_T41 l0 x4_1).f3).length : Int) > 60
              · rw [if_pos c6] at H
                have c6b0 : decide (60 < (((rd_T41 l0 x4_1).f3).length : Int)) = true := decide_eq_true c6
                have c6b1 : decide (60 < ((rd_T41 l0 x4_1).f3).length) = true := decide_eq_true (by omega)
                clear c6
                have H' := Aside0.mk H
                clear H
                have p89001 : 0 ≤ (x4_1 : Int) := of_decide_eq_true (by first | (with_reducible assumption) | assumption)
                have q89001 : x4_1 < (l0.length : Int) := of_decide_eq_true (by first | (with_reducible assumption) | assumption)
                obtain ⟨ad89001, A89001_3, c89001_3, e89001, hx89001_0, hx89001_1, hx89001_2, hx89001_3, hl89001_3, hi89001_3⟩ := at_T41 HR0.out x4_1 p89001 q89001
                cases e89001
                replace hx89001_0 := (HB.out.cell (World.block_lt_of_cell? w _ hx89001_0)).trans hx89001_0
                replace hx89001_1 := (HB.out.cell (World.block_lt_of_cell? w _ hx89001_1)).trans hx89001_1
                replace hx89001_2 := (HB.out.cell (World.block_lt_of_cell? w _ hx89001_2)).trans hx89001_2
                replace hx89001_3 := (HB.out.cell (World.block_lt_of_cell? w _ hx89001_3)).trans hx89001_3
                have HR89001_3 := Aside0.mk hi89001_3
                have HC89001_3 := Aside0.mk hl89001_3
                clear hi89001_3 hl89001_3
                replace p89001 := eq_true p89001
                replace q89001 := eq_true q89001
                go_wp2
                go_meet
                case rel => exact ⟨_, (true), (by first | rfl | (simp; done) | (simp [*]; done)), H', ⟨by have := HK1.out; first | omega | exact Nat.le_refl _⟩, ⟨by repeat (first | (with_reducible first | exact HB.out | apply y01 | apply y02 | apply y04) | exact HB.out)⟩⟩
              · rw [if_neg c6] at H
                have c6b0 : decide (60 < (((rd_T41 l0 x4_1).f3).length : Int)) = false := decide_eq_false c6
                have c6b1 : decide (60 < ((rd_T41 l0 x4_1).f3).length) = false := decide_eq_false (by omega)
                clear c6
                have H' := Aside0.mk H
                clear H
                have p89001 : 0 ≤ (x4_1 : Int) := of_decide_eq_true (by first | (with_reducible assumption) | assumption)
                have q89001 : x4_1 < (l0.length : Int) := of_decide_eq_true (by first | (with_reducible assumption) | assumption)
                obtain ⟨ad89001, A89001_3, c89001_3, e89001, hx89001_0, hx89001_1, hx89001_2, hx89001_3, hl89001_3, hi89001_3⟩ := at_T41 HR0.out x4_1 p89001 q89001
                cases e89001
                replace hx89001_0 := (HB.out.cell (World.block_lt_of_cell? w _ hx89001_0)).trans hx89001_0
                replace hx89001_1 := (HB.out.cell (World.block_lt_of_cell? w _ hx89001_1)).trans hx89001_1
                replace hx89001_2 := (HB.out.cell (World.block_lt_of_cell? w _ hx89001_2)).trans hx89001_2
                replace hx89001_3 := (HB.out.cell (World.block_lt_of_cell? w _ hx89001_3)).trans hx89001_3
                have HR89001_3 := Aside0.mk hi89001_3
                have HC89001_3 := Aside0.mk hl89001_3
                clear hi89001_3 hl89001_3
                replace p89001 := eq_true p89001
                replace q89001 := eq_true q89001
                have p89002 : 0 ≤ (x4_1 : Int) := of_decide_eq_true (by first | (with_reducible assumption) | assumption)
                have q89002 : x4_1 < (l0.length : Int) := of_decide_eq_true (by first | (with_reducible assumption) | assumption)
                obtain ⟨ad89002, A89002_3, c89002_3, e89002, hx89002_0, hx89002_1, hx89002_2, hx89002_3, hl89002_3, hi89002_3⟩ := at_T41 HR0.out x4_1 p89002 q89002
                obtain rfl : ad89001 = ad89002 := (by injection e89002)
                replace hx89002_0 := (HB.out.cell (World.block_lt_of_cell? w _ hx89002_0)).trans hx89002_0
                replace hx89002_1 := (HB.out.cell (World.block_lt_of_cell? w _ hx89002_1)).trans hx89002_1
                replace hx89002_2 := (HB.out.cell (World.block_lt_of_cell? w _ hx89002_2)).trans hx89002_2
                replace hx89002_3 := (HB.out.cell (World.block_lt_of_cell? w _ hx89002_3)).trans hx89002_3
                have HR89002_3 := Aside0.mk hi89002_3
                have HC89002_3 := Aside0.mk hl89002_3
                clear hi89002_3 hl89002_3
                replace p89002 := eq_true p89002
                replace q89002 := eq_true q89002
                have ea_ := Option.some.inj (hx89001_3.symm.trans hx89002_3)
                injection ea_ with ea_ en_ ec_
                subst ea_
                subst ec_
                clear en_
                go_wp2
                go_meet
                case rel => exact ⟨_, (decide ((((rd_T41 l0 x4_1).f2).size : Int) > 40)), (by first | rfl | (simp; done) | (simp [*]; done)), H', ⟨by have := HK1.out; first | omega | exact Nat.le_refl _⟩, ⟨by repeat (first | (with_reducible first | exact HB.out | apply y01 | apply y02 | apply y04) | exact HB.out)⟩⟩
            · rw [if_neg c5] at H
              exact absurd H (by simp)
          case rest =>
            clear HC4
            try clear c2
            try clear c2b0
            try clear c2b1
            try clear p2
            try clear c3
            try clear c3b0
            try clear c5
            try clear c5b0
            try clear c6
            try clear c6b0
            try clear c6b1
            try clear hx89001_0
            try clear hx89001_1
            try clear hx89001_2
            try clear hx89001_3
            try clear hx89002_0
            try clear hx89002_1
            try clear hx89002_2
            try clear hx89002_3
            try clear p2
            try clear p89001
            try clear p89002
            try clear q89001
            try clear q89002
            obtain ⟨kq, x31_3, rfl, HA, HJ3, HB⟩ := hcut
            cases kq with
            | zero => exact absurd HA.out (by simp [spec_HeadOf.j1])
            | succ kj3 =>
              have H := HA.out
              clear HA
              simp only [spec_HeadOf.j1] at H
              by_cases c7 : x31_3 = true
              · subst c7
                have H1 : (some 0) = some r := by rw [if_pos rfl] at H; exact H
                clear H
                have H := H1
                clear H1
                obtain rfl := Option.some.inj H
                go_wp2
                go_ret
                exact ⟨by first | rfl | (simp [errW_none, errW_some] <;> rfl) | (simp [*, errW_none, errW_some] <;> rfl), by repeat (first | (with_reducible first | exact HB.out | apply y01 | apply y02 | apply y04) | exact HB.out)⟩
              · replace c7 := Bool.eq_false_iff.mpr c7
                subst c7
                have H1 : (if 0 ≤ x4_1 then (if x4_1 < (l0.length : Int) then ((spec_l5Numbers.f kj3 ((rd_T41 l0 x4_1).f0) ((rd_T41 l0 x4_1).f1) ((rd_T41 l0 x4_1).f2) ((rd_T41 l0 x4_1).f3)).bind fun t89004 => (spec_HeadOf.l1 kj3 l0 x3_1 x4_1 t89004 0)) else (none)) else (none)) = some r := by rw [if_neg (show ¬ (false = true) by decide)] at H; exact H
                clear H
                have H := H1
                clear H1
                by_cases c8 : 0 ≤ x4_1
                · rw [if_pos c8] at H
                  have c8b0 : decide (0 ≤ x4_1) = true := decide_eq_true c8
                  clear c8
                  by_cases c9 : x4_1 < (l0.length : Int)
                  · rw [if_pos c9] at H
                    have c9b0 : decide (x4_1 < (l0.length : Int)) = true := decide_eq_true c9
                    clear c9
                    replace H := Option.bind_eq_some_iff.mp H
                    obtain ⟨t89004, A100, H⟩ := H
                    replace H : (spec_HeadOf.l1 kj3 l0 x3_1 x4_1 t89004 0) = some r := H
                    have A10 := Aside0.mk A100
                    clear A100
                    have H' := Aside0.mk H
                    clear H
                    have p89003 : 0 ≤ (x4_1 : Int) := of_decide_eq_true (by first | (with_reducible assumption) | assumption)
                    have q89003 : x4_1 < (l0.length : Int) := of_decide_eq_true (by first | (with_reducible assumption) | assumption)
                    obtain ⟨ad89003, A89003_3, c89003_3, e89003, hx89003_0, hx89003_1, hx89003_2, hx89003_3, hl89003_3, hi89003_3⟩ := at_T41 HR0.out x4_1 p89003 q89003
                    cases e89003
                    replace hx89003_0 := (HB.out.cell (World.block_lt_of_cell? w _ hx89003_0)).trans hx89003_0
                    replace hx89003_1 := (HB.out.cell (World.block_lt_of_cell? w _ hx89003_1)).trans hx89003_1
                    replace hx89003_2 := (HB.out.cell (World.block_lt_of_cell? w _ hx89003_2)).trans hx89003_2
                    replace hx89003_3 := (HB.out.cell (World.block_lt_of_cell? w _ hx89003_3)).trans hx89003_3
                    have HR89003_3 := Aside0.mk hi89003_3
                    have HC89003_3 := Aside0.mk hl89003_3
                    clear hi89003_3 hl89003_3
                    replace p89003 := eq_true p89003
                    replace q89003 := eq_true q89003
                    go_wp2_with (first | ((with_reducible refine gate_callee (f := 123) rfl ?_); refine goesL_ (some 36) rfl rfl Tryz.func123 (by kernel_rfl) rfl #[.agg #[.int .i64 ((rd_T41 l0 x4_1).f0), .int .i64 ((rd_T41 l0 x4_1).f1), .string ((rd_T41 l0 x4_1).f2), .slice A89003_3 ((rd_T41 l0 x4_1).f3).length c89003_3]] rfl (by (try simp only [List.map_toArray, List.map_cons, List.map_nil]); first | done | rfl | (simp only [List.length_drop, List.length_take]; rfl)) ?_; (with_reducible refine (spec_l5Numbers.calls kj3 ((rd_T41 l0 x4_1).f0) ((rd_T41 l0 x4_1).f1) ((rd_T41 l0 x4_1).f2) _ _ ((rd_T41 l0 x4_1).f3) t89004 _ ?side1 ?side2 A10.out).mono ?_); (case side1 => repeat (first | exact (Kd.C_below HR89003_3.out HB.out) | (with_reducible refine Kd.C_alloc ?_ _) | (with_reducible refine Kd.C_drewN ?_ _) | (with_reducible refine Kd.C_drew ?_))); (case side2 => exact HC89003_3.out); rintro e w11 ⟨v89005, rfl, ho0, hb⟩; refine ⟨_, rfl, ?_⟩; have n0_ := Aside0.mk (Kd.R_lower ho0 (below_size (by repeat (first | (with_reducible first | exact HB.out | apply y01 | apply y02 | apply y04) | exact HB.out)))); have n1_ := Aside0.mk (below_step (by repeat (first | (with_reducible first | exact HB.out | apply y01 | apply y02 | apply y04) | exact HB.out)) hb); clear HB; have HO89006 := n0_; have HB := n1_; clear n0_ n1_; (try clear hb); (try clear hb2); (try clear hk); (try clear hi); (try clear ho0)))
                    go_loopg [3, 6] kj3 (fun kq v3 v6 w' => ∃ (x3_3 : Int) (x6_3 : Int), v3 = .int .i64 x3_3 ∧ v6 = .int .i64 x6_3 ∧ Aside0 (spec_HeadOf.l1 kq l0 x3_3 x4_1 t89004 x6_3 = some r) ∧ Aside0 (kq ≤ kj3) ∧ Aside0 (Kd.R (Kd.int .i64) 3 w' w.heap.size (fun _ => True) v89005 t89004) ∧ Aside0 (Below w.heap.size w w'))
                    case atStart => exact ⟨(x3_1), (0), (by first | rfl | (simp; done) | (simp [*]; done)), (by first | rfl | (simp; done) | (simp [*]; done)), H', ⟨Nat.le_refl _⟩, ⟨by (with_reducible repeat (first | apply Kd.R_alloc | apply Kd.R_drewN | apply Kd.R_drew)); exact HO89006.out⟩, ⟨by repeat (first | (with_reducible first | exact HB.out | apply y01 | apply y02 | apply y04) | exact HB.out)⟩⟩
                    case round =>
                      clear H'
                      try clear c1
                      try clear c2
                      try clear c2b0
                      try clear c2b1
                      try clear p2
                      try clear c3
                      try clear c3b0
                      try clear c5
                      try clear c5b0
                      try clear c6
                      try clear c6b0
                      try clear c6b1
                      try clear c7
                      try clear c8
                      try clear c8b0
                      try clear p8
                      try clear q8
                      try clear hx8
                      try clear c9
                      try clear c9b0
                      try clear hx89001_0
                      try clear hx89001_1
                      try clear hx89001_2
                      try clear hx89001_3
                      try clear hx89002_0
                      try clear hx89002_1
                      try clear hx89002_2
                      try clear hx89002_3
                      try clear hx89003_0
                      try clear hx89003_1
                      try clear hx89003_2
                      try clear hx89003_3
                      try clear p2
                      try clear p89001
                      try clear p89002
                      try clear p89003
                      try clear q89001
                      try clear q89002
                      try clear q89003
                      obtain ⟨x3_3, x6_3, rfl, rfl, HA, HK3, HO_5, HB⟩ := hrel
                      cases gk with
                      | zero => exact absurd HA.out (by simp [spec_HeadOf.l1])
                      | succ k3 =>
                        have H := HA.out
                        clear HA
                        simp only [spec_HeadOf.l1] at H
                        by_cases c12 : x6_3 < (t89004.length : Int)
                        · rw [if_pos c12] at H
                          have c12b0 : decide (x6_3 < (t89004.length : Int)) = true := decide_eq_true c12
                          clear c12
                          by_cases c13 : 0 ≤ x6_3
                          · rw [if_pos c13] at H
                            have c13b0 : decide (0 ≤ x6_3) = true := decide_eq_true c13
                            clear c13
                            replace H := Option.bind_eq_some_iff.mp H
                            obtain ⟨t89008, A140, H⟩ := H
                            replace H : (if t89008 = true then (spec_HeadOf.l1 k3 l0 (Int.tmod (wrap64 ((wrap64 ((wrap64 (x3_3 * 1000003)) + (rd t89004 x6_3))) + 549755813888)) 1099511627791) x4_1 t89004 (wrap64 (x6_3 + 1))) else (some 0)) = some r := H
                            have A14 := Aside0.mk A140
                            clear A140
                            by_cases c15 : t89008 = true
                            · subst c15
                              have H1 : (spec_HeadOf.l1 k3 l0 (Int.tmod (wrap64 ((wrap64 ((wrap64 (x3_3 * 1000003)) + (rd t89004 x6_3))) + 549755813888)) 1099511627791) x4_1 t89004 (wrap64 (x6_3 + 1))) = some r := by rw [if_pos rfl] at H; exact H
                              clear H
                              have H := H1
                              clear H1
                              have H' := Aside0.mk H
                              clear H
                              obtain ⟨Ao16, co16, eo16⟩ := Kd.R_slice HO_5.out
                              subst eo16
                              have p89007 : 0 ≤ (x6_3 : Int) := of_decide_eq_true (by first | (with_reducible assumption) | assumption)
                              have q89007 : x6_3 < (t89004.length : Int) := of_decide_eq_true (by first | (with_reducible assumption) | assumption)
                              obtain ⟨ad89007, e89007, hx89007_0⟩ := Kd.at_int (Kd.R_reads' HO_5.out).2.2 x6_3 p89007 q89007
                              cases e89007
                              replace p89007 := eq_true p89007
                              replace q89007 := eq_true q89007
                              go_wp2_with (first | ((with_reducible refine gate_callee (f := 34) rfl ?_); refine goesL_ (some 47) rfl rfl Tryz.func34 (by kernel_rfl) rfl #[.int .i64 (rd t89004 x6_3), .int .i64 (-549755813888), .int .i64 549755813887] rfl (by (try simp only [List.map_toArray, List.map_cons, List.map_nil]); first | done | rfl | (simp only [List.length_drop, List.length_take]; rfl)) ?_; (with_reducible refine (spec_l1In.calls (rd t89004 x6_3) (-549755813888) 549755813887 true _ A14.out).mono ?_); rintro e w' ⟨rfl, ⟨nd, rfl⟩⟩; refine ⟨_, rfl, ?_⟩; have p89009 : 0 ≤ (x6_3 : Int) := of_decide_eq_true (by first | (with_reducible assumption) | assumption); have q89009 : x6_3 < (t89004.length : Int) := of_decide_eq_true (by first | (with_reducible assumption) | assumption); obtain ⟨ad89009, e89009, hx89009_0⟩ := Kd.at_int (Kd.R_reads' HO_5.out).2.2 x6_3 p89009 q89009; obtain rfl : ad89007 = ad89009 := (by injection e89009); replace p89009 := eq_true p89009; replace q89009 := eq_true q89009))
                              go_roundg k3
                              case measure => have := HK1.out; have := HJ3.out; have := HK3.out; omega
                              case rel => exact ⟨(Int.tmod (wrap64 ((wrap64 ((wrap64 (x3_3 * 1000003)) + (rd t89004 x6_3))) + 549755813888)) 1099511627791), (wrap64 (x6_3 + 1)), (by first | rfl | (simp; done) | (simp [*]; done)), (by first | rfl | (simp; done) | (simp [*]; done)), H', ⟨by have := HK1.out; have := HJ3.out; have := HK3.out; omega⟩, ⟨by (with_reducible repeat (first | apply Kd.R_alloc | apply Kd.R_drewN | apply Kd.R_drew)); exact HO_5.out⟩, ⟨by repeat (first | (with_reducible first | exact HB.out | apply y01 | apply y02 | apply y04) | exact HB.out)⟩⟩
                            · replace c15 := Bool.eq_false_iff.mpr c15
                              subst c15
                              have H1 : (some 0) = some r := by rw [if_neg (show ¬ (false = true) by decide)] at H; exact H
                              clear H
                              have H := H1
                              clear H1
                              obtain rfl := Option.some.inj H
                              obtain ⟨Ao17, co17, eo17⟩ := Kd.R_slice HO_5.out
                              subst eo17
                              have p89007 : 0 ≤ (x6_3 : Int) := of_decide_eq_true (by first | (with_reducible assumption) | assumption)
                              have q89007 : x6_3 < (t89004.length : Int) := of_decide_eq_true (by first | (with_reducible assumption) | assumption)
                              obtain ⟨ad89007, e89007, hx89007_0⟩ := Kd.at_int (Kd.R_reads' HO_5.out).2.2 x6_3 p89007 q89007
                              cases e89007
                              replace p89007 := eq_true p89007
                              replace q89007 := eq_true q89007
                              go_wp2_with (first | ((with_reducible refine gate_callee (f := 34) rfl ?_); refine goesL_ (some 47) rfl rfl Tryz.func34 (by kernel_rfl) rfl #[.int .i64 (rd t89004 x6_3), .int .i64 (-549755813888), .int .i64 549755813887] rfl (by (try simp only [List.map_toArray, List.map_cons, List.map_nil]); first | done | rfl | (simp only [List.length_drop, List.length_take]; rfl)) ?_; (with_reducible refine (spec_l1In.calls (rd t89004 x6_3) (-549755813888) 549755813887 false _ A14.out).mono ?_); rintro e w' ⟨rfl, ⟨nd, rfl⟩⟩; refine ⟨_, rfl, ?_⟩))
                              go_ret
                              exact ⟨by first | rfl | (simp [errW_none, errW_some] <;> rfl) | (simp [*, errW_none, errW_some] <;> rfl), by repeat (first | (with_reducible first | exact HB.out | apply y01 | apply y02 | apply y04) | exact HB.out)⟩
                          · rw [if_neg c13] at H
                            exact absurd H (by simp)
                        · rw [if_neg c12] at H
                          have c12b0 : decide (x6_3 < (t89004.length : Int)) = false := decide_eq_false c12
                          clear c12
                          have H' := Aside0.mk H
                          clear H
                          obtain ⟨Ao18, co18, eo18⟩ := Kd.R_slice HO_5.out
                          subst eo18
                          go_wp2
                          go_roundg k3
                          case measure => have := HK1.out; have := HJ3.out; have := HK3.out; omega
                          case rel => exact ⟨(x3_3), (wrap64 (x4_1 + 1)), (by first | rfl | (simp; done) | (simp [*]; done)), (by first | rfl | (simp; done) | (simp [*]; done)), H', ⟨by have := HK1.out; have := HJ3.out; have := HK3.out; omega⟩, ⟨by repeat (first | (with_reducible first | exact HB.out | apply y01 | apply y02 | apply y04) | exact HB.out)⟩⟩
                  · rw [if_neg c9] at H
                    exact absurd H (by simp)
                · rw [if_neg c8] at H
                  exact absurd H (by simp)
        · rw [if_neg c3] at H
          have c3b0 : decide (x4_1 < (l0.length : Int)) = false := decide_eq_false c3
          clear c3
          obtain rfl := Option.some.inj H
          go_wp2
          go_ret
          exact ⟨by first | rfl | (simp [errW_none, errW_some] <;> rfl) | (simp [*, errW_none, errW_some] <;> rfl), by repeat (first | (with_reducible first | exact HB.out | apply y01 | apply y02 | apply y04) | exact HB.out)⟩
set_option maxHeartbeats 4000000 in
set_option maxRecDepth 100000 in
theorem laws_eqAccountS.calls (A0 : Option Addr) (c0 : Nat) (l0 : List (S48)) (A1 : Option Addr) (c1 : Nat) (l1 : List (S48)) (w : World) (hr0 : Kd.C k48 w A0 l0.length l0) (hr1 : Kd.C k48 w A1 l1.length l1) :
    Calls Tryz.prog 111 #[.slice A0 l0.length c0, .slice A1 l1.length c1] w fun e w' => e = .returned (.bool (same l0 l1)) ∧ Below w.heap.size w w' := by
  have hl := hr0.2.1
  have hm := hr1.2.1
  have H0 := Aside0.mk hr0
  have H1 := Aside0.mk hr1
  clear hr0 hr1
  by_cases hlen : l0.length = l1.length
  · have hlb : ((l0.length : Int) != (l1.length : Int)) = false := by rw [hlen]; simp
    have HL := Aside0.mk hlen
    clear hlen
    go_enter Tryz.func111, Tryz.ntmps111
    go_wp2
    go_loopw [5] (fun v wr => ∃ i : Int, 0 ≤ i ∧ i ≤ (l0.length : Int) ∧ v = .int .i64 i ∧ Aside0 (Below w.heap.size w wr) ∧ Aside0 (l0.take i.toNat = l1.take i.toNat)) (fun v _ => (l0.length - (intOf v).toNat))
    case atStart => exact ⟨0, by omega, by omega, rfl, ⟨Below.refl _ _⟩, ⟨rfl⟩⟩
    case round =>
      obtain ⟨i, hi0, hi1, rfl, HB, HT⟩ := hrel
      by_cases hlt : i < (l0.length : Int)
      · have hlt2 : i < (l1.length : Int) := by have := HL.out; omega
        obtain ⟨ad, ead, adx0, adx1, adx2⟩ := at_T48 (Kd.C_below H0.out HB.out) i hi0 hlt
        obtain ⟨bd, ebd, bdx0, bdx1, bdx2⟩ := at_T48 (Kd.C_below H1.out HB.out) i hi0 hlt2
        cases ead
        cases ebd
        go_wp2
        go_region_held3 (fun w' => w'.cell? (ad.add (i.toNat * 3)) = some (.string (rd_T48 l0 i).f0) ∧ w'.cell? ⟨(ad.add (i.toNat * 3)).block, (ad.add (i.toNat * 3)).off + 1, none⟩ = some (.int .i64 (rd_T48 l0 i).f1) ∧ w'.cell? ⟨(ad.add (i.toNat * 3)).block, (ad.add (i.toNat * 3)).off + 2, none⟩ = some (.int .i64 (rd_T48 l0 i).f2) ∧ w'.cell? (bd.add (i.toNat * 3)) = some (.string (rd_T48 l1 i).f0) ∧ w'.cell? ⟨(bd.add (i.toNat * 3)).block, (bd.add (i.toNat * 3)).off + 1, none⟩ = some (.int .i64 (rd_T48 l1 i).f1) ∧ w'.cell? ⟨(bd.add (i.toNat * 3)).block, (bd.add (i.toNat * 3)).off + 2, none⟩ = some (.int .i64 (rd_T48 l1 i).f2)) ((first | go_keep | exact ⟨y00 hb (by assumption), y00 hb (by assumption), y00 hb (by assumption), y00 hb (by assumption), y00 hb (by assumption), y00 hb (by assumption)⟩))
          ((go_at_call 132; refine (laws_eqAccount.calls (rd_T48 l0 i).f0 (rd_T48 l0 i).f1 (rd_T48 l0 i).f2 (rd_T48 l1 i).f0 (rd_T48 l1 i).f1 (rd_T48 l1 i).f2 _ ).mono ?_; rintro e w2 ⟨rfl, hb⟩))
        have HB2 := Aside0.mk (y10 (w := w) hb (by repeat (first | exact HB.out | refine y04 ?_)))
        clear hb
        by_cases he : rd_T48 l0 i = rd_T48 l1 i
        · rw [← same_true (show ((⟨(rd_T48 l0 i).f0, (rd_T48 l0 i).f1, (rd_T48 l0 i).f2⟩ : S48) : S48) = (⟨(rd_T48 l1 i).f0, (rd_T48 l1 i).f1, (rd_T48 l1 i).f2⟩ : S48) from he)]
          go_wp2
          go_roundw
          case rel => exact ⟨i + 1, by omega, by omega, rfl, HB2, ⟨take_step hi0 hlt hlt2 HT.out he⟩⟩
          case measure => simp [intOf]; omega
        · rw [← same_false (show ((⟨(rd_T48 l0 i).f0, (rd_T48 l0 i).f1, (rd_T48 l0 i).f2⟩ : S48) : S48) = (⟨(rd_T48 l1 i).f0, (rd_T48 l1 i).f1, (rd_T48 l1 i).f2⟩ : S48) → False from he)]
          go_wp2
          go_ret
          exact ⟨ret_bool (same_false (fun h => he (by rw [h]))), HB2.out⟩
      · go_wp2
        go_ret
        exact ⟨ret_bool (same_true (take_end HL.out hlt HT.out)), HB.out⟩
  · go_enter Tryz.func111, Tryz.ntmps111
    go_wp2
    go_ret
    exact ⟨ret_bool (same_false (fun h => hlen (by rw [h]))), Below.refl _ _⟩
set_option maxHeartbeats 4000000 in
set_option maxRecDepth 100000 in
theorem laws_eqLineS.calls (A0 : Option Addr) (c0 : Nat) (l0 : List (S88)) (A1 : Option Addr) (c1 : Nat) (l1 : List (S88)) (w : World) (hr0 : Kd.C k88 w A0 l0.length l0) (hr1 : Kd.C k88 w A1 l1.length l1) :
    Calls Tryz.prog 73 #[.slice A0 l0.length c0, .slice A1 l1.length c1] w fun e w' => e = .returned (.bool (same l0 l1)) ∧ Below w.heap.size w w' := by
  have hl := hr0.2.1
  have hm := hr1.2.1
  have H0 := Aside0.mk hr0
  have H1 := Aside0.mk hr1
  clear hr0 hr1
  by_cases hlen : l0.length = l1.length
  · have hlb : ((l0.length : Int) != (l1.length : Int)) = false := by rw [hlen]; simp
    have HL := Aside0.mk hlen
    clear hlen
    go_enter Tryz.func73, Tryz.ntmps73
    go_wp2
    go_loopw [5] (fun v wr => ∃ i : Int, 0 ≤ i ∧ i ≤ (l0.length : Int) ∧ v = .int .i64 i ∧ Aside0 (Below w.heap.size w wr) ∧ Aside0 (l0.take i.toNat = l1.take i.toNat)) (fun v _ => (l0.length - (intOf v).toNat))
    case atStart => exact ⟨0, by omega, by omega, rfl, ⟨Below.refl _ _⟩, ⟨rfl⟩⟩
    case round =>
      obtain ⟨i, hi0, hi1, rfl, HB, HT⟩ := hrel
      by_cases hlt : i < (l0.length : Int)
      · have hlt2 : i < (l1.length : Int) := by have := HL.out; omega
        obtain ⟨ad, ead, adx0, adx1, adx2, adx3, adx4⟩ := at_T88 (Kd.C_below H0.out HB.out) i hi0 hlt
        obtain ⟨bd, ebd, bdx0, bdx1, bdx2, bdx3, bdx4⟩ := at_T88 (Kd.C_below H1.out HB.out) i hi0 hlt2
        cases ead
        cases ebd
        go_wp2
        go_region_held3 (fun w' => w'.cell? (ad.add (i.toNat * 5)) = some (.int .i64 (rd_T88 l0 i).f0) ∧ w'.cell? ⟨(ad.add (i.toNat * 5)).block, (ad.add (i.toNat * 5)).off + 1, none⟩ = some (.int .i64 (rd_T88 l0 i).f1) ∧ w'.cell? ⟨(ad.add (i.toNat * 5)).block, (ad.add (i.toNat * 5)).off + 2, none⟩ = some (.int .i64 (rd_T88 l0 i).f2) ∧ w'.cell? ⟨(ad.add (i.toNat * 5)).block, (ad.add (i.toNat * 5)).off + 3, none⟩ = some (.int .i64 (rd_T88 l0 i).f3) ∧ w'.cell? ⟨(ad.add (i.toNat * 5)).block, (ad.add (i.toNat * 5)).off + 4, none⟩ = some (.int .i64 (rd_T88 l0 i).f4) ∧ w'.cell? (bd.add (i.toNat * 5)) = some (.int .i64 (rd_T88 l1 i).f0) ∧ w'.cell? ⟨(bd.add (i.toNat * 5)).block, (bd.add (i.toNat * 5)).off + 1, none⟩ = some (.int .i64 (rd_T88 l1 i).f1) ∧ w'.cell? ⟨(bd.add (i.toNat * 5)).block, (bd.add (i.toNat * 5)).off + 2, none⟩ = some (.int .i64 (rd_T88 l1 i).f2) ∧ w'.cell? ⟨(bd.add (i.toNat * 5)).block, (bd.add (i.toNat * 5)).off + 3, none⟩ = some (.int .i64 (rd_T88 l1 i).f3) ∧ w'.cell? ⟨(bd.add (i.toNat * 5)).block, (bd.add (i.toNat * 5)).off + 4, none⟩ = some (.int .i64 (rd_T88 l1 i).f4)) ((first | go_keep | exact ⟨y00 hb (by assumption), y00 hb (by assumption), y00 hb (by assumption), y00 hb (by assumption), y00 hb (by assumption), y00 hb (by assumption), y00 hb (by assumption), y00 hb (by assumption), y00 hb (by assumption), y00 hb (by assumption)⟩))
          ((go_at_call 114; refine (laws_eqLine.calls (rd_T88 l0 i).f0 (rd_T88 l0 i).f1 (rd_T88 l0 i).f2 (rd_T88 l0 i).f3 (rd_T88 l0 i).f4 (rd_T88 l1 i).f0 (rd_T88 l1 i).f1 (rd_T88 l1 i).f2 (rd_T88 l1 i).f3 (rd_T88 l1 i).f4 _ ).mono ?_; rintro e w2 ⟨rfl, hb⟩))
        have HB2 := Aside0.mk (y10 (w := w) hb (by repeat (first | exact HB.out | refine y04 ?_)))
        clear hb
        by_cases he : rd_T88 l0 i = rd_T88 l1 i
        · rw [← same_true (show ((⟨(rd_T88 l0 i).f0, (rd_T88 l0 i).f1, (rd_T88 l0 i).f2, (rd_T88 l0 i).f3, (rd_T88 l0 i).f4⟩ : S88) : S88) = (⟨(rd_T88 l1 i).f0, (rd_T88 l1 i).f1, (rd_T88 l1 i).f2, (rd_T88 l1 i).f3, (rd_T88 l1 i).f4⟩ : S88) from he)]
          go_wp2
          go_roundw
          case rel => exact ⟨i + 1, by omega, by omega, rfl, HB2, ⟨take_step hi0 hlt hlt2 HT.out he⟩⟩
          case measure => simp [intOf]; omega
        · rw [← same_false (show ((⟨(rd_T88 l0 i).f0, (rd_T88 l0 i).f1, (rd_T88 l0 i).f2, (rd_T88 l0 i).f3, (rd_T88 l0 i).f4⟩ : S88) : S88) = (⟨(rd_T88 l1 i).f0, (rd_T88 l1 i).f1, (rd_T88 l1 i).f2, (rd_T88 l1 i).f3, (rd_T88 l1 i).f4⟩ : S88) → False from he)]
          go_wp2
          go_ret
          exact ⟨ret_bool (same_false (fun h => he (by rw [h]))), HB2.out⟩
      · go_wp2
        go_ret
        exact ⟨ret_bool (same_true (take_end HL.out hlt HT.out)), HB.out⟩
  · go_enter Tryz.func73, Tryz.ntmps73
    go_wp2
    go_ret
    exact ⟨ret_bool (same_false (fun h => hlen (by rw [h]))), Below.refl _ _⟩
set_option maxHeartbeats 4000000 in
set_option maxRecDepth 100000 in
theorem laws_eqPeriodS.calls (A0 : Option Addr) (c0 : Nat) (l0 : List (S84)) (A1 : Option Addr) (c1 : Nat) (l1 : List (S84)) (w : World) (hr0 : Kd.C k84 w A0 l0.length l0) (hr1 : Kd.C k84 w A1 l1.length l1) :
    Calls Tryz.prog 72 #[.slice A0 l0.length c0, .slice A1 l1.length c1] w fun e w' => e = .returned (.bool (same l0 l1)) ∧ Below w.heap.size w w' := by
  have hl := hr0.2.1
  have hm := hr1.2.1
  have H0 := Aside0.mk hr0
  have H1 := Aside0.mk hr1
  clear hr0 hr1
  by_cases hlen : l0.length = l1.length
  · have hlb : ((l0.length : Int) != (l1.length : Int)) = false := by rw [hlen]; simp
    have HL := Aside0.mk hlen
    clear hlen
    go_enter Tryz.func72, Tryz.ntmps72
    go_wp2
    go_loopw [5] (fun v wr => ∃ i : Int, 0 ≤ i ∧ i ≤ (l0.length : Int) ∧ v = .int .i64 i ∧ Aside0 (Below w.heap.size w wr) ∧ Aside0 (l0.take i.toNat = l1.take i.toNat)) (fun v _ => (l0.length - (intOf v).toNat))
    case atStart => exact ⟨0, by omega, by omega, rfl, ⟨Below.refl _ _⟩, ⟨rfl⟩⟩
    case round =>
      obtain ⟨i, hi0, hi1, rfl, HB, HT⟩ := hrel
      by_cases hlt : i < (l0.length : Int)
      · have hlt2 : i < (l1.length : Int) := by have := HL.out; omega
        obtain ⟨ad, ead, adx0, adx1⟩ := at_T84 (Kd.C_below H0.out HB.out) i hi0 hlt
        obtain ⟨bd, ebd, bdx0, bdx1⟩ := at_T84 (Kd.C_below H1.out HB.out) i hi0 hlt2
        cases ead
        cases ebd
        go_wp2
        go_region_held3 (fun w' => w'.cell? (ad.add (i.toNat * 2)) = some (.int .i64 (rd_T84 l0 i).f0) ∧ w'.cell? ⟨(ad.add (i.toNat * 2)).block, (ad.add (i.toNat * 2)).off + 1, none⟩ = some (.int .i64 (rd_T84 l0 i).f1) ∧ w'.cell? (bd.add (i.toNat * 2)) = some (.int .i64 (rd_T84 l1 i).f0) ∧ w'.cell? ⟨(bd.add (i.toNat * 2)).block, (bd.add (i.toNat * 2)).off + 1, none⟩ = some (.int .i64 (rd_T84 l1 i).f1)) ((first | go_keep | exact ⟨y00 hb (by assumption), y00 hb (by assumption), y00 hb (by assumption), y00 hb (by assumption)⟩))
          ((go_at_call 113; refine (laws_eqPeriod.calls (rd_T84 l0 i).f0 (rd_T84 l0 i).f1 (rd_T84 l1 i).f0 (rd_T84 l1 i).f1 _ ).mono ?_; rintro e w2 ⟨rfl, hb⟩))
        have HB2 := Aside0.mk (y10 (w := w) hb (by repeat (first | exact HB.out | refine y04 ?_)))
        clear hb
        by_cases he : rd_T84 l0 i = rd_T84 l1 i
        · rw [← same_true (show ((⟨(rd_T84 l0 i).f0, (rd_T84 l0 i).f1⟩ : S84) : S84) = (⟨(rd_T84 l1 i).f0, (rd_T84 l1 i).f1⟩ : S84) from he)]
          go_wp2
          go_roundw
          case rel => exact ⟨i + 1, by omega, by omega, rfl, HB2, ⟨take_step hi0 hlt hlt2 HT.out he⟩⟩
          case measure => simp [intOf]; omega
        · rw [← same_false (show ((⟨(rd_T84 l0 i).f0, (rd_T84 l0 i).f1⟩ : S84) : S84) = (⟨(rd_T84 l1 i).f0, (rd_T84 l1 i).f1⟩ : S84) → False from he)]
          go_wp2
          go_ret
          exact ⟨ret_bool (same_false (fun h => he (by rw [h]))), HB2.out⟩
      · go_wp2
        go_ret
        exact ⟨ret_bool (same_true (take_end HL.out hlt HT.out)), HB.out⟩
  · go_enter Tryz.func72, Tryz.ntmps72
    go_wp2
    go_ret
    exact ⟨ret_bool (same_false (fun h => hlen (by rw [h]))), Below.refl _ _⟩
end Go.Proofs.YtjkjjfbcakbmnaaGreatDoor.Q
