/- Parts of the proof: what functions of the program and of the reference answer.
   No condition. -/
import Derived.Test.YtjkjjfbcakbmnaaDoorZBooksShut1
import Derived.Test.YtjkjjfbcakbmnaaDoorZBooksShut2
import Derived.Test.YtjkjjfbcakbmnaaDoorZBooksShut3
namespace Go.Proofs.YtjkjjfbcakbmnaaDoor.Q
open Go.RowKit Go.Proofs.YtjkjjfbcakbmnaaDoorW.PrintWords Go.Proofs.YtjkjjfbcakbmnaaDoorW.PrintLast Go.Proofs.YtjkjjfbcakbmnaaDoorW.PrintMore
attribute [local go_sem] max2_int min2_int max_two min_two max_three min_three max_four min_four   -- for this text's walks alone
set_option linter.unusedVariables false
set_option linter.unusedSimpArgs false
mutual
noncomputable def spec_HeadOf.l0 : Nat → List (S35) → Int → Int → Option (Int)
  | 0, _, _, _ => none
  | k + 1, x0, x3, x4 => if x4 < (x0.length : Int) then (if 0 ≤ x4 then (if (((rd_T35 x0 x4).f3).length : Int) > 60 then (spec_HeadOf.j1 k x0 x3 x4 true) else (spec_HeadOf.j1 k x0 x3 x4 (decide ((((rd_T35 x0 x4).f2).size : Int) > 40)))) else (none)) else (some x3)
noncomputable def spec_HeadOf.j1 : Nat → List (S35) → Int → Int → Bool → Option (Int)
  | 0, _, _, _, _ => none
  | k + 1, x0, x3, x4, x31 => if x31 = true then (some 0) else (if 0 ≤ x4 then (if x4 < (x0.length : Int) then ((spec_l5Numbers.f k ((rd_T35 x0 x4).f0) ((rd_T35 x0 x4).f1) ((rd_T35 x0 x4).f2) ((rd_T35 x0 x4).f3)).bind fun t47004 => (spec_HeadOf.l1 k x0 x3 x4 t47004 0)) else (none)) else (none))
noncomputable def spec_HeadOf.l1 : Nat → List (S35) → Int → Int → List Int → Int → Option (Int)
  | 0, _, _, _, _, _ => none
  | k + 1, x0, x3, x4, x5, x6 => if x6 < (x5.length : Int) then (if 0 ≤ x6 then ((spec_l1In.f (rd x5 x6) (-549755813888) 549755813887).bind fun t47008 => (if t47008 = true then (spec_HeadOf.l1 k x0 (Int.tmod (wrap64 ((wrap64 ((wrap64 (x3 * 1000003)) + (rd x5 x6))) + 549755813888)) 1099511627791) x4 x5 (wrap64 (x6 + 1))) else (some 0))) else (none)) else (spec_HeadOf.l0 k x0 x3 (wrap64 (x4 + 1)))
end
noncomputable def spec_HeadOf.f (k : Nat) (l0 : List (S35)) : Option (Int) := if (l0.length : Int) > 1000 then (some 0) else (spec_HeadOf.l0 k l0 1 0)
set_option maxHeartbeats 8000000 in
set_option maxRecDepth 100000 in
theorem spec_HeadOf.calls (k : Nat) (A0 : Option Addr) (c0 : Nat) (l0 : List (S35)) (r : Int) (w : World) (hr0 : Kd.C k35 w A0 l0.length l0) (hc0 : l0.length ≤ c0) (h : spec_HeadOf.f k l0 = some r) :
    Calls Tryd.prog 46 #[.slice A0 l0.length c0] w fun e w' => e = .returned (.int .i64 r) ∧ Below w.heap.size w w' := by
  have hu35 := Tryd.underlying35
  have HR0 := Aside0.mk hr0
  have HC0 := Aside0.mk hc0
  clear hr0 hc0
  have HB := Aside0.mk (Below.refl w.heap.size w)
  have H : (if (l0.length : Int) > 1000 then (some 0) else (spec_HeadOf.l0 k l0 1 0)) = some r := h
  clear h
  by_cases c2 : (l0.length : Int) > 1000
  · rw [if_pos c2] at H
    have c2b0 : decide (1000 < (l0.length : Int)) = true := decide_eq_true c2
    have c2b1 : decide (1000 < l0.length) = true := decide_eq_true (by omega)
    clear c2
    obtain rfl := Option.some.inj H
    go_enter Tryd.func46, Tryd.ntmps46
    go_wp2
    go_ret
    exact ⟨by first | rfl | (simp [errW_none, errW_some] <;> rfl) | (simp [*, errW_none, errW_some] <;> rfl), by repeat (first | (with_reducible first | exact HB.out | apply below_alloc | apply pw_below_drewN | apply below_drew1) | exact HB.out)⟩
  · rw [if_neg c2] at H
    have c2b0 : decide (1000 < (l0.length : Int)) = false := decide_eq_false c2
    have c2b1 : decide (1000 < l0.length) = false := decide_eq_false (by omega)
    clear c2
    have H' := Aside0.mk H
    clear H
    go_enter Tryd.func46, Tryd.ntmps46
    go_wp2
    go_loopg [3, 4] k (fun kq v3 v4 w' => ∃ (x3_1 : Int) (x4_1 : Int), v3 = .int .i64 x3_1 ∧ v4 = .int .i64 x4_1 ∧ Aside0 (spec_HeadOf.l0 kq l0 x3_1 x4_1 = some r) ∧ Aside0 (kq ≤ k) ∧ Aside0 (Below w.heap.size w w'))
    case atStart => exact ⟨(1), (0), (by first | rfl | (simp; done) | (simp [*]; done)), (by first | rfl | (simp; done) | (simp [*]; done)), H', ⟨Nat.le_refl _⟩, ⟨by repeat (first | (with_reducible first | exact HB.out | apply below_alloc | apply pw_below_drewN | apply below_drew1) | exact HB.out)⟩⟩
    case round =>
      clear H'
      try clear c2
      try clear c2b0
      try clear c2b1
      try clear p2
      obtain ⟨x3_1, x4_1, rfl, rfl, HA, HK1, HB⟩ := hrel
      cases gk with
      | zero => exact absurd HA.out (by simp [spec_HeadOf.l0])
      | succ k1 =>
        have H := HA.out
        clear HA
        simp only [spec_HeadOf.l0] at H
        by_cases c3 : x4_1 < (l0.length : Int)
        · rw [if_pos c3] at H
          have c3b0 : decide (x4_1 < (l0.length : Int)) = true := decide_eq_true c3
          clear c3
          have HC4 := Aside0.mk H
          clear H
          go_upto_region 7 with (fail)
          go_cut [31] (fun v31 wc => ∃ (kq : Nat) (x31_3 : Bool), v31 = .bool x31_3 ∧ Aside0 (spec_HeadOf.j1 kq l0 x3_1 x4_1 x31_3 = some r) ∧ Aside0 (kq ≤ k1) ∧ Aside0 (Below w.heap.size w wc))
          case first =>
            have H := HC4.out
            clear HC4
            by_cases c5 : 0 ≤ x4_1
            · rw [if_pos c5] at H
              have c5b0 : decide (0 ≤ x4_1) = true := decide_eq_true c5
              clear c5
              (first | rw [c5b0] | (simp only [i64_w, i32_w]; rw [c5b0]) | skip)
              by_cases c6 : (((rd_T35 l0 x4_1).f3).length : Int) > 60
              · rw [if_pos c6] at H
                have c6b0 : decide (60 < (((rd_T35 l0 x4_1).f3).length : Int)) = true := decide_eq_true c6
                have c6b1 : decide (60 < ((rd_T35 l0 x4_1).f3).length) = true := decide_eq_true (by omega)
                clear c6
                have H' := Aside0.mk H
                clear H
                have p47001 : 0 ≤ (x4_1 : Int) := of_decide_eq_true (by first | (with_reducible assumption) | assumption)
                have q47001 : x4_1 < (l0.length : Int) := of_decide_eq_true (by first | (with_reducible assumption) | assumption)
                obtain ⟨ad47001, A47001_3, c47001_3, e47001, hx47001_0, hx47001_1, hx47001_2, hx47001_3, hl47001_3, hi47001_3⟩ := at_T35 HR0.out x4_1 p47001 q47001
                cases e47001
                replace hx47001_0 := (HB.out.cell (World.block_lt_of_cell? w _ hx47001_0)).trans hx47001_0
                replace hx47001_1 := (HB.out.cell (World.block_lt_of_cell? w _ hx47001_1)).trans hx47001_1
                replace hx47001_2 := (HB.out.cell (World.block_lt_of_cell? w _ hx47001_2)).trans hx47001_2
                replace hx47001_3 := (HB.out.cell (World.block_lt_of_cell? w _ hx47001_3)).trans hx47001_3
                have HR47001_3 := Aside0.mk hi47001_3
                have HC47001_3 := Aside0.mk hl47001_3
                clear hi47001_3 hl47001_3
                replace p47001 := eq_true p47001
                replace q47001 := eq_true q47001
                go_wp2
                go_meet
                case rel => exact ⟨_, (true), (by first | rfl | (simp; done) | (simp [*]; done)), H', ⟨by have := HK1.out; first | omega | exact Nat.le_refl _⟩, ⟨by repeat (first | (with_reducible first | exact HB.out | apply below_alloc | apply pw_below_drewN | apply below_drew1) | exact HB.out)⟩⟩
              · rw [if_neg c6] at H
                have c6b0 : decide (60 < (((rd_T35 l0 x4_1).f3).length : Int)) = false := decide_eq_false c6
                have c6b1 : decide (60 < ((rd_T35 l0 x4_1).f3).length) = false := decide_eq_false (by omega)
                clear c6
                have H' := Aside0.mk H
                clear H
                have p47001 : 0 ≤ (x4_1 : Int) := of_decide_eq_true (by first | (with_reducible assumption) | assumption)
                have q47001 : x4_1 < (l0.length : Int) := of_decide_eq_true (by first | (with_reducible assumption) | assumption)
                obtain ⟨ad47001, A47001_3, c47001_3, e47001, hx47001_0, hx47001_1, hx47001_2, hx47001_3, hl47001_3, hi47001_3⟩ := at_T35 HR0.out x4_1 p47001 q47001
                cases e47001
                replace hx47001_0 := (HB.out.cell (World.block_lt_of_cell? w _ hx47001_0)).trans hx47001_0
                replace hx47001_1 := (HB.out.cell (World.block_lt_of_cell? w _ hx47001_1)).trans hx47001_1
                replace hx47001_2 := (HB.out.cell (World.block_lt_of_cell? w _ hx47001_2)).trans hx47001_2
                replace hx47001_3 := (HB.out.cell (World.block_lt_of_cell? w _ hx47001_3)).trans hx47001_3
                have HR47001_3 := Aside0.mk hi47001_3
                have HC47001_3 := Aside0.mk hl47001_3
                clear hi47001_3 hl47001_3
                replace p47001 := eq_true p47001
                replace q47001 := eq_true q47001
                have p47002 : 0 ≤ (x4_1 : Int) := of_decide_eq_true (by first | (with_reducible assumption) | assumption)
                have q47002 : x4_1 < (l0.length : Int) := of_decide_eq_true (by first | (with_reducible assumption) | assumption)
                obtain ⟨ad47002, A47002_3, c47002_3, e47002, hx47002_0, hx47002_1, hx47002_2, hx47002_3, hl47002_3, hi47002_3⟩ := at_T35 HR0.out x4_1 p47002 q47002
                obtain rfl : ad47001 = ad47002 := (by injection e47002)
                replace hx47002_0 := (HB.out.cell (World.block_lt_of_cell? w _ hx47002_0)).trans hx47002_0
                replace hx47002_1 := (HB.out.cell (World.block_lt_of_cell? w _ hx47002_1)).trans hx47002_1
                replace hx47002_2 := (HB.out.cell (World.block_lt_of_cell? w _ hx47002_2)).trans hx47002_2
                replace hx47002_3 := (HB.out.cell (World.block_lt_of_cell? w _ hx47002_3)).trans hx47002_3
                have HR47002_3 := Aside0.mk hi47002_3
                have HC47002_3 := Aside0.mk hl47002_3
                clear hi47002_3 hl47002_3
                replace p47002 := eq_true p47002
                replace q47002 := eq_true q47002
                have ea_ := Option.some.inj (hx47001_3.symm.trans hx47002_3)
                injection ea_ with ea_ en_ ec_
                subst ea_
                subst ec_
                clear en_
                go_wp2
                go_meet
                case rel => exact ⟨_, (decide ((((rd_T35 l0 x4_1).f2).size : Int) > 40)), (by first | rfl | (simp; done) | (simp [*]; done)), H', ⟨by have := HK1.out; first | omega | exact Nat.le_refl _⟩, ⟨by repeat (first | (with_reducible first | exact HB.out | apply below_alloc | apply pw_below_drewN | apply below_drew1) | exact HB.out)⟩⟩
            · rw [if_neg c5] at H
              exact absurd H (by simp)
          case rest =>
            clear HC4
            try clear c2
            try clear c2b0
            try clear c2b1
            try clear p2
            try clear c3
            try clear c3b0
            try clear c4
            try clear p4
            try clear q4
            try clear hx4
            try clear c5
            try clear c5b0
            try clear c6
            try clear c6b0
            try clear c6b1
            try clear hx47001_0
            try clear hx47001_1
            try clear hx47001_2
            try clear hx47001_3
            try clear hx47002_0
            try clear hx47002_1
            try clear hx47002_2
            try clear hx47002_3
            try clear p2
            try clear p47001
            try clear p47002
            try clear q47001
            try clear q47002
            obtain ⟨kq, x31_3, rfl, HA, HJ3, HB⟩ := hcut
            cases kq with
            | zero => exact absurd HA.out (by simp [spec_HeadOf.j1])
            | succ kj3 =>
              have H := HA.out
              clear HA
              simp only [spec_HeadOf.j1] at H
              by_cases c7 : x31_3 = true
              · subst c7
                have H1 : (some 0) = some r := by rw [if_pos rfl] at H; exact H
                clear H
                have H := H1
                clear H1
                obtain rfl := Option.some.inj H
                go_wp2
                go_ret
                exact ⟨by first | rfl | (simp [errW_none, errW_some] <;> rfl) | (simp [*, errW_none, errW_some] <;> rfl), by repeat (first | (with_reducible first | exact HB.out | apply below_alloc | apply pw_below_drewN | apply below_drew1) | exact HB.out)⟩
              · replace c7 := Bool.eq_false_iff.mpr c7
                subst c7
                have H1 : (if 0 ≤ x4_1 then (if x4_1 < (l0.length : Int) then ((spec_l5Numbers.f kj3 ((rd_T35 l0 x4_1).f0) ((rd_T35 l0 x4_1).f1) ((rd_T35 l0 x4_1).f2) ((rd_T35 l0 x4_1).f3)).bind fun t47004 => (spec_HeadOf.l1 kj3 l0 x3_1 x4_1 t47004 0)) else (none)) else (none)) = some r := by rw [if_neg (show ¬ (false = true) by decide)] at H; exact H
                clear H
                have H := H1
                clear H1
                by_cases c8 : 0 ≤ x4_1
                · rw [if_pos c8] at H
                  have c8b0 : decide (0 ≤ x4_1) = true := decide_eq_true c8
                  clear c8
                  by_cases c9 : x4_1 < (l0.length : Int)
                  · rw [if_pos c9] at H
                    have c9b0 : decide (x4_1 < (l0.length : Int)) = true := decide_eq_true c9
                    clear c9
                    replace H := Option.bind_eq_some_iff.mp H
                    obtain ⟨t47004, A100, H⟩ := H
                    replace H : (spec_HeadOf.l1 kj3 l0 x3_1 x4_1 t47004 0) = some r := H
                    have A10 := Aside0.mk A100
                    clear A100
                    have H' := Aside0.mk H
                    clear H
                    have p47003 : 0 ≤ (x4_1 : Int) := of_decide_eq_true (by first | (with_reducible assumption) | assumption)
                    have q47003 : x4_1 < (l0.length : Int) := of_decide_eq_true (by first | (with_reducible assumption) | assumption)
                    obtain ⟨ad47003, A47003_3, c47003_3, e47003, hx47003_0, hx47003_1, hx47003_2, hx47003_3, hl47003_3, hi47003_3⟩ := at_T35 HR0.out x4_1 p47003 q47003
                    cases e47003
                    replace hx47003_0 := (HB.out.cell (World.block_lt_of_cell? w _ hx47003_0)).trans hx47003_0
                    replace hx47003_1 := (HB.out.cell (World.block_lt_of_cell? w _ hx47003_1)).trans hx47003_1
                    replace hx47003_2 := (HB.out.cell (World.block_lt_of_cell? w _ hx47003_2)).trans hx47003_2
                    replace hx47003_3 := (HB.out.cell (World.block_lt_of_cell? w _ hx47003_3)).trans hx47003_3
                    have HR47003_3 := Aside0.mk hi47003_3
                    have HC47003_3 := Aside0.mk hl47003_3
                    clear hi47003_3 hl47003_3
                    replace p47003 := eq_true p47003
                    replace q47003 := eq_true q47003
                    go_wp2_with (first | ((with_reducible refine gate_callee (f := 60) rfl ?_); refine goesL_ (some 36) rfl rfl Tryd.func60 (by kernel_rfl) rfl #[.agg #[.int .i64 ((rd_T35 l0 x4_1).f0), .int .i64 ((rd_T35 l0 x4_1).f1), .string ((rd_T35 l0 x4_1).f2), .slice A47003_3 ((rd_T35 l0 x4_1).f3).length c47003_3]] rfl (by (try simp only [List.map_toArray, List.map_cons, List.map_nil]); first | done | rfl | (simp only [List.length_drop, List.length_take]; rfl)) ?_; (with_reducible refine (spec_l5Numbers.calls kj3 ((rd_T35 l0 x4_1).f0) ((rd_T35 l0 x4_1).f1) ((rd_T35 l0 x4_1).f2) _ _ ((rd_T35 l0 x4_1).f3) t47004 _ ?side1 ?side2 A10.out).mono ?_); (case side1 => repeat (first | exact (Kd.C_below HR47003_3.out HB.out) | (with_reducible refine Kd.C_alloc ?_ _) | (with_reducible refine Kd.C_drewN ?_ _) | (with_reducible refine Kd.C_drew ?_))); (case side2 => exact HC47003_3.out); rintro e w11 ⟨v47005, rfl, ho0, hb⟩; refine ⟨_, rfl, ?_⟩; have n0_ := Aside0.mk (Kd.R_lower ho0 (below_size (by repeat (first | (with_reducible first | exact HB.out | apply below_alloc | apply pw_below_drewN | apply below_drew1) | exact HB.out)))); have n1_ := Aside0.mk (below_step (by repeat (first | (with_reducible first | exact HB.out | apply below_alloc | apply pw_below_drewN | apply below_drew1) | exact HB.out)) hb); clear HB; have HO47006 := n0_; have HB := n1_; clear n0_ n1_; (try clear hb); (try clear hb2); (try clear hk); (try clear hi); (try clear ho0)))
                    go_loopg [3, 6] kj3 (fun kq v3 v6 w' => ∃ (x3_3 : Int) (x6_3 : Int), v3 = .int .i64 x3_3 ∧ v6 = .int .i64 x6_3 ∧ Aside0 (spec_HeadOf.l1 kq l0 x3_3 x4_1 t47004 x6_3 = some r) ∧ Aside0 (kq ≤ kj3) ∧ Aside0 (Kd.R (Kd.int .i64) 3 w' w.heap.size (fun _ => True) v47005 t47004) ∧ Aside0 (Below w.heap.size w w'))
                    case atStart => exact ⟨(x3_1), (0), (by first | rfl | (simp; done) | (simp [*]; done)), (by first | rfl | (simp; done) | (simp [*]; done)), H', ⟨Nat.le_refl _⟩, ⟨by (with_reducible repeat (first | apply Kd.R_alloc | apply Kd.R_drewN | apply Kd.R_drew)); exact HO47006.out⟩, ⟨by repeat (first | (with_reducible first | exact HB.out | apply below_alloc | apply pw_below_drewN | apply below_drew1) | exact HB.out)⟩⟩
                    case round =>
                      clear H'
                      try clear c2
                      try clear c2b0
                      try clear c2b1
                      try clear p2
                      try clear c3
                      try clear c3b0
                      try clear c4
                      try clear p4
                      try clear q4
                      try clear hx4
                      try clear c5
                      try clear c5b0
                      try clear c6
                      try clear c6b0
                      try clear c6b1
                      try clear c7
                      try clear c8
                      try clear c8b0
                      try clear c9
                      try clear c9b0
                      try clear hx47001_0
                      try clear hx47001_1
                      try clear hx47001_2
                      try clear hx47001_3
                      try clear hx47002_0
                      try clear hx47002_1
                      try clear hx47002_2
                      try clear hx47002_3
                      try clear hx47003_0
                      try clear hx47003_1
                      try clear hx47003_2
                      try clear hx47003_3
                      try clear p2
                      try clear p4
                      try clear p47001
                      try clear p47002
                      try clear p47003
                      try clear q4
                      try clear q47001
                      try clear q47002
                      try clear q47003
                      obtain ⟨x3_3, x6_3, rfl, rfl, HA, HK3, HO_5, HB⟩ := hrel
                      cases gk with
                      | zero => exact absurd HA.out (by simp [spec_HeadOf.l1])
                      | succ k3 =>
                        have H := HA.out
                        clear HA
                        simp only [spec_HeadOf.l1] at H
                        by_cases c12 : x6_3 < (t47004.length : Int)
                        · rw [if_pos c12] at H
                          have c12b0 : decide (x6_3 < (t47004.length : Int)) = true := decide_eq_true c12
                          clear c12
                          by_cases c13 : 0 ≤ x6_3
                          · rw [if_pos c13] at H
                            have c13b0 : decide (0 ≤ x6_3) = true := decide_eq_true c13
                            clear c13
                            replace H := Option.bind_eq_some_iff.mp H
                            obtain ⟨t47008, A140, H⟩ := H
                            replace H : (if t47008 = true then (spec_HeadOf.l1 k3 l0 (Int.tmod (wrap64 ((wrap64 ((wrap64 (x3_3 * 1000003)) + (rd t47004 x6_3))) + 549755813888)) 1099511627791) x4_1 t47004 (wrap64 (x6_3 + 1))) else (some 0)) = some r := H
                            have A14 := Aside0.mk A140
                            clear A140
                            by_cases c15 : t47008 = true
                            · subst c15
                              have H1 : (spec_HeadOf.l1 k3 l0 (Int.tmod (wrap64 ((wrap64 ((wrap64 (x3_3 * 1000003)) + (rd t47004 x6_3))) + 549755813888)) 1099511627791) x4_1 t47004 (wrap64 (x6_3 + 1))) = some r := by rw [if_pos rfl] at H; exact H
                              clear H
                              have H := H1
                              clear H1
                              have H' := Aside0.mk H
                              clear H
                              obtain ⟨Ao16, co16, eo16⟩ := Kd.R_slice HO_5.out
                              subst eo16
                              have p47007 : 0 ≤ (x6_3 : Int) := of_decide_eq_true (by first | (with_reducible assumption) | assumption)
                              have q47007 : x6_3 < (t47004.length : Int) := of_decide_eq_true (by first | (with_reducible assumption) | assumption)
                              obtain ⟨ad47007, e47007, hx47007_0⟩ := Kd.at_int (Kd.R_reads' HO_5.out).2.2 x6_3 p47007 q47007
                              cases e47007
                              replace p47007 := eq_true p47007
                              replace q47007 := eq_true q47007
                              go_wp2_with (first | ((with_reducible refine gate_callee (f := 26) rfl ?_); refine goesL_ (some 47) rfl rfl Tryd.func26 (by kernel_rfl) rfl #[.int .i64 (rd t47004 x6_3), .int .i64 (-549755813888), .int .i64 549755813887] rfl (by (try simp only [List.map_toArray, List.map_cons, List.map_nil]); first | done | rfl | (simp only [List.length_drop, List.length_take]; rfl)) ?_; (with_reducible refine (spec_l1In.calls (rd t47004 x6_3) (-549755813888) 549755813887 true _ A14.out).mono ?_); rintro e w' ⟨rfl, ⟨nd, rfl⟩⟩; refine ⟨_, rfl, ?_⟩; have p47009 : 0 ≤ (x6_3 : Int) := of_decide_eq_true (by first | (with_reducible assumption) | assumption); have q47009 : x6_3 < (t47004.length : Int) := of_decide_eq_true (by first | (with_reducible assumption) | assumption); obtain ⟨ad47009, e47009, hx47009_0⟩ := Kd.at_int (Kd.R_reads' HO_5.out).2.2 x6_3 p47009 q47009; obtain rfl : ad47007 = ad47009 := (by injection e47009); replace p47009 := eq_true p47009; replace q47009 := eq_true q47009))
                              go_roundg k3
                              case measure => have := HK1.out; have := HJ3.out; have := HK3.out; omega
                              case rel => exact ⟨(Int.tmod (wrap64 ((wrap64 ((wrap64 (x3_3 * 1000003)) + (rd t47004 x6_3))) + 549755813888)) 1099511627791), (wrap64 (x6_3 + 1)), (by first | rfl | (simp; done) | (simp [*]; done)), (by first | rfl | (simp; done) | (simp [*]; done)), H', ⟨by have := HK1.out; have := HJ3.out; have := HK3.out; omega⟩, ⟨by (with_reducible repeat (first | apply Kd.R_alloc | apply Kd.R_drewN | apply Kd.R_drew)); exact HO_5.out⟩, ⟨by repeat (first | (with_reducible first | exact HB.out | apply below_alloc | apply pw_below_drewN | apply below_drew1) | exact HB.out)⟩⟩
                            · replace c15 := Bool.eq_false_iff.mpr c15
                              subst c15
                              have H1 : (some 0) = some r := by rw [if_neg (show ¬ (false = true) by decide)] at H; exact H
                              clear H
                              have H := H1
                              clear H1
                              obtain rfl := Option.some.inj H
                              obtain ⟨Ao17, co17, eo17⟩ := Kd.R_slice HO_5.out
                              subst eo17
                              have p47007 : 0 ≤ (x6_3 : Int) := of_decide_eq_true (by first | (with_reducible assumption) | assumption)
                              have q47007 : x6_3 < (t47004.length : Int) := of_decide_eq_true (by first | (with_reducible assumption) | assumption)
                              obtain ⟨ad47007, e47007, hx47007_0⟩ := Kd.at_int (Kd.R_reads' HO_5.out).2.2 x6_3 p47007 q47007
                              cases e47007
                              replace p47007 := eq_true p47007
                              replace q47007 := eq_true q47007
                              go_wp2_with (first | ((with_reducible refine gate_callee (f := 26) rfl ?_); refine goesL_ (some 47) rfl rfl Tryd.func26 (by kernel_rfl) rfl #[.int .i64 (rd t47004 x6_3), .int .i64 (-549755813888), .int .i64 549755813887] rfl (by (try simp only [List.map_toArray, List.map_cons, List.map_nil]); first | done | rfl | (simp only [List.length_drop, List.length_take]; rfl)) ?_; (with_reducible refine (spec_l1In.calls (rd t47004 x6_3) (-549755813888) 549755813887 false _ A14.out).mono ?_); rintro e w' ⟨rfl, ⟨nd, rfl⟩⟩; refine ⟨_, rfl, ?_⟩))
                              go_ret
                              exact ⟨by first | rfl | (simp [errW_none, errW_some] <;> rfl) | (simp [*, errW_none, errW_some] <;> rfl), by repeat (first | (with_reducible first | exact HB.out | apply below_alloc | apply pw_below_drewN | apply below_drew1) | exact HB.out)⟩
                          · rw [if_neg c13] at H
                            exact absurd H (by simp)
                        · rw [if_neg c12] at H
                          have c12b0 : decide (x6_3 < (t47004.length : Int)) = false := decide_eq_false c12
                          clear c12
                          have H' := Aside0.mk H
                          clear H
                          obtain ⟨Ao18, co18, eo18⟩ := Kd.R_slice HO_5.out
                          subst eo18
                          go_wp2
                          go_roundg k3
                          case measure => have := HK1.out; have := HJ3.out; have := HK3.out; omega
                          case rel => exact ⟨(x3_3), (wrap64 (x4_1 + 1)), (by first | rfl | (simp; done) | (simp [*]; done)), (by first | rfl | (simp; done) | (simp [*]; done)), H', ⟨by have := HK1.out; have := HJ3.out; have := HK3.out; omega⟩, ⟨by repeat (first | (with_reducible first | exact HB.out | apply below_alloc | apply pw_below_drewN | apply below_drew1) | exact HB.out)⟩⟩
                  · rw [if_neg c9] at H
                    exact absurd H (by simp)
                · rw [if_neg c8] at H
                  exact absurd H (by simp)
        · rw [if_neg c3] at H
          have c3b0 : decide (x4_1 < (l0.length : Int)) = false := decide_eq_false c3
          clear c3
          obtain rfl := Option.some.inj H
          go_wp2
          go_ret
          exact ⟨by first | rfl | (simp [errW_none, errW_some] <;> rfl) | (simp [*, errW_none, errW_some] <;> rfl), by repeat (first | (with_reducible first | exact HB.out | apply below_alloc | apply pw_below_drewN | apply below_drew1) | exact HB.out)⟩
end Go.Proofs.YtjkjjfbcakbmnaaDoor.Q
namespace Go.Proofs.YtjkjjfbcakbmnaaDoor.Q
open Go.RowKit Go.Proofs.YtjkjjfbcakbmnaaDoorW.PrintWords Go.Proofs.YtjkjjfbcakbmnaaDoorW.PrintLast Go.Proofs.YtjkjjfbcakbmnaaDoorW.PrintMore
set_option linter.unusedVariables false
set_option linter.unusedSimpArgs false
structure Sent (w : World) (A : Nat → Addr) : Prop where
  cell : ∀ i, i < 5 → w.cell? ⟨i, 0, none⟩ = some (.iface 134 (.pointer (some (A i))))
  row : ∀ i, i < 5 → ∃ c t, w.heap[(A i).block]? = some (.cells c t (0, 0))
  apart : ∀ i j, i < 5 → j < 5 → i ≠ j → A i ≠ A j
theorem Sent.below {w w' : World} {A : Nat → Addr} {n : Nat} (h : Sent w A) (hb : Below n w w') (hn : n = w.heap.size) : Sent w' A := by
  subst hn
  refine ⟨fun i hi => pw_cell_below hb (h.cell i hi), fun i hi => ?_, h.apart⟩
  obtain ⟨c, t, hr⟩ := h.row i hi
  refine ⟨c, t, (hb.block _ ?_).trans hr⟩
  rcases Nat.lt_or_ge (A i).block w.heap.size with q | q
  · exact q
  · rw [Array.getElem?_eq_none q] at hr; cases hr
set_option maxRecDepth 100000 in
theorem codeOf_0 (A : Nat → Addr) (pb : Nat) (w : World) (hS : Sent w A) (h1 : w.cell? ⟨pb, 0 + 1, none⟩ = some (.iface 134 (.pointer (some (A 0))))) :
    Calls Tryd.prog 22 #[.iface 88 (.pointer (some ⟨pb, 0, none⟩))] w fun e w' => e = .returned (.int .i64 1) ∧ w' = w := by
  have g0 := hS.cell 0 (by omega)
  have g1 := hS.cell 1 (by omega)
  have g2 := hS.cell 2 (by omega)
  have g3 := hS.cell 3 (by omega)
  have g4 := hS.cell 4 (by omega)
  obtain ⟨c0, t0, r0⟩ := hS.row 0 (by omega)
  obtain ⟨c1, t1, r1⟩ := hS.row 1 (by omega)
  obtain ⟨c2, t2, r2⟩ := hS.row 2 (by omega)
  obtain ⟨c3, t3, r3⟩ := hS.row 3 (by omega)
  obtain ⟨c4, t4, r4⟩ := hS.row 4 (by omega)
  clear hS
  generalize A 0 = a0 at *
  generalize A 1 = a1 at *
  generalize A 2 = a2 at *
  generalize A 3 = a3 at *
  generalize A 4 = a4 at *
  go_enter Tryd.func22, Tryd.ntmps22
  go_wp2_with fail
  refine (er_same pb 0 a0 _ h1).mono ?_
  rintro x w' ⟨rfl, rfl⟩
  go_wp2_with fail
  go_ret
  exact ⟨rfl, rfl⟩
set_option maxRecDepth 100000 in
theorem codeOf_1 (A : Nat → Addr) (pb : Nat) (w : World) (hS : Sent w A) (h1 : w.cell? ⟨pb, 0 + 1, none⟩ = some (.iface 134 (.pointer (some (A 1))))) :
    Calls Tryd.prog 22 #[.iface 88 (.pointer (some ⟨pb, 0, none⟩))] w fun e w' => e = .returned (.int .i64 2) ∧ w' = w := by
  have g0 := hS.cell 0 (by omega)
  have g1 := hS.cell 1 (by omega)
  have g2 := hS.cell 2 (by omega)
  have g3 := hS.cell 3 (by omega)
  have g4 := hS.cell 4 (by omega)
  obtain ⟨c0, t0, r0⟩ := hS.row 0 (by omega)
  obtain ⟨c1, t1, r1⟩ := hS.row 1 (by omega)
  obtain ⟨c2, t2, r2⟩ := hS.row 2 (by omega)
  obtain ⟨c3, t3, r3⟩ := hS.row 3 (by omega)
  obtain ⟨c4, t4, r4⟩ := hS.row 4 (by omega)
  have n0 := hS.apart 1 0 (by omega) (by omega) (by omega)
  clear hS
  generalize A 0 = a0 at *
  generalize A 1 = a1 at *
  generalize A 2 = a2 at *
  generalize A 3 = a3 at *
  generalize A 4 = a4 at *
  go_enter Tryd.func22, Tryd.ntmps22
  go_wp2_with fail
  refine (er_other pb 0 a0 a1 c1 c0 t1 t0 _ h1 n0 r1 r0).mono ?_
  rintro x w' ⟨rfl, rfl⟩
  go_wp2_with fail
  refine (er_same pb 0 a1 _ h1).mono ?_
  rintro x w' ⟨rfl, rfl⟩
  go_wp2_with fail
  go_ret
  exact ⟨rfl, rfl⟩
set_option maxRecDepth 100000 in
theorem codeOf_2 (A : Nat → Addr) (pb : Nat) (w : World) (hS : Sent w A) (h1 : w.cell? ⟨pb, 0 + 1, none⟩ = some (.iface 134 (.pointer (some (A 2))))) :
    Calls Tryd.prog 22 #[.iface 88 (.pointer (some ⟨pb, 0, none⟩))] w fun e w' => e = .returned (.int .i64 3) ∧ w' = w := by
  have g0 := hS.cell 0 (by omega)
  have g1 := hS.cell 1 (by omega)
  have g2 := hS.cell 2 (by omega)
  have g3 := hS.cell 3 (by omega)
  have g4 := hS.cell 4 (by omega)
  obtain ⟨c0, t0, r0⟩ := hS.row 0 (by omega)
  obtain ⟨c1, t1, r1⟩ := hS.row 1 (by omega)
  obtain ⟨c2, t2, r2⟩ := hS.row 2 (by omega)
  obtain ⟨c3, t3, r3⟩ := hS.row 3 (by omega)
  obtain ⟨c4, t4, r4⟩ := hS.row 4 (by omega)
  have n0 := hS.apart 2 0 (by omega) (by omega) (by omega)
  have n1 := hS.apart 2 1 (by omega) (by omega) (by omega)
  clear hS
  generalize A 0 = a0 at *
  generalize A 1 = a1 at *
  generalize A 2 = a2 at *
  generalize A 3 = a3 at *
  generalize A 4 = a4 at *
  go_enter Tryd.func22, Tryd.ntmps22
  go_wp2_with fail
  refine (er_other pb 0 a0 a2 c2 c0 t2 t0 _ h1 n0 r2 r0).mono ?_
  rintro x w' ⟨rfl, rfl⟩
  go_wp2_with fail
  refine (er_other pb 0 a1 a2 c2 c1 t2 t1 _ h1 n1 r2 r1).mono ?_
  rintro x w' ⟨rfl, rfl⟩
  go_wp2_with fail
  refine (er_same pb 0 a2 _ h1).mono ?_
  rintro x w' ⟨rfl, rfl⟩
  go_wp2_with fail
  go_ret
  exact ⟨rfl, rfl⟩
set_option maxRecDepth 100000 in
theorem codeOf_3 (A : Nat → Addr) (pb : Nat) (w : World) (hS : Sent w A) (h1 : w.cell? ⟨pb, 0 + 1, none⟩ = some (.iface 134 (.pointer (some (A 3))))) :
    Calls Tryd.prog 22 #[.iface 88 (.pointer (some ⟨pb, 0, none⟩))] w fun e w' => e = .returned (.int .i64 4) ∧ w' = w := by
  have g0 := hS.cell 0 (by omega)
  have g1 := hS.cell 1 (by omega)
  have g2 := hS.cell 2 (by omega)
  have g3 := hS.cell 3 (by omega)
  have g4 := hS.cell 4 (by omega)
  obtain ⟨c0, t0, r0⟩ := hS.row 0 (by omega)
  obtain ⟨c1, t1, r1⟩ := hS.row 1 (by omega)
  obtain ⟨c2, t2, r2⟩ := hS.row 2 (by omega)
  obtain ⟨c3, t3, r3⟩ := hS.row 3 (by omega)
  obtain ⟨c4, t4, r4⟩ := hS.row 4 (by omega)
  have n0 := hS.apart 3 0 (by omega) (by omega) (by omega)
  have n1 := hS.apart 3 1 (by omega) (by omega) (by omega)
  have n2 := hS.apart 3 2 (by omega) (by omega) (by omega)
  clear hS
  generalize A 0 = a0 at *
  generalize A 1 = a1 at *
  generalize A 2 = a2 at *
  generalize A 3 = a3 at *
  generalize A 4 = a4 at *
  go_enter Tryd.func22, Tryd.ntmps22
  go_wp2_with fail
  refine (er_other pb 0 a0 a3 c3 c0 t3 t0 _ h1 n0 r3 r0).mono ?_
  rintro x w' ⟨rfl, rfl⟩
  go_wp2_with fail
  refine (er_other pb 0 a1 a3 c3 c1 t3 t1 _ h1 n1 r3 r1).mono ?_
  rintro x w' ⟨rfl, rfl⟩
  go_wp2_with fail
  refine (er_other pb 0 a2 a3 c3 c2 t3 t2 _ h1 n2 r3 r2).mono ?_
  rintro x w' ⟨rfl, rfl⟩
  go_wp2_with fail
  refine (er_same pb 0 a3 _ h1).mono ?_
  rintro x w' ⟨rfl, rfl⟩
  go_wp2_with fail
  go_ret
  exact ⟨rfl, rfl⟩
set_option maxRecDepth 100000 in
theorem codeOf_4 (A : Nat → Addr) (pb : Nat) (w : World) (hS : Sent w A) (h1 : w.cell? ⟨pb, 0 + 1, none⟩ = some (.iface 134 (.pointer (some (A 4))))) :
    Calls Tryd.prog 22 #[.iface 88 (.pointer (some ⟨pb, 0, none⟩))] w fun e w' => e = .returned (.int .i64 5) ∧ w' = w := by
  have g0 := hS.cell 0 (by omega)
  have g1 := hS.cell 1 (by omega)
  have g2 := hS.cell 2 (by omega)
  have g3 := hS.cell 3 (by omega)
  have g4 := hS.cell 4 (by omega)
  obtain ⟨c0, t0, r0⟩ := hS.row 0 (by omega)
  obtain ⟨c1, t1, r1⟩ := hS.row 1 (by omega)
  obtain ⟨c2, t2, r2⟩ := hS.row 2 (by omega)
  obtain ⟨c3, t3, r3⟩ := hS.row 3 (by omega)
  obtain ⟨c4, t4, r4⟩ := hS.row 4 (by omega)
  have n0 := hS.apart 4 0 (by omega) (by omega) (by omega)
  have n1 := hS.apart 4 1 (by omega) (by omega) (by omega)
  have n2 := hS.apart 4 2 (by omega) (by omega) (by omega)
  have n3 := hS.apart 4 3 (by omega) (by omega) (by omega)
  clear hS
  generalize A 0 = a0 at *
  generalize A 1 = a1 at *
  generalize A 2 = a2 at *
  generalize A 3 = a3 at *
  generalize A 4 = a4 at *
  go_enter Tryd.func22, Tryd.ntmps22
  go_wp2_with fail
  refine (er_other pb 0 a0 a4 c4 c0 t4 t0 _ h1 n0 r4 r0).mono ?_
  rintro x w' ⟨rfl, rfl⟩
  go_wp2_with fail
  refine (er_other pb 0 a1 a4 c4 c1 t4 t1 _ h1 n1 r4 r1).mono ?_
  rintro x w' ⟨rfl, rfl⟩
  go_wp2_with fail
  refine (er_other pb 0 a2 a4 c4 c2 t4 t2 _ h1 n2 r4 r2).mono ?_
  rintro x w' ⟨rfl, rfl⟩
  go_wp2_with fail
  refine (er_other pb 0 a3 a4 c4 c3 t4 t3 _ h1 n3 r4 r3).mono ?_
  rintro x w' ⟨rfl, rfl⟩
  go_wp2_with fail
  refine (er_same pb 0 a4 _ h1).mono ?_
  rintro x w' ⟨rfl, rfl⟩
  go_wp2_with fail
  go_ret
  exact ⟨rfl, rfl⟩
set_option maxRecDepth 100000 in
theorem codeOf_nil (A : Nat → Addr) (w : World) (hS : Sent w A) :
    Calls Tryd.prog 22 #[.nilIface] w fun e w' => e = .returned (.int .i64 0) ∧ w' = w := by
  have g0 := hS.cell 0 (by omega)
  have g1 := hS.cell 1 (by omega)
  have g2 := hS.cell 2 (by omega)
  have g3 := hS.cell 3 (by omega)
  have g4 := hS.cell 4 (by omega)
  clear hS
  generalize A 0 = a0 at *
  generalize A 1 = a1 at *
  generalize A 2 = a2 at *
  generalize A 3 = a3 at *
  generalize A 4 = a4 at *
  go_enter Tryd.func22, Tryd.ntmps22
  go_wp2_with fail
  refine (er_nil a0 _).mono ?_
  rintro x w' ⟨rfl, rfl⟩
  go_wp2_with fail
  refine (er_nil a1 _).mono ?_
  rintro x w' ⟨rfl, rfl⟩
  go_wp2_with fail
  refine (er_nil a2 _).mono ?_
  rintro x w' ⟨rfl, rfl⟩
  go_wp2_with fail
  refine (er_nil a3 _).mono ?_
  rintro x w' ⟨rfl, rfl⟩
  go_wp2_with fail
  refine (er_nil a4 _).mono ?_
  rintro x w' ⟨rfl, rfl⟩
  go_wp2_with fail
  go_ret
  exact ⟨rfl, rfl⟩
end Go.Proofs.YtjkjjfbcakbmnaaDoor.Q
namespace Go.Proofs.YtjkjjfbcakbmnaaDoor.Q
open Go.RowKit Go.Proofs.YtjkjjfbcakbmnaaDoorW.PrintWords Go.Proofs.YtjkjjfbcakbmnaaDoorW.PrintLast Go.Proofs.YtjkjjfbcakbmnaaDoorW.PrintMore
attribute [local go_sem] max2_int min2_int max_two min_two max_three min_three max_four min_four   -- for this text's walks alone
set_option linter.unusedVariables false
set_option linter.unusedSimpArgs false
theorem mem_at {α : Type} {l : List α} {z : α} {i : Int} (h0 : 0 ≤ i) (h1 : i < (l.length : Int)) : l.getD i.toNat z ∈ l := by
  rw [List.getD_eq_getElem?_getD, List.getElem?_eq_getElem (by omega)]
  exact List.getElem_mem _
end Go.Proofs.YtjkjjfbcakbmnaaDoor.Q
