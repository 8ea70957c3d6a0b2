/- Parts of the proof: what functions of the program and of the reference answer.
   No condition. -/
import Derived.Test.YtjkjjfbcakbmnaaGreatDoorZRecord1
import Derived.Test.YtjkjjfbcakbmnaaGreatDoorZRecord14
import Derived.Test.YtjkjjfbcakbmnaaGreatDoorZRecord22
import Derived.Test.YtjkjjfbcakbmnaaGreatDoorZRecord9
namespace Go.Proofs.YtjkjjfbcakbmnaaGreatDoor.Q
open Go.RowKit Go.Proofs.YtjkjjfbcakbmnaaGreatDoorW.PrintWords Go.Proofs.YtjkjjfbcakbmnaaGreatDoorW.PrintLast Go.Proofs.YtjkjjfbcakbmnaaGreatDoorW.PrintMore
attribute [local go_sem] max2_int min2_int max_two min_two max_three min_three max_four min_four   -- for this text's walks alone
set_option linter.unusedVariables false
set_option linter.unusedSimpArgs false
set_option maxHeartbeats 4000000 in
set_option maxRecDepth 100000 in
theorem laws_eqBooks.calls (A0_0 : Option Addr) (c0_0 : Nat) (l0_0 : List (S48)) (a0_1 : Int) (a0_2 : Int) (A0_3 : Option Addr) (c0_3 : Nat) (l0_3 : List (S41)) (a0_4 : Int) (A0_5 : Option Addr) (c0_5 : Nat) (l0_5 : List (S84)) (a0_6 : Int) (a0_7 : Int) (A1_0 : Option Addr) (c1_0 : Nat) (l1_0 : List (S48)) (a1_1 : Int) (a1_2 : Int) (A1_3 : Option Addr) (c1_3 : Nat) (l1_3 : List (S41)) (a1_4 : Int) (A1_5 : Option Addr) (c1_5 : Nat) (l1_5 : List (S84)) (a1_6 : Int) (a1_7 : Int) (w : World) (hr0_0 : Kd.C k48 w A0_0 l0_0.length l0_0) (hr0_3 : Kd.C k41 w A0_3 l0_3.length l0_3) (hr0_5 : Kd.C k84 w A0_5 l0_5.length l0_5) (hr1_0 : Kd.C k48 w A1_0 l1_0.length l1_0) (hr1_3 : Kd.C k41 w A1_3 l1_3.length l1_3) (hr1_5 : Kd.C k84 w A1_5 l1_5.length l1_5) :
    Calls Tryz.prog 23 #[.agg #[.slice A0_0 l0_0.length c0_0, .int .i64 a0_1, .int .i64 a0_2, .slice A0_3 l0_3.length c0_3, .int .i64 a0_4, .slice A0_5 l0_5.length c0_5, .int .i64 a0_6, .int .i64 a0_7], .agg #[.slice A1_0 l1_0.length c1_0, .int .i64 a1_1, .int .i64 a1_2, .slice A1_3 l1_3.length c1_3, .int .i64 a1_4, .slice A1_5 l1_5.length c1_5, .int .i64 a1_6, .int .i64 a1_7]] w fun e w' => e = .returned (.bool (same ((⟨(⟨l0_0, a0_1, a0_2⟩ : S26), (⟨l0_3, a0_4⟩ : S29), l0_5, a0_6, a0_7⟩ : S32) : S32) ((⟨(⟨l1_0, a1_1, a1_2⟩ : S26), (⟨l1_3, a1_4⟩ : S29), l1_5, a1_6, a1_7⟩ : S32) : S32))) ∧ Below w.heap.size w w' := by
  have Hl0_0 := Aside0.mk hr0_0
  clear hr0_0
  have Hl0_3 := Aside0.mk hr0_3
  clear hr0_3
  have Hl0_5 := Aside0.mk hr0_5
  clear hr0_5
  have Hl1_0 := Aside0.mk hr1_0
  clear hr1_0
  have Hl1_3 := Aside0.mk hr1_3
  clear hr1_3
  have Hl1_5 := Aside0.mk hr1_5
  clear hr1_5
  go_enter Tryz.func23, Tryz.ntmps23
  go_wp2_with fail
  refine (laws_eqFrame.calls A0_0 c0_0 l0_0 a0_1 a0_2 A1_0 c1_0 l1_0 a1_1 a1_2 _ (Kd.C_below Hl0_0.out (by repeat (first | exact Below.refl _ _ | refine y01 ?_ _ | refine y04 ?_ | refine y02 ?_ _))) (Kd.C_below Hl1_0.out (by repeat (first | exact Below.refl _ _ | refine y01 ?_ _ | refine y04 ?_ | refine y02 ?_ _)))).mono ?_
  rintro e w10 ⟨rfl, hb⟩
  have s0_a3 : w10.cell? ⟨w.heap.size, 3, none⟩ = some (.slice A0_3 l0_3.length c0_3) := y00 hb (by first | assumption | (go_simp; done))
  have s0_a4 : w10.cell? ⟨w.heap.size, 4, none⟩ = some (.int .i64 a0_4) := y00 hb (by first | assumption | (go_simp; done))
  have s0_a5 : w10.cell? ⟨w.heap.size, 5, none⟩ = some (.slice A0_5 l0_5.length c0_5) := y00 hb (by first | assumption | (go_simp; done))
  have s0_a6 : w10.cell? ⟨w.heap.size, 6, none⟩ = some (.int .i64 a0_6) := y00 hb (by first | assumption | (go_simp; done))
  have s0_a7 : w10.cell? ⟨w.heap.size, 7, none⟩ = some (.int .i64 a0_7) := y00 hb (by first | assumption | (go_simp; done))
  have s0_b3 : w10.cell? ⟨w.heap.size + 1, 3, none⟩ = some (.slice A1_3 l1_3.length c1_3) := y00 hb (by first | assumption | (go_simp; done))
  have s0_b4 : w10.cell? ⟨w.heap.size + 1, 4, none⟩ = some (.int .i64 a1_4) := y00 hb (by first | assumption | (go_simp; done))
  have s0_b5 : w10.cell? ⟨w.heap.size + 1, 5, none⟩ = some (.slice A1_5 l1_5.length c1_5) := y00 hb (by first | assumption | (go_simp; done))
  have s0_b6 : w10.cell? ⟨w.heap.size + 1, 6, none⟩ = some (.int .i64 a1_6) := y00 hb (by first | assumption | (go_simp; done))
  have s0_b7 : w10.cell? ⟨w.heap.size + 1, 7, none⟩ = some (.int .i64 a1_7) := y00 hb (by first | assumption | (go_simp; done))
  have HB0 := Aside0.mk (y10 (w := w) hb (by repeat (first | exact Below.refl _ _ | refine y01 ?_ _ | refine y04 ?_ | refine y02 ?_ _)))
  clear hb
  by_cases h0 : ((⟨l0_0, a0_1, a0_2⟩ : S26) : S26) = ((⟨l1_0, a1_1, a1_2⟩ : S26) : S26)
  · rw [← same_true h0]
    have E0 := Aside0.mk h0
    clear h0
    go_wp2_with fail
    refine (laws_eqLedger.calls A0_3 c0_3 l0_3 a0_4 A1_3 c1_3 l1_3 a1_4 _ (Kd.C_below Hl0_3.out (by repeat (first | exact HB0.out | refine y01 ?_ _ | refine y04 ?_ | refine y02 ?_ _))) (Kd.C_below Hl1_3.out (by repeat (first | exact HB0.out | refine y01 ?_ _ | refine y04 ?_ | refine y02 ?_ _)))).mono ?_
    rintro e w11 ⟨rfl, hb⟩
    have s1_a5 : w11.cell? ⟨w.heap.size, 5, none⟩ = some (.slice A0_5 l0_5.length c0_5) := y00 hb (by first | assumption | (go_simp; done))
    have s1_a6 : w11.cell? ⟨w.heap.size, 6, none⟩ = some (.int .i64 a0_6) := y00 hb (by first | assumption | (go_simp; done))
    have s1_a7 : w11.cell? ⟨w.heap.size, 7, none⟩ = some (.int .i64 a0_7) := y00 hb (by first | assumption | (go_simp; done))
    have s1_b5 : w11.cell? ⟨w.heap.size + 1, 5, none⟩ = some (.slice A1_5 l1_5.length c1_5) := y00 hb (by first | assumption | (go_simp; done))
    have s1_b6 : w11.cell? ⟨w.heap.size + 1, 6, none⟩ = some (.int .i64 a1_6) := y00 hb (by first | assumption | (go_simp; done))
    have s1_b7 : w11.cell? ⟨w.heap.size + 1, 7, none⟩ = some (.int .i64 a1_7) := y00 hb (by first | assumption | (go_simp; done))
    have HB1 := Aside0.mk (y10 (w := w) hb (by repeat (first | exact HB0.out | refine y01 ?_ _ | refine y04 ?_ | refine y02 ?_ _)))
    clear hb
    by_cases h1 : ((⟨l0_3, a0_4⟩ : S29) : S29) = ((⟨l1_3, a1_4⟩ : S29) : S29)
    · rw [← same_true h1]
      have E1 := Aside0.mk h1
      clear h1
      go_wp2_with fail
      refine (laws_eqPeriodS.calls A0_5 c0_5 l0_5 A1_5 c1_5 l1_5 _ (Kd.C_below Hl0_5.out (by repeat (first | exact HB1.out | refine y01 ?_ _ | refine y04 ?_ | refine y02 ?_ _))) (Kd.C_below Hl1_5.out (by repeat (first | exact HB1.out | refine y01 ?_ _ | refine y04 ?_ | refine y02 ?_ _)))).mono ?_
      rintro e w12 ⟨rfl, hb⟩
      have s2_a6 : w12.cell? ⟨w.heap.size, 6, none⟩ = some (.int .i64 a0_6) := y00 hb (by first | assumption | (go_simp; done))
      have s2_a7 : w12.cell? ⟨w.heap.size, 7, none⟩ = some (.int .i64 a0_7) := y00 hb (by first | assumption | (go_simp; done))
      have s2_b6 : w12.cell? ⟨w.heap.size + 1, 6, none⟩ = some (.int .i64 a1_6) := y00 hb (by first | assumption | (go_simp; done))
      have s2_b7 : w12.cell? ⟨w.heap.size + 1, 7, none⟩ = some (.int .i64 a1_7) := y00 hb (by first | assumption | (go_simp; done))
      have HB2 := Aside0.mk (y10 (w := w) hb (by repeat (first | exact HB1.out | refine y01 ?_ _ | refine y04 ?_ | refine y02 ?_ _)))
      clear hb
      by_cases h2 : l0_5 = l1_5
      · rw [← same_true h2]
        have E2 := Aside0.mk h2
        clear h2
        by_cases h3 : a0_6 = a1_6
        · have hb3 : (a0_6 != a1_6) = false := by rw [h3]; simp
          have E3 := Aside0.mk h3
          clear h3
          by_cases h4 : a0_7 = a1_7
          · have hb4 : (a0_7 != a1_7) = false := by rw [h4]; simp
            have E4 := Aside0.mk h4
            clear h4
            go_wp2
            go_ret
            exact ⟨ret_bool (same_true (by rw [E0.out, E1.out, E2.out, E3.out, E4.out])), HB2.out⟩
          · have hb4 : (a0_7 != a1_7) = true := by simpa using h4
            have E4 := Aside0.mk h4
            clear h4
            go_wp2
            go_ret
            exact ⟨ret_bool (same_false (fun h => E4.out (congrArg (fun x : S32 => x.f4) h))), HB2.out⟩
        · have hb3 : (a0_6 != a1_6) = true := by simpa using h3
          have E3 := Aside0.mk h3
          clear h3
          go_wp2
          go_ret
          exact ⟨ret_bool (same_false (fun h => E3.out (congrArg (fun x : S32 => x.f3) h))), HB2.out⟩
      · rw [← same_false h2]
        have E2 := Aside0.mk h2
        clear h2
        go_wp2
        go_ret
        exact ⟨ret_bool (same_false (fun h => E2.out (congrArg (fun x : S32 => x.f2) h))), HB2.out⟩
    · rw [← same_false h1]
      have E1 := Aside0.mk h1
      clear h1
      go_wp2
      go_ret
      exact ⟨ret_bool (same_false (fun h => E1.out (congrArg (fun x : S32 => x.f1) h))), HB1.out⟩
  · rw [← same_false h0]
    have E0 := Aside0.mk h0
    clear h0
    go_wp2
    go_ret
    exact ⟨ret_bool (same_false (fun h => E0.out (congrArg (fun x : S32 => x.f0) h))), HB0.out⟩
end Go.Proofs.YtjkjjfbcakbmnaaGreatDoor.Q
