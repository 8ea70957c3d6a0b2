/- Parts of the proof: what functions of the program and of the reference answer.
   No condition. -/
import Derived.Test.YtphmnkcfjgallaaZC1
import Derived.Test.YtphmnkcfjgallaaZL2
import Derived.Test.YtphmnkcfjgallaaZL1
namespace Go.Proofs.Ytphmnkcfjgallaa.Q
open Go.RowKit Go.Proofs.YtphmnkcfjgallaaW.PrintWords Go.Proofs.YtphmnkcfjgallaaW.PrintLast Go.Proofs.YtphmnkcfjgallaaW.PrintMore
attribute [local go_sem] max2_int min2_int max_two min_two max_three min_three max_four min_four   -- for this text's walks alone
set_option linter.unusedVariables false
set_option linter.unusedSimpArgs false

/-! ### laws_eqAccount: function 150 -/
set_option maxHeartbeats 4000000 in
set_option maxRecDepth 100000 in
theorem laws_eqAccount.calls (a0_0 : ByteArray) (a0_1 : Int) (a0_2 : Int) (a1_0 : ByteArray) (a1_1 : Int) (a1_2 : Int) (w : World) :
    Calls Try.prog 150 #[.agg #[.string a0_0, .int .i64 a0_1, .int .i64 a0_2], .agg #[.string a1_0, .int .i64 a1_1, .int .i64 a1_2]] w fun e w' => e = .returned (.bool (same ((⟨a0_0, a0_1, a0_2⟩ : S131) : S131) ((⟨a1_0, a1_1, a1_2⟩ : S131) : S131))) ∧ Below w.heap.size w w' := by
  by_cases h0 : a0_0 = a1_0
  · have hb0 : (!a0_0.toList == a1_0.toList) = false := by rw [h0]; simp
    have E0 := Aside0.mk h0
    clear h0
    by_cases h1 : a0_1 = a1_1
    · have hb1 : (a0_1 != a1_1) = false := by rw [h1]; simp
      have E1 := Aside0.mk h1
      clear h1
      by_cases h2 : a0_2 = a1_2
      · have hb2 : (a0_2 != a1_2) = false := by rw [h2]; simp
        have E2 := Aside0.mk h2
        clear h2
        go_enter Try.func150, Try.ntmps150
        go_wp2
        go_ret
        exact ⟨ret_bool (same_true (by rw [E0.out, E1.out, E2.out])), below_two _ _ _⟩
      · have hb2 : (a0_2 != a1_2) = true := by simpa using h2
        have E2 := Aside0.mk h2
        clear h2
        go_enter Try.func150, Try.ntmps150
        go_wp2
        go_ret
        exact ⟨ret_bool (same_false (fun h => E2.out (congrArg (fun x : S131 => x.f2) h))), below_two _ _ _⟩
    · have hb1 : (a0_1 != a1_1) = true := by simpa using h1
      have E1 := Aside0.mk h1
      clear h1
      go_enter Try.func150, Try.ntmps150
      go_wp2
      go_ret
      exact ⟨ret_bool (same_false (fun h => E1.out (congrArg (fun x : S131 => x.f1) h))), below_two _ _ _⟩
  · have hb0 : (!a0_0.toList == a1_0.toList) = true := by exact bytes_bne h0
    have E0 := Aside0.mk h0
    clear h0
    go_enter Try.func150, Try.ntmps150
    go_wp2
    go_ret
    exact ⟨ret_bool (same_false (fun h => E0.out (congrArg (fun x : S131 => x.f0) h))), below_two _ _ _⟩

end Go.Proofs.Ytphmnkcfjgallaa.Q
namespace Go.Proofs.Ytphmnkcfjgallaa.Q
open Go.RowKit Go.Proofs.YtphmnkcfjgallaaW.PrintWords Go.Proofs.YtphmnkcfjgallaaW.PrintLast Go.Proofs.YtphmnkcfjgallaaW.PrintMore
attribute [local go_sem] max2_int min2_int max_two min_two max_three min_three max_four min_four   -- for this text's walks alone
set_option linter.unusedVariables false
set_option linter.unusedSimpArgs false

/-! ### laws_eqAccountS: function 108 -/
set_option maxHeartbeats 4000000 in
set_option maxRecDepth 100000 in
theorem laws_eqAccountS.calls (A0 : Option Addr) (c0 : Nat) (l0 : List (S131)) (A1 : Option Addr) (c1 : Nat) (l1 : List (S131)) (w : World) (hr0 : Kd.C k131 w A0 l0.length l0) (hr1 : Kd.C k131 w A1 l1.length l1) :
    Calls Try.prog 108 #[.slice A0 l0.length c0, .slice A1 l1.length c1] w fun e w' => e = .returned (.bool (same l0 l1)) ∧ Below w.heap.size w w' := by
  have hl := hr0.2.1
  have hm := hr1.2.1
  have H0 := Aside0.mk hr0
  have H1 := Aside0.mk hr1
  clear hr0 hr1
  by_cases hlen : l0.length = l1.length
  · have hlb : ((l0.length : Int) != (l1.length : Int)) = false := by rw [hlen]; simp
    have HL := Aside0.mk hlen
    clear hlen
    go_enter Try.func108, Try.ntmps108
    go_wp2
    go_loopw [5] (fun v wr => ∃ i : Int, 0 ≤ i ∧ i ≤ (l0.length : Int) ∧ v = .int .i64 i ∧ Aside0 (Below w.heap.size w wr) ∧ Aside0 (l0.take i.toNat = l1.take i.toNat)) (fun v _ => (l0.length - (intOf v).toNat))
    case atStart => exact ⟨0, by omega, by omega, rfl, ⟨Below.refl _ _⟩, ⟨rfl⟩⟩
    case round =>
      obtain ⟨i, hi0, hi1, rfl, HB, HT⟩ := hrel
      by_cases hlt : i < (l0.length : Int)
      · have hlt2 : i < (l1.length : Int) := by have := HL.out; omega
        obtain ⟨ad, ead, adx0, adx1, adx2⟩ := at_T131 (Kd.C_below H0.out HB.out) i hi0 hlt
        obtain ⟨bd, ebd, bdx0, bdx1, bdx2⟩ := at_T131 (Kd.C_below H1.out HB.out) i hi0 hlt2
        cases ead
        cases ebd
        go_wp2
        go_region_held3 (fun w' => w'.cell? (ad.add (i.toNat * 3)) = some (.string (rd_T131 l0 i).f0) ∧ w'.cell? ⟨(ad.add (i.toNat * 3)).block, (ad.add (i.toNat * 3)).off + 1, none⟩ = some (.int .i64 (rd_T131 l0 i).f1) ∧ w'.cell? ⟨(ad.add (i.toNat * 3)).block, (ad.add (i.toNat * 3)).off + 2, none⟩ = some (.int .i64 (rd_T131 l0 i).f2) ∧ w'.cell? (bd.add (i.toNat * 3)) = some (.string (rd_T131 l1 i).f0) ∧ w'.cell? ⟨(bd.add (i.toNat * 3)).block, (bd.add (i.toNat * 3)).off + 1, none⟩ = some (.int .i64 (rd_T131 l1 i).f1) ∧ w'.cell? ⟨(bd.add (i.toNat * 3)).block, (bd.add (i.toNat * 3)).off + 2, none⟩ = some (.int .i64 (rd_T131 l1 i).f2)) ((first | go_keep | exact ⟨pw_cell_below hb (by assumption), pw_cell_below hb (by assumption), pw_cell_below hb (by assumption), pw_cell_below hb (by assumption), pw_cell_below hb (by assumption), pw_cell_below hb (by assumption)⟩))
          ((go_at_call 150; refine (laws_eqAccount.calls (rd_T131 l0 i).f0 (rd_T131 l0 i).f1 (rd_T131 l0 i).f2 (rd_T131 l1 i).f0 (rd_T131 l1 i).f1 (rd_T131 l1 i).f2 _ ).mono ?_; rintro e w2 ⟨rfl, hb⟩))
        have HB2 := Aside0.mk (below_into (w := w) hb (by repeat (first | exact HB.out | refine below_drew1 ?_)))
        clear hb
        by_cases he : rd_T131 l0 i = rd_T131 l1 i
        · rw [← same_true (show ((⟨(rd_T131 l0 i).f0, (rd_T131 l0 i).f1, (rd_T131 l0 i).f2⟩ : S131) : S131) = (⟨(rd_T131 l1 i).f0, (rd_T131 l1 i).f1, (rd_T131 l1 i).f2⟩ : S131) from he)]
          go_wp2
          go_roundw
          case rel => exact ⟨i + 1, by omega, by omega, rfl, HB2, ⟨take_step hi0 hlt hlt2 HT.out he⟩⟩
          case measure => simp [intOf]; omega
        · rw [← same_false (show ((⟨(rd_T131 l0 i).f0, (rd_T131 l0 i).f1, (rd_T131 l0 i).f2⟩ : S131) : S131) = (⟨(rd_T131 l1 i).f0, (rd_T131 l1 i).f1, (rd_T131 l1 i).f2⟩ : S131) → False from he)]
          go_wp2
          go_ret
          exact ⟨ret_bool (same_false (fun h => he (by rw [h]))), HB2.out⟩
      · go_wp2
        go_ret
        exact ⟨ret_bool (same_true (take_end HL.out hlt HT.out)), HB.out⟩
  · go_enter Try.func108, Try.ntmps108
    go_wp2
    go_ret
    exact ⟨ret_bool (same_false (fun h => hlen (by rw [h]))), Below.refl _ _⟩

end Go.Proofs.Ytphmnkcfjgallaa.Q
namespace Go.Proofs.Ytphmnkcfjgallaa.Q
open Go.RowKit Go.Proofs.YtphmnkcfjgallaaW.PrintWords Go.Proofs.YtphmnkcfjgallaaW.PrintLast Go.Proofs.YtphmnkcfjgallaaW.PrintMore
attribute [local go_sem] max2_int min2_int max_two min_two max_three min_three max_four min_four   -- for this text's walks alone
set_option linter.unusedVariables false
set_option linter.unusedSimpArgs false

/-! ### laws_eqFrame: function 41 -/
set_option maxHeartbeats 4000000 in
set_option maxRecDepth 100000 in
theorem laws_eqFrame.calls (A0_0 : Option Addr) (c0_0 : Nat) (l0_0 : List (S131)) (a0_1 : Int) (a0_2 : Int) (A1_0 : Option Addr) (c1_0 : Nat) (l1_0 : List (S131)) (a1_1 : Int) (a1_2 : Int) (w : World) (hr0_0 : Kd.C k131 w A0_0 l0_0.length l0_0) (hr1_0 : Kd.C k131 w A1_0 l1_0.length l1_0) :
    Calls Try.prog 41 #[.agg #[.slice A0_0 l0_0.length c0_0, .int .i64 a0_1, .int .i64 a0_2], .agg #[.slice A1_0 l1_0.length c1_0, .int .i64 a1_1, .int .i64 a1_2]] w fun e w' => e = .returned (.bool (same ((⟨l0_0, a0_1, a0_2⟩ : S26) : S26) ((⟨l1_0, a1_1, a1_2⟩ : S26) : S26))) ∧ Below w.heap.size w w' := by
  have Hl0_0 := Aside0.mk hr0_0
  clear hr0_0
  have Hl1_0 := Aside0.mk hr1_0
  clear hr1_0
  go_enter Try.func41, Try.ntmps41
  go_wp2_with fail
  refine (laws_eqAccountS.calls A0_0 c0_0 l0_0 A1_0 c1_0 l1_0 _ (Kd.C_below Hl0_0.out (by repeat (first | exact Below.refl _ _ | refine below_alloc ?_ _ | refine below_drew1 ?_ | refine pw_below_drewN ?_ _))) (Kd.C_below Hl1_0.out (by repeat (first | exact Below.refl _ _ | refine below_alloc ?_ _ | refine below_drew1 ?_ | refine pw_below_drewN ?_ _)))).mono ?_
  rintro e w10 ⟨rfl, hb⟩
  have s0_a1 : w10.cell? ⟨w.heap.size, 1, none⟩ = some (.int .i64 a0_1) := pw_cell_below hb (by first | assumption | (go_simp; done))
  have s0_a2 : w10.cell? ⟨w.heap.size, 2, none⟩ = some (.int .i64 a0_2) := pw_cell_below hb (by first | assumption | (go_simp; done))
  have s0_b1 : w10.cell? ⟨w.heap.size + 1, 1, none⟩ = some (.int .i64 a1_1) := pw_cell_below hb (by first | assumption | (go_simp; done))
  have s0_b2 : w10.cell? ⟨w.heap.size + 1, 2, none⟩ = some (.int .i64 a1_2) := pw_cell_below hb (by first | assumption | (go_simp; done))
  have HB0 := Aside0.mk (below_into (w := w) hb (by repeat (first | exact Below.refl _ _ | refine below_alloc ?_ _ | refine below_drew1 ?_ | refine pw_below_drewN ?_ _)))
  clear hb
  by_cases h0 : l0_0 = l1_0
  · rw [← same_true h0]
    have E0 := Aside0.mk h0
    clear h0
    by_cases h1 : a0_1 = a1_1
    · have hb1 : (a0_1 != a1_1) = false := by rw [h1]; simp
      have E1 := Aside0.mk h1
      clear h1
      by_cases h2 : a0_2 = a1_2
      · have hb2 : (a0_2 != a1_2) = false := by rw [h2]; simp
        have E2 := Aside0.mk h2
        clear h2
        go_wp2
        go_ret
        exact ⟨ret_bool (same_true (by rw [E0.out, E1.out, E2.out])), HB0.out⟩
      · have hb2 : (a0_2 != a1_2) = true := by simpa using h2
        have E2 := Aside0.mk h2
        clear h2
        go_wp2
        go_ret
        exact ⟨ret_bool (same_false (fun h => E2.out (congrArg (fun x : S26 => x.f2) h))), HB0.out⟩
    · have hb1 : (a0_1 != a1_1) = true := by simpa using h1
      have E1 := Aside0.mk h1
      clear h1
      go_wp2
      go_ret
      exact ⟨ret_bool (same_false (fun h => E1.out (congrArg (fun x : S26 => x.f1) h))), HB0.out⟩
  · rw [← same_false h0]
    have E0 := Aside0.mk h0
    clear h0
    go_wp2
    go_ret
    exact ⟨ret_bool (same_false (fun h => E0.out (congrArg (fun x : S26 => x.f0) h))), HB0.out⟩

end Go.Proofs.Ytphmnkcfjgallaa.Q
namespace Go.Proofs.Ytphmnkcfjgallaa.Q
open Go.RowKit Go.Proofs.YtphmnkcfjgallaaW.PrintWords Go.Proofs.YtphmnkcfjgallaaW.PrintLast Go.Proofs.YtphmnkcfjgallaaW.PrintMore
attribute [local go_sem] max2_int min2_int max_two min_two max_three min_three max_four min_four   -- for this text's walks alone
set_option linter.unusedVariables false
set_option linter.unusedSimpArgs false

/-! ### laws_eqLine: function 151 -/
set_option maxHeartbeats 4000000 in
set_option maxRecDepth 100000 in
theorem laws_eqLine.calls (a0_0 : Int) (a0_1 : Int) (a0_2 : Int) (a0_3 : Int) (a0_4 : Int) (a1_0 : Int) (a1_1 : Int) (a1_2 : Int) (a1_3 : Int) (a1_4 : Int) (w : World) :
    Calls Try.prog 151 #[.agg #[.int .i64 a0_0, .int .i64 a0_1, .int .i64 a0_2, .int .i64 a0_3, .int .i64 a0_4], .agg #[.int .i64 a1_0, .int .i64 a1_1, .int .i64 a1_2, .int .i64 a1_3, .int .i64 a1_4]] w fun e w' => e = .returned (.bool (same ((⟨a0_0, a0_1, a0_2, a0_3, a0_4⟩ : S112) : S112) ((⟨a1_0, a1_1, a1_2, a1_3, a1_4⟩ : S112) : S112))) ∧ Below w.heap.size w w' := by
  by_cases h0 : a0_0 = a1_0
  · have hb0 : (a0_0 != a1_0) = false := by rw [h0]; simp
    have E0 := Aside0.mk h0
    clear h0
    by_cases h1 : a0_1 = a1_1
    · have hb1 : (a0_1 != a1_1) = false := by rw [h1]; simp
      have E1 := Aside0.mk h1
      clear h1
      by_cases h2 : a0_2 = a1_2
      · have hb2 : (a0_2 != a1_2) = false := by rw [h2]; simp
        have E2 := Aside0.mk h2
        clear h2
        by_cases h3 : a0_3 = a1_3
        · have hb3 : (a0_3 != a1_3) = false := by rw [h3]; simp
          have E3 := Aside0.mk h3
          clear h3
          by_cases h4 : a0_4 = a1_4
          · have hb4 : (a0_4 != a1_4) = false := by rw [h4]; simp
            have E4 := Aside0.mk h4
            clear h4
            go_enter Try.func151, Try.ntmps151
            go_wp2
            go_ret
            exact ⟨ret_bool (same_true (by rw [E0.out, E1.out, E2.out, E3.out, E4.out])), below_two _ _ _⟩
          · have hb4 : (a0_4 != a1_4) = true := by simpa using h4
            have E4 := Aside0.mk h4
            clear h4
            go_enter Try.func151, Try.ntmps151
            go_wp2
            go_ret
            exact ⟨ret_bool (same_false (fun h => E4.out (congrArg (fun x : S112 => x.f4) h))), below_two _ _ _⟩
        · have hb3 : (a0_3 != a1_3) = true := by simpa using h3
          have E3 := Aside0.mk h3
          clear h3
          go_enter Try.func151, Try.ntmps151
          go_wp2
          go_ret
          exact ⟨ret_bool (same_false (fun h => E3.out (congrArg (fun x : S112 => x.f3) h))), below_two _ _ _⟩
      · have hb2 : (a0_2 != a1_2) = true := by simpa using h2
        have E2 := Aside0.mk h2
        clear h2
        go_enter Try.func151, Try.ntmps151
        go_wp2
        go_ret
        exact ⟨ret_bool (same_false (fun h => E2.out (congrArg (fun x : S112 => x.f2) h))), below_two _ _ _⟩
    · have hb1 : (a0_1 != a1_1) = true := by simpa using h1
      have E1 := Aside0.mk h1
      clear h1
      go_enter Try.func151, Try.ntmps151
      go_wp2
      go_ret
      exact ⟨ret_bool (same_false (fun h => E1.out (congrArg (fun x : S112 => x.f1) h))), below_two _ _ _⟩
  · have hb0 : (a0_0 != a1_0) = true := by simpa using h0
    have E0 := Aside0.mk h0
    clear h0
    go_enter Try.func151, Try.ntmps151
    go_wp2
    go_ret
    exact ⟨ret_bool (same_false (fun h => E0.out (congrArg (fun x : S112 => x.f0) h))), below_two _ _ _⟩

end Go.Proofs.Ytphmnkcfjgallaa.Q
namespace Go.Proofs.Ytphmnkcfjgallaa.Q
open Go.RowKit Go.Proofs.YtphmnkcfjgallaaW.PrintWords Go.Proofs.YtphmnkcfjgallaaW.PrintLast Go.Proofs.YtphmnkcfjgallaaW.PrintMore
attribute [local go_sem] max2_int min2_int max_two min_two max_three min_three max_four min_four   -- for this text's walks alone
set_option linter.unusedVariables false
set_option linter.unusedSimpArgs false

/-! ### laws_eqLineS: function 117 -/
set_option maxHeartbeats 4000000 in
set_option maxRecDepth 100000 in
theorem laws_eqLineS.calls (A0 : Option Addr) (c0 : Nat) (l0 : List (S112)) (A1 : Option Addr) (c1 : Nat) (l1 : List (S112)) (w : World) (hr0 : Kd.C k112 w A0 l0.length l0) (hr1 : Kd.C k112 w A1 l1.length l1) :
    Calls Try.prog 117 #[.slice A0 l0.length c0, .slice A1 l1.length c1] w fun e w' => e = .returned (.bool (same l0 l1)) ∧ Below w.heap.size w w' := by
  have hl := hr0.2.1
  have hm := hr1.2.1
  have H0 := Aside0.mk hr0
  have H1 := Aside0.mk hr1
  clear hr0 hr1
  by_cases hlen : l0.length = l1.length
  · have hlb : ((l0.length : Int) != (l1.length : Int)) = false := by rw [hlen]; simp
    have HL := Aside0.mk hlen
    clear hlen
    go_enter Try.func117, Try.ntmps117
    go_wp2
    go_loopw [5] (fun v wr => ∃ i : Int, 0 ≤ i ∧ i ≤ (l0.length : Int) ∧ v = .int .i64 i ∧ Aside0 (Below w.heap.size w wr) ∧ Aside0 (l0.take i.toNat = l1.take i.toNat)) (fun v _ => (l0.length - (intOf v).toNat))
    case atStart => exact ⟨0, by omega, by omega, rfl, ⟨Below.refl _ _⟩, ⟨rfl⟩⟩
    case round =>
      obtain ⟨i, hi0, hi1, rfl, HB, HT⟩ := hrel
      by_cases hlt : i < (l0.length : Int)
      · have hlt2 : i < (l1.length : Int) := by have := HL.out; omega
        obtain ⟨ad, ead, adx0, adx1, adx2, adx3, adx4⟩ := at_T112 (Kd.C_below H0.out HB.out) i hi0 hlt
        obtain ⟨bd, ebd, bdx0, bdx1, bdx2, bdx3, bdx4⟩ := at_T112 (Kd.C_below H1.out HB.out) i hi0 hlt2
        cases ead
        cases ebd
        go_wp2
        go_region_held3 (fun w' => w'.cell? (ad.add (i.toNat * 5)) = some (.int .i64 (rd_T112 l0 i).f0) ∧ w'.cell? ⟨(ad.add (i.toNat * 5)).block, (ad.add (i.toNat * 5)).off + 1, none⟩ = some (.int .i64 (rd_T112 l0 i).f1) ∧ w'.cell? ⟨(ad.add (i.toNat * 5)).block, (ad.add (i.toNat * 5)).off + 2, none⟩ = some (.int .i64 (rd_T112 l0 i).f2) ∧ w'.cell? ⟨(ad.add (i.toNat * 5)).block, (ad.add (i.toNat * 5)).off + 3, none⟩ = some (.int .i64 (rd_T112 l0 i).f3) ∧ w'.cell? ⟨(ad.add (i.toNat * 5)).block, (ad.add (i.toNat * 5)).off + 4, none⟩ = some (.int .i64 (rd_T112 l0 i).f4) ∧ w'.cell? (bd.add (i.toNat * 5)) = some (.int .i64 (rd_T112 l1 i).f0) ∧ w'.cell? ⟨(bd.add (i.toNat * 5)).block, (bd.add (i.toNat * 5)).off + 1, none⟩ = some (.int .i64 (rd_T112 l1 i).f1) ∧ w'.cell? ⟨(bd.add (i.toNat * 5)).block, (bd.add (i.toNat * 5)).off + 2, none⟩ = some (.int .i64 (rd_T112 l1 i).f2) ∧ w'.cell? ⟨(bd.add (i.toNat * 5)).block, (bd.add (i.toNat * 5)).off + 3, none⟩ = some (.int .i64 (rd_T112 l1 i).f3) ∧ w'.cell? ⟨(bd.add (i.toNat * 5)).block, (bd.add (i.toNat * 5)).off + 4, none⟩ = some (.int .i64 (rd_T112 l1 i).f4)) ((first | go_keep | exact ⟨pw_cell_below hb (by assumption), pw_cell_below hb (by assumption), pw_cell_below hb (by assumption), pw_cell_below hb (by assumption), pw_cell_below hb (by assumption), pw_cell_below hb (by assumption), pw_cell_below hb (by assumption), pw_cell_below hb (by assumption), pw_cell_below hb (by assumption), pw_cell_below hb (by assumption)⟩))
          ((go_at_call 151; refine (laws_eqLine.calls (rd_T112 l0 i).f0 (rd_T112 l0 i).f1 (rd_T112 l0 i).f2 (rd_T112 l0 i).f3 (rd_T112 l0 i).f4 (rd_T112 l1 i).f0 (rd_T112 l1 i).f1 (rd_T112 l1 i).f2 (rd_T112 l1 i).f3 (rd_T112 l1 i).f4 _ ).mono ?_; rintro e w2 ⟨rfl, hb⟩))
        have HB2 := Aside0.mk (below_into (w := w) hb (by repeat (first | exact HB.out | refine below_drew1 ?_)))
        clear hb
        by_cases he : rd_T112 l0 i = rd_T112 l1 i
        · rw [← same_true (show ((⟨(rd_T112 l0 i).f0, (rd_T112 l0 i).f1, (rd_T112 l0 i).f2, (rd_T112 l0 i).f3, (rd_T112 l0 i).f4⟩ : S112) : S112) = (⟨(rd_T112 l1 i).f0, (rd_T112 l1 i).f1, (rd_T112 l1 i).f2, (rd_T112 l1 i).f3, (rd_T112 l1 i).f4⟩ : S112) from he)]
          go_wp2
          go_roundw
          case rel => exact ⟨i + 1, by omega, by omega, rfl, HB2, ⟨take_step hi0 hlt hlt2 HT.out he⟩⟩
          case measure => simp [intOf]; omega
        · rw [← same_false (show ((⟨(rd_T112 l0 i).f0, (rd_T112 l0 i).f1, (rd_T112 l0 i).f2, (rd_T112 l0 i).f3, (rd_T112 l0 i).f4⟩ : S112) : S112) = (⟨(rd_T112 l1 i).f0, (rd_T112 l1 i).f1, (rd_T112 l1 i).f2, (rd_T112 l1 i).f3, (rd_T112 l1 i).f4⟩ : S112) → False from he)]
          go_wp2
          go_ret
          exact ⟨ret_bool (same_false (fun h => he (by rw [h]))), HB2.out⟩
      · go_wp2
        go_ret
        exact ⟨ret_bool (same_true (take_end HL.out hlt HT.out)), HB.out⟩
  · go_enter Try.func117, Try.ntmps117
    go_wp2
    go_ret
    exact ⟨ret_bool (same_false (fun h => hlen (by rw [h]))), Below.refl _ _⟩

end Go.Proofs.Ytphmnkcfjgallaa.Q
namespace Go.Proofs.Ytphmnkcfjgallaa.Q
open Go.RowKit Go.Proofs.YtphmnkcfjgallaaW.PrintWords Go.Proofs.YtphmnkcfjgallaaW.PrintLast Go.Proofs.YtphmnkcfjgallaaW.PrintMore
attribute [local go_sem] max2_int min2_int max_two min_two max_three min_three max_four min_four   -- for this text's walks alone
set_option linter.unusedVariables false
set_option linter.unusedSimpArgs false

/-! ### laws_eqEntry: function 55 -/
set_option maxHeartbeats 4000000 in
set_option maxRecDepth 100000 in
theorem laws_eqEntry.calls (a0_0 : Int) (a0_1 : Int) (a0_2 : ByteArray) (A0_3 : Option Addr) (c0_3 : Nat) (l0_3 : List (S112)) (a1_0 : Int) (a1_1 : Int) (a1_2 : ByteArray) (A1_3 : Option Addr) (c1_3 : Nat) (l1_3 : List (S112)) (w : World) (hr0_3 : Kd.C k112 w A0_3 l0_3.length l0_3) (hr1_3 : Kd.C k112 w A1_3 l1_3.length l1_3) :
    Calls Try.prog 55 #[.agg #[.int .i64 a0_0, .int .i64 a0_1, .string a0_2, .slice A0_3 l0_3.length c0_3], .agg #[.int .i64 a1_0, .int .i64 a1_1, .string a1_2, .slice A1_3 l1_3.length c1_3]] w fun e w' => e = .returned (.bool (same ((⟨a0_0, a0_1, a0_2, l0_3⟩ : S34) : S34) ((⟨a1_0, a1_1, a1_2, l1_3⟩ : S34) : S34))) ∧ Below w.heap.size w w' := by
  have Hl0_3 := Aside0.mk hr0_3
  clear hr0_3
  have Hl1_3 := Aside0.mk hr1_3
  clear hr1_3
  by_cases h0 : a0_0 = a1_0
  · have hb0 : (a0_0 != a1_0) = false := by rw [h0]; simp
    have E0 := Aside0.mk h0
    clear h0
    by_cases h1 : a0_1 = a1_1
    · have hb1 : (a0_1 != a1_1) = false := by rw [h1]; simp
      have E1 := Aside0.mk h1
      clear h1
      by_cases h2 : a0_2 = a1_2
      · have hb2 : (!a0_2.toList == a1_2.toList) = false := by rw [h2]; simp
        have E2 := Aside0.mk h2
        clear h2
        go_enter Try.func55, Try.ntmps55
        go_wp2_with fail
        refine (laws_eqLineS.calls A0_3 c0_3 l0_3 A1_3 c1_3 l1_3 _ (Kd.C_below Hl0_3.out (by repeat (first | exact Below.refl _ _ | refine below_alloc ?_ _ | refine below_drew1 ?_ | refine pw_below_drewN ?_ _))) (Kd.C_below Hl1_3.out (by repeat (first | exact Below.refl _ _ | refine below_alloc ?_ _ | refine below_drew1 ?_ | refine pw_below_drewN ?_ _)))).mono ?_
        rintro e w13 ⟨rfl, hb⟩
        have HB3 := Aside0.mk (below_into (w := w) hb (by repeat (first | exact Below.refl _ _ | refine below_alloc ?_ _ | refine below_drew1 ?_ | refine pw_below_drewN ?_ _)))
        clear hb
        by_cases h3 : l0_3 = l1_3
        · rw [← same_true h3]
          have E3 := Aside0.mk h3
          clear h3
          go_wp2
          go_ret
          exact ⟨ret_bool (same_true (by rw [E0.out, E1.out, E2.out, E3.out])), HB3.out⟩
        · rw [← same_false h3]
          have E3 := Aside0.mk h3
          clear h3
          go_wp2
          go_ret
          exact ⟨ret_bool (same_false (fun h => E3.out (congrArg (fun x : S34 => x.f3) h))), HB3.out⟩
      · have hb2 : (!a0_2.toList == a1_2.toList) = true := by exact bytes_bne h2
        have E2 := Aside0.mk h2
        clear h2
        go_enter Try.func55, Try.ntmps55
        go_wp2
        go_ret
        exact ⟨ret_bool (same_false (fun h => E2.out (congrArg (fun x : S34 => x.f2) h))), below_two _ _ _⟩
    · have hb1 : (a0_1 != a1_1) = true := by simpa using h1
      have E1 := Aside0.mk h1
      clear h1
      go_enter Try.func55, Try.ntmps55
      go_wp2
      go_ret
      exact ⟨ret_bool (same_false (fun h => E1.out (congrArg (fun x : S34 => x.f1) h))), below_two _ _ _⟩
  · have hb0 : (a0_0 != a1_0) = true := by simpa using h0
    have E0 := Aside0.mk h0
    clear h0
    go_enter Try.func55, Try.ntmps55
    go_wp2
    go_ret
    exact ⟨ret_bool (same_false (fun h => E0.out (congrArg (fun x : S34 => x.f0) h))), below_two _ _ _⟩

end Go.Proofs.Ytphmnkcfjgallaa.Q
namespace Go.Proofs.Ytphmnkcfjgallaa.Q
open Go.RowKit Go.Proofs.YtphmnkcfjgallaaW.PrintWords Go.Proofs.YtphmnkcfjgallaaW.PrintLast Go.Proofs.YtphmnkcfjgallaaW.PrintMore
attribute [local go_sem] max2_int min2_int max_two min_two max_three min_three max_four min_four   -- for this text's walks alone
set_option linter.unusedVariables false
set_option linter.unusedSimpArgs false

/-! ### laws_eqEntryS: function 40 -/
set_option maxHeartbeats 4000000 in
set_option maxRecDepth 100000 in
theorem laws_eqEntryS.calls (A0 : Option Addr) (c0 : Nat) (l0 : List (S34)) (A1 : Option Addr) (c1 : Nat) (l1 : List (S34)) (w : World) (hr0 : Kd.C k34 w A0 l0.length l0) (hr1 : Kd.C k34 w A1 l1.length l1) :
    Calls Try.prog 40 #[.slice A0 l0.length c0, .slice A1 l1.length c1] w fun e w' => e = .returned (.bool (same l0 l1)) ∧ Below w.heap.size w w' := by
  have hl := hr0.2.1
  have hm := hr1.2.1
  have H0 := Aside0.mk hr0
  have H1 := Aside0.mk hr1
  clear hr0 hr1
  by_cases hlen : l0.length = l1.length
  · have hlb : ((l0.length : Int) != (l1.length : Int)) = false := by rw [hlen]; simp
    have HL := Aside0.mk hlen
    clear hlen
    go_enter Try.func40, Try.ntmps40
    go_wp2
    go_loopw [5] (fun v wr => ∃ i : Int, 0 ≤ i ∧ i ≤ (l0.length : Int) ∧ v = .int .i64 i ∧ Aside0 (Below w.heap.size w wr) ∧ Aside0 (l0.take i.toNat = l1.take i.toNat)) (fun v _ => (l0.length - (intOf v).toNat))
    case atStart => exact ⟨0, by omega, by omega, rfl, ⟨Below.refl _ _⟩, ⟨rfl⟩⟩
    case round =>
      obtain ⟨i, hi0, hi1, rfl, HB, HT⟩ := hrel
      by_cases hlt : i < (l0.length : Int)
      · have hlt2 : i < (l1.length : Int) := by have := HL.out; omega
        obtain ⟨ad, uA3, uC3, ead, adx0, adx1, adx2, adx3, adl3, adg3⟩ := at_T34 (Kd.C_below H0.out HB.out) i hi0 hlt
        obtain ⟨bd, vA3, vC3, ebd, bdx0, bdx1, bdx2, bdx3, bdl3, bdg3⟩ := at_T34 (Kd.C_below H1.out HB.out) i hi0 hlt2
        cases ead
        cases ebd
        go_wp2
        go_region_held3 (fun w' => w'.cell? (ad.add (i.toNat * 4)) = some (.int .i64 (rd_T34 l0 i).f0) ∧ w'.cell? ⟨(ad.add (i.toNat * 4)).block, (ad.add (i.toNat * 4)).off + 1, none⟩ = some (.int .i64 (rd_T34 l0 i).f1) ∧ w'.cell? ⟨(ad.add (i.toNat * 4)).block, (ad.add (i.toNat * 4)).off + 2, none⟩ = some (.string (rd_T34 l0 i).f2) ∧ w'.cell? ⟨(ad.add (i.toNat * 4)).block, (ad.add (i.toNat * 4)).off + 3, none⟩ = some (.slice uA3 (rd_T34 l0 i).f3.length uC3) ∧ w'.cell? (bd.add (i.toNat * 4)) = some (.int .i64 (rd_T34 l1 i).f0) ∧ w'.cell? ⟨(bd.add (i.toNat * 4)).block, (bd.add (i.toNat * 4)).off + 1, none⟩ = some (.int .i64 (rd_T34 l1 i).f1) ∧ w'.cell? ⟨(bd.add (i.toNat * 4)).block, (bd.add (i.toNat * 4)).off + 2, none⟩ = some (.string (rd_T34 l1 i).f2) ∧ w'.cell? ⟨(bd.add (i.toNat * 4)).block, (bd.add (i.toNat * 4)).off + 3, none⟩ = some (.slice vA3 (rd_T34 l1 i).f3.length vC3)) ((first | go_keep | exact ⟨pw_cell_below hb (by assumption), pw_cell_below hb (by assumption), pw_cell_below hb (by assumption), pw_cell_below hb (by assumption), pw_cell_below hb (by assumption), pw_cell_below hb (by assumption), pw_cell_below hb (by assumption), pw_cell_below hb (by assumption)⟩))
          ((go_at_call 55; refine (laws_eqEntry.calls (rd_T34 l0 i).f0 (rd_T34 l0 i).f1 (rd_T34 l0 i).f2 uA3 uC3 (rd_T34 l0 i).f3 (rd_T34 l1 i).f0 (rd_T34 l1 i).f1 (rd_T34 l1 i).f2 vA3 vC3 (rd_T34 l1 i).f3 _ (by repeat (first | exact adg3 | refine Kd.C_drew ?_ | refine Kd.C_drewN ?_ _)) (by repeat (first | exact bdg3 | refine Kd.C_drew ?_ | refine Kd.C_drewN ?_ _))).mono ?_; rintro e w2 ⟨rfl, hb⟩))
        have HB2 := Aside0.mk (below_into (w := w) hb (by repeat (first | exact HB.out | refine below_drew1 ?_)))
        clear hb
        by_cases he : rd_T34 l0 i = rd_T34 l1 i
        · rw [← same_true (show ((⟨(rd_T34 l0 i).f0, (rd_T34 l0 i).f1, (rd_T34 l0 i).f2, (rd_T34 l0 i).f3⟩ : S34) : S34) = (⟨(rd_T34 l1 i).f0, (rd_T34 l1 i).f1, (rd_T34 l1 i).f2, (rd_T34 l1 i).f3⟩ : S34) from he)]
          go_wp2
          go_roundw
          case rel => exact ⟨i + 1, by omega, by omega, rfl, HB2, ⟨take_step hi0 hlt hlt2 HT.out he⟩⟩
          case measure => simp [intOf]; omega
        · rw [← same_false (show ((⟨(rd_T34 l0 i).f0, (rd_T34 l0 i).f1, (rd_T34 l0 i).f2, (rd_T34 l0 i).f3⟩ : S34) : S34) = (⟨(rd_T34 l1 i).f0, (rd_T34 l1 i).f1, (rd_T34 l1 i).f2, (rd_T34 l1 i).f3⟩ : S34) → False from he)]
          go_wp2
          go_ret
          exact ⟨ret_bool (same_false (fun h => he (by rw [h]))), HB2.out⟩
      · go_wp2
        go_ret
        exact ⟨ret_bool (same_true (take_end HL.out hlt HT.out)), HB.out⟩
  · go_enter Try.func40, Try.ntmps40
    go_wp2
    go_ret
    exact ⟨ret_bool (same_false (fun h => hlen (by rw [h]))), Below.refl _ _⟩

end Go.Proofs.Ytphmnkcfjgallaa.Q
namespace Go.Proofs.Ytphmnkcfjgallaa.Q
open Go.RowKit Go.Proofs.YtphmnkcfjgallaaW.PrintWords Go.Proofs.YtphmnkcfjgallaaW.PrintLast Go.Proofs.YtphmnkcfjgallaaW.PrintMore
attribute [local go_sem] max2_int min2_int max_two min_two max_three min_three max_four min_four   -- for this text's walks alone
set_option linter.unusedVariables false
set_option linter.unusedSimpArgs false

/-! ### laws_eqLedger: function 51 -/
set_option maxHeartbeats 4000000 in
set_option maxRecDepth 100000 in
theorem laws_eqLedger.calls (A0_0 : Option Addr) (c0_0 : Nat) (l0_0 : List (S34)) (a0_1 : Int) (A1_0 : Option Addr) (c1_0 : Nat) (l1_0 : List (S34)) (a1_1 : Int) (w : World) (hr0_0 : Kd.C k34 w A0_0 l0_0.length l0_0) (hr1_0 : Kd.C k34 w A1_0 l1_0.length l1_0) :
    Calls Try.prog 51 #[.agg #[.slice A0_0 l0_0.length c0_0, .int .i64 a0_1], .agg #[.slice A1_0 l1_0.length c1_0, .int .i64 a1_1]] w fun e w' => e = .returned (.bool (same ((⟨l0_0, a0_1⟩ : S29) : S29) ((⟨l1_0, a1_1⟩ : S29) : S29))) ∧ Below w.heap.size w w' := by
  have Hl0_0 := Aside0.mk hr0_0
  clear hr0_0
  have Hl1_0 := Aside0.mk hr1_0
  clear hr1_0
  go_enter Try.func51, Try.ntmps51
  go_wp2_with fail
  refine (laws_eqEntryS.calls A0_0 c0_0 l0_0 A1_0 c1_0 l1_0 _ (Kd.C_below Hl0_0.out (by repeat (first | exact Below.refl _ _ | refine below_alloc ?_ _ | refine below_drew1 ?_ | refine pw_below_drewN ?_ _))) (Kd.C_below Hl1_0.out (by repeat (first | exact Below.refl _ _ | refine below_alloc ?_ _ | refine below_drew1 ?_ | refine pw_below_drewN ?_ _)))).mono ?_
  rintro e w10 ⟨rfl, hb⟩
  have s0_a1 : w10.cell? ⟨w.heap.size, 1, none⟩ = some (.int .i64 a0_1) := pw_cell_below hb (by first | assumption | (go_simp; done))
  have s0_b1 : w10.cell? ⟨w.heap.size + 1, 1, none⟩ = some (.int .i64 a1_1) := pw_cell_below hb (by first | assumption | (go_simp; done))
  have HB0 := Aside0.mk (below_into (w := w) hb (by repeat (first | exact Below.refl _ _ | refine below_alloc ?_ _ | refine below_drew1 ?_ | refine pw_below_drewN ?_ _)))
  clear hb
  by_cases h0 : l0_0 = l1_0
  · rw [← same_true h0]
    have E0 := Aside0.mk h0
    clear h0
    by_cases h1 : a0_1 = a1_1
    · have hb1 : (a0_1 != a1_1) = false := by rw [h1]; simp
      have E1 := Aside0.mk h1
      clear h1
      go_wp2
      go_ret
      exact ⟨ret_bool (same_true (by rw [E0.out, E1.out])), HB0.out⟩
    · have hb1 : (a0_1 != a1_1) = true := by simpa using h1
      have E1 := Aside0.mk h1
      clear h1
      go_wp2
      go_ret
      exact ⟨ret_bool (same_false (fun h => E1.out (congrArg (fun x : S29 => x.f1) h))), HB0.out⟩
  · rw [← same_false h0]
    have E0 := Aside0.mk h0
    clear h0
    go_wp2
    go_ret
    exact ⟨ret_bool (same_false (fun h => E0.out (congrArg (fun x : S29 => x.f0) h))), HB0.out⟩

end Go.Proofs.Ytphmnkcfjgallaa.Q
namespace Go.Proofs.Ytphmnkcfjgallaa.Q
open Go.RowKit Go.Proofs.YtphmnkcfjgallaaW.PrintWords Go.Proofs.YtphmnkcfjgallaaW.PrintLast Go.Proofs.YtphmnkcfjgallaaW.PrintMore
attribute [local go_sem] max2_int min2_int max_two min_two max_three min_three max_four min_four   -- for this text's walks alone
set_option linter.unusedVariables false
set_option linter.unusedSimpArgs false

/-! ### laws_eqPeriod: function 109 -/
set_option maxHeartbeats 4000000 in
set_option maxRecDepth 100000 in
theorem laws_eqPeriod.calls (a0_0 : Int) (a0_1 : Int) (a1_0 : Int) (a1_1 : Int) (w : World) :
    Calls Try.prog 109 #[.agg #[.int .i64 a0_0, .int .i64 a0_1], .agg #[.int .i64 a1_0, .int .i64 a1_1]] w fun e w' => e = .returned (.bool (same ((⟨a0_0, a0_1⟩ : S133) : S133) ((⟨a1_0, a1_1⟩ : S133) : S133))) ∧ Below w.heap.size w w' := by
  by_cases h0 : a0_0 = a1_0
  · have hb0 : (a0_0 != a1_0) = false := by rw [h0]; simp
    have E0 := Aside0.mk h0
    clear h0
    by_cases h1 : a0_1 = a1_1
    · have hb1 : (a0_1 != a1_1) = false := by rw [h1]; simp
      have E1 := Aside0.mk h1
      clear h1
      go_enter Try.func109, Try.ntmps109
      go_wp2
      go_ret
      exact ⟨ret_bool (same_true (by rw [E0.out, E1.out])), below_two _ _ _⟩
    · have hb1 : (a0_1 != a1_1) = true := by simpa using h1
      have E1 := Aside0.mk h1
      clear h1
      go_enter Try.func109, Try.ntmps109
      go_wp2
      go_ret
      exact ⟨ret_bool (same_false (fun h => E1.out (congrArg (fun x : S133 => x.f1) h))), below_two _ _ _⟩
  · have hb0 : (a0_0 != a1_0) = true := by simpa using h0
    have E0 := Aside0.mk h0
    clear h0
    go_enter Try.func109, Try.ntmps109
    go_wp2
    go_ret
    exact ⟨ret_bool (same_false (fun h => E0.out (congrArg (fun x : S133 => x.f0) h))), below_two _ _ _⟩

end Go.Proofs.Ytphmnkcfjgallaa.Q
namespace Go.Proofs.Ytphmnkcfjgallaa.Q
open Go.RowKit Go.Proofs.YtphmnkcfjgallaaW.PrintWords Go.Proofs.YtphmnkcfjgallaaW.PrintLast Go.Proofs.YtphmnkcfjgallaaW.PrintMore
attribute [local go_sem] max2_int min2_int max_two min_two max_three min_three max_four min_four   -- for this text's walks alone
set_option linter.unusedVariables false
set_option linter.unusedSimpArgs false

/-! ### laws_eqPeriodS: function 42 -/
set_option maxHeartbeats 4000000 in
set_option maxRecDepth 100000 in
theorem laws_eqPeriodS.calls (A0 : Option Addr) (c0 : Nat) (l0 : List (S133)) (A1 : Option Addr) (c1 : Nat) (l1 : List (S133)) (w : World) (hr0 : Kd.C k133 w A0 l0.length l0) (hr1 : Kd.C k133 w A1 l1.length l1) :
    Calls Try.prog 42 #[.slice A0 l0.length c0, .slice A1 l1.length c1] w fun e w' => e = .returned (.bool (same l0 l1)) ∧ Below w.heap.size w w' := by
  have hl := hr0.2.1
  have hm := hr1.2.1
  have H0 := Aside0.mk hr0
  have H1 := Aside0.mk hr1
  clear hr0 hr1
  by_cases hlen : l0.length = l1.length
  · have hlb : ((l0.length : Int) != (l1.length : Int)) = false := by rw [hlen]; simp
    have HL := Aside0.mk hlen
    clear hlen
    go_enter Try.func42, Try.ntmps42
    go_wp2
    go_loopw [5] (fun v wr => ∃ i : Int, 0 ≤ i ∧ i ≤ (l0.length : Int) ∧ v = .int .i64 i ∧ Aside0 (Below w.heap.size w wr) ∧ Aside0 (l0.take i.toNat = l1.take i.toNat)) (fun v _ => (l0.length - (intOf v).toNat))
    case atStart => exact ⟨0, by omega, by omega, rfl, ⟨Below.refl _ _⟩, ⟨rfl⟩⟩
    case round =>
      obtain ⟨i, hi0, hi1, rfl, HB, HT⟩ := hrel
      by_cases hlt : i < (l0.length : Int)
      · have hlt2 : i < (l1.length : Int) := by have := HL.out; omega
        obtain ⟨ad, ead, adx0, adx1⟩ := at_T133 (Kd.C_below H0.out HB.out) i hi0 hlt
        obtain ⟨bd, ebd, bdx0, bdx1⟩ := at_T133 (Kd.C_below H1.out HB.out) i hi0 hlt2
        cases ead
        cases ebd
        go_wp2
        go_region_held3 (fun w' => w'.cell? (ad.add (i.toNat * 2)) = some (.int .i64 (rd_T133 l0 i).f0) ∧ w'.cell? ⟨(ad.add (i.toNat * 2)).block, (ad.add (i.toNat * 2)).off + 1, none⟩ = some (.int .i64 (rd_T133 l0 i).f1) ∧ w'.cell? (bd.add (i.toNat * 2)) = some (.int .i64 (rd_T133 l1 i).f0) ∧ w'.cell? ⟨(bd.add (i.toNat * 2)).block, (bd.add (i.toNat * 2)).off + 1, none⟩ = some (.int .i64 (rd_T133 l1 i).f1)) ((first | go_keep | exact ⟨pw_cell_below hb (by assumption), pw_cell_below hb (by assumption), pw_cell_below hb (by assumption), pw_cell_below hb (by assumption)⟩))
          ((go_at_call 109; refine (laws_eqPeriod.calls (rd_T133 l0 i).f0 (rd_T133 l0 i).f1 (rd_T133 l1 i).f0 (rd_T133 l1 i).f1 _ ).mono ?_; rintro e w2 ⟨rfl, hb⟩))
        have HB2 := Aside0.mk (below_into (w := w) hb (by repeat (first | exact HB.out | refine below_drew1 ?_)))
        clear hb
        by_cases he : rd_T133 l0 i = rd_T133 l1 i
        · rw [← same_true (show ((⟨(rd_T133 l0 i).f0, (rd_T133 l0 i).f1⟩ : S133) : S133) = (⟨(rd_T133 l1 i).f0, (rd_T133 l1 i).f1⟩ : S133) from he)]
          go_wp2
          go_roundw
          case rel => exact ⟨i + 1, by omega, by omega, rfl, HB2, ⟨take_step hi0 hlt hlt2 HT.out he⟩⟩
          case measure => simp [intOf]; omega
        · rw [← same_false (show ((⟨(rd_T133 l0 i).f0, (rd_T133 l0 i).f1⟩ : S133) : S133) = (⟨(rd_T133 l1 i).f0, (rd_T133 l1 i).f1⟩ : S133) → False from he)]
          go_wp2
          go_ret
          exact ⟨ret_bool (same_false (fun h => he (by rw [h]))), HB2.out⟩
      · go_wp2
        go_ret
        exact ⟨ret_bool (same_true (take_end HL.out hlt HT.out)), HB.out⟩
  · go_enter Try.func42, Try.ntmps42
    go_wp2
    go_ret
    exact ⟨ret_bool (same_false (fun h => hlen (by rw [h]))), Below.refl _ _⟩

end Go.Proofs.Ytphmnkcfjgallaa.Q
namespace Go.Proofs.Ytphmnkcfjgallaa.Q
open Go.RowKit Go.Proofs.YtphmnkcfjgallaaW.PrintWords Go.Proofs.YtphmnkcfjgallaaW.PrintLast Go.Proofs.YtphmnkcfjgallaaW.PrintMore
attribute [local go_sem] max2_int min2_int max_two min_two max_three min_three max_four min_four   -- for this text's walks alone
set_option linter.unusedVariables false
set_option linter.unusedSimpArgs false

/-! ### laws_eqBooks: function 33 -/
set_option maxHeartbeats 4000000 in
set_option maxRecDepth 100000 in
theorem laws_eqBooks.calls (A0_0 : Option Addr) (c0_0 : Nat) (l0_0 : List (S131)) (a0_1 : Int) (a0_2 : Int) (A0_3 : Option Addr) (c0_3 : Nat) (l0_3 : List (S34)) (a0_4 : Int) (A0_5 : Option Addr) (c0_5 : Nat) (l0_5 : List (S133)) (a0_6 : Int) (a0_7 : Int) (A1_0 : Option Addr) (c1_0 : Nat) (l1_0 : List (S131)) (a1_1 : Int) (a1_2 : Int) (A1_3 : Option Addr) (c1_3 : Nat) (l1_3 : List (S34)) (a1_4 : Int) (A1_5 : Option Addr) (c1_5 : Nat) (l1_5 : List (S133)) (a1_6 : Int) (a1_7 : Int) (w : World) (hr0_0 : Kd.C k131 w A0_0 l0_0.length l0_0) (hr0_3 : Kd.C k34 w A0_3 l0_3.length l0_3) (hr0_5 : Kd.C k133 w A0_5 l0_5.length l0_5) (hr1_0 : Kd.C k131 w A1_0 l1_0.length l1_0) (hr1_3 : Kd.C k34 w A1_3 l1_3.length l1_3) (hr1_5 : Kd.C k133 w A1_5 l1_5.length l1_5) :
    Calls Try.prog 33 #[.agg #[.slice A0_0 l0_0.length c0_0, .int .i64 a0_1, .int .i64 a0_2, .slice A0_3 l0_3.length c0_3, .int .i64 a0_4, .slice A0_5 l0_5.length c0_5, .int .i64 a0_6, .int .i64 a0_7], .agg #[.slice A1_0 l1_0.length c1_0, .int .i64 a1_1, .int .i64 a1_2, .slice A1_3 l1_3.length c1_3, .int .i64 a1_4, .slice A1_5 l1_5.length c1_5, .int .i64 a1_6, .int .i64 a1_7]] w fun e w' => e = .returned (.bool (same ((⟨(⟨l0_0, a0_1, a0_2⟩ : S26), (⟨l0_3, a0_4⟩ : S29), l0_5, a0_6, a0_7⟩ : S50) : S50) ((⟨(⟨l1_0, a1_1, a1_2⟩ : S26), (⟨l1_3, a1_4⟩ : S29), l1_5, a1_6, a1_7⟩ : S50) : S50))) ∧ Below w.heap.size w w' := by
  have Hl0_0 := Aside0.mk hr0_0
  clear hr0_0
  have Hl0_3 := Aside0.mk hr0_3
  clear hr0_3
  have Hl0_5 := Aside0.mk hr0_5
  clear hr0_5
  have Hl1_0 := Aside0.mk hr1_0
  clear hr1_0
  have Hl1_3 := Aside0.mk hr1_3
  clear hr1_3
  have Hl1_5 := Aside0.mk hr1_5
  clear hr1_5
  go_enter Try.func33, Try.ntmps33
  go_wp2_with fail
  refine (laws_eqFrame.calls A0_0 c0_0 l0_0 a0_1 a0_2 A1_0 c1_0 l1_0 a1_1 a1_2 _ (Kd.C_below Hl0_0.out (by repeat (first | exact Below.refl _ _ | refine below_alloc ?_ _ | refine below_drew1 ?_ | refine pw_below_drewN ?_ _))) (Kd.C_below Hl1_0.out (by repeat (first | exact Below.refl _ _ | refine below_alloc ?_ _ | refine below_drew1 ?_ | refine pw_below_drewN ?_ _)))).mono ?_
  rintro e w10 ⟨rfl, hb⟩
  have s0_a3 : w10.cell? ⟨w.heap.size, 3, none⟩ = some (.slice A0_3 l0_3.length c0_3) := pw_cell_below hb (by first | assumption | (go_simp; done))
  have s0_a4 : w10.cell? ⟨w.heap.size, 4, none⟩ = some (.int .i64 a0_4) := pw_cell_below hb (by first | assumption | (go_simp; done))
  have s0_a5 : w10.cell? ⟨w.heap.size, 5, none⟩ = some (.slice A0_5 l0_5.length c0_5) := pw_cell_below hb (by first | assumption | (go_simp; done))
  have s0_a6 : w10.cell? ⟨w.heap.size, 6, none⟩ = some (.int .i64 a0_6) := pw_cell_below hb (by first | assumption | (go_simp; done))
  have s0_a7 : w10.cell? ⟨w.heap.size, 7, none⟩ = some (.int .i64 a0_7) := pw_cell_below hb (by first | assumption | (go_simp; done))
  have s0_b3 : w10.cell? ⟨w.heap.size + 1, 3, none⟩ = some (.slice A1_3 l1_3.length c1_3) := pw_cell_below hb (by first | assumption | (go_simp; done))
  have s0_b4 : w10.cell? ⟨w.heap.size + 1, 4, none⟩ = some (.int .i64 a1_4) := pw_cell_below hb (by first | assumption | (go_simp; done))
  have s0_b5 : w10.cell? ⟨w.heap.size + 1, 5, none⟩ = some (.slice A1_5 l1_5.length c1_5) := pw_cell_below hb (by first | assumption | (go_simp; done))
  have s0_b6 : w10.cell? ⟨w.heap.size + 1, 6, none⟩ = some (.int .i64 a1_6) := pw_cell_below hb (by first | assumption | (go_simp; done))
  have s0_b7 : w10.cell? ⟨w.heap.size + 1, 7, none⟩ = some (.int .i64 a1_7) := pw_cell_below hb (by first | assumption | (go_simp; done))
  have HB0 := Aside0.mk (below_into (w := w) hb (by repeat (first | exact Below.refl _ _ | refine below_alloc ?_ _ | refine below_drew1 ?_ | refine pw_below_drewN ?_ _)))
  clear hb
  by_cases h0 : ((⟨l0_0, a0_1, a0_2⟩ : S26) : S26) = ((⟨l1_0, a1_1, a1_2⟩ : S26) : S26)
  · rw [← same_true h0]
    have E0 := Aside0.mk h0
    clear h0
    go_wp2_with fail
    refine (laws_eqLedger.calls A0_3 c0_3 l0_3 a0_4 A1_3 c1_3 l1_3 a1_4 _ (Kd.C_below Hl0_3.out (by repeat (first | exact HB0.out | refine below_alloc ?_ _ | refine below_drew1 ?_ | refine pw_below_drewN ?_ _))) (Kd.C_below Hl1_3.out (by repeat (first | exact HB0.out | refine below_alloc ?_ _ | refine below_drew1 ?_ | refine pw_below_drewN ?_ _)))).mono ?_
    rintro e w11 ⟨rfl, hb⟩
    have s1_a5 : w11.cell? ⟨w.heap.size, 5, none⟩ = some (.slice A0_5 l0_5.length c0_5) := pw_cell_below hb (by first | assumption | (go_simp; done))
    have s1_a6 : w11.cell? ⟨w.heap.size, 6, none⟩ = some (.int .i64 a0_6) := pw_cell_below hb (by first | assumption | (go_simp; done))
    have s1_a7 : w11.cell? ⟨w.heap.size, 7, none⟩ = some (.int .i64 a0_7) := pw_cell_below hb (by first | assumption | (go_simp; done))
    have s1_b5 : w11.cell? ⟨w.heap.size + 1, 5, none⟩ = some (.slice A1_5 l1_5.length c1_5) := pw_cell_below hb (by first | assumption | (go_simp; done))
    have s1_b6 : w11.cell? ⟨w.heap.size + 1, 6, none⟩ = some (.int .i64 a1_6) := pw_cell_below hb (by first | assumption | (go_simp; done))
    have s1_b7 : w11.cell? ⟨w.heap.size + 1, 7, none⟩ = some (.int .i64 a1_7) := pw_cell_below hb (by first | assumption | (go_simp; done))
    have HB1 := Aside0.mk (below_into (w := w) hb (by repeat (first | exact HB0.out | refine below_alloc ?_ _ | refine below_drew1 ?_ | refine pw_below_drewN ?_ _)))
    clear hb
    by_cases h1 : ((⟨l0_3, a0_4⟩ : S29) : S29) = ((⟨l1_3, a1_4⟩ : S29) : S29)
    · rw [← same_true h1]
      have E1 := Aside0.mk h1
      clear h1
      go_wp2_with fail
      refine (laws_eqPeriodS.calls A0_5 c0_5 l0_5 A1_5 c1_5 l1_5 _ (Kd.C_below Hl0_5.out (by repeat (first | exact HB1.out | refine below_alloc ?_ _ | refine below_drew1 ?_ | refine pw_below_drewN ?_ _))) (Kd.C_below Hl1_5.out (by repeat (first | exact HB1.out | refine below_alloc ?_ _ | refine below_drew1 ?_ | refine pw_below_drewN ?_ _)))).mono ?_
      rintro e w12 ⟨rfl, hb⟩
      have s2_a6 : w12.cell? ⟨w.heap.size, 6, none⟩ = some (.int .i64 a0_6) := pw_cell_below hb (by first | assumption | (go_simp; done))
      have s2_a7 : w12.cell? ⟨w.heap.size, 7, none⟩ = some (.int .i64 a0_7) := pw_cell_below hb (by first | assumption | (go_simp; done))
      have s2_b6 : w12.cell? ⟨w.heap.size + 1, 6, none⟩ = some (.int .i64 a1_6) := pw_cell_below hb (by first | assumption | (go_simp; done))
      have s2_b7 : w12.cell? ⟨w.heap.size + 1, 7, none⟩ = some (.int .i64 a1_7) := pw_cell_below hb (by first | assumption | (go_simp; done))
      have HB2 := Aside0.mk (below_into (w := w) hb (by repeat (first | exact HB1.out | refine below_alloc ?_ _ | refine below_drew1 ?_ | refine pw_below_drewN ?_ _)))
      clear hb
      by_cases h2 : l0_5 = l1_5
      · rw [← same_true h2]
        have E2 := Aside0.mk h2
        clear h2
        by_cases h3 : a0_6 = a1_6
        · have hb3 : (a0_6 != a1_6) = false := by rw [h3]; simp
          have E3 := Aside0.mk h3
          clear h3
          by_cases h4 : a0_7 = a1_7
          · have hb4 : (a0_7 != a1_7) = false := by rw [h4]; simp
            have E4 := Aside0.mk h4
            clear h4
            go_wp2
            go_ret
            exact ⟨ret_bool (same_true (by rw [E0.out, E1.out, E2.out, E3.out, E4.out])), HB2.out⟩
          · have hb4 : (a0_7 != a1_7) = true := by simpa using h4
            have E4 := Aside0.mk h4
            clear h4
            go_wp2
            go_ret
            exact ⟨ret_bool (same_false (fun h => E4.out (congrArg (fun x : S50 => x.f4) h))), HB2.out⟩
        · have hb3 : (a0_6 != a1_6) = true := by simpa using h3
          have E3 := Aside0.mk h3
          clear h3
          go_wp2
          go_ret
          exact ⟨ret_bool (same_false (fun h => E3.out (congrArg (fun x : S50 => x.f3) h))), HB2.out⟩
      · rw [← same_false h2]
        have E2 := Aside0.mk h2
        clear h2
        go_wp2
        go_ret
        exact ⟨ret_bool (same_false (fun h => E2.out (congrArg (fun x : S50 => x.f2) h))), HB2.out⟩
    · rw [← same_false h1]
      have E1 := Aside0.mk h1
      clear h1
      go_wp2
      go_ret
      exact ⟨ret_bool (same_false (fun h => E1.out (congrArg (fun x : S50 => x.f1) h))), HB1.out⟩
  · rw [← same_false h0]
    have E0 := Aside0.mk h0
    clear h0
    go_wp2
    go_ret
    exact ⟨ret_bool (same_false (fun h => E0.out (congrArg (fun x : S50 => x.f0) h))), HB0.out⟩

end Go.Proofs.Ytphmnkcfjgallaa.Q
namespace Go.Proofs.Ytphmnkcfjgallaa.Q
open Go.RowKit Go.Proofs.YtphmnkcfjgallaaW.PrintWords Go.Proofs.YtphmnkcfjgallaaW.PrintLast Go.Proofs.YtphmnkcfjgallaaW.PrintMore
attribute [local go_sem] max2_int min2_int max_two min_two max_three min_three max_four min_four   -- for this text's walks alone
set_option linter.unusedVariables false
set_option linter.unusedSimpArgs false

/-! ### laws_szPeriodS: function 35 -/
def wf138 (x : S138) : Prop := (Lit.int .i64 x.f0).wf = true ∧ (Lit.int .i64 x.f1).wf = true
set_option maxHeartbeats 4000000 in
set_option maxRecDepth 100000 in
theorem laws_szPeriodS.calls (A0 : Option Addr) (c0 : Nat) (l0 : List (S138)) (a1 : Int) (w : World) (hr0 : Kd.C k138 w A0 l0.length l0) (h0 : 0 ≤ a1) (h1 : a1 ≤ 1048576) (hw : ∀ y ∈ l0, wf138 y) :
    Calls Try.prog 35 #[.slice A0 l0.length c0, .int .i64 a1] w (SzPost w a1 (l0.length ≤ 1048576)) := by
  have hl := hr0.2.1
  have H0 := Aside0.mk hr0
  have HW := Aside0.mk hw
  clear hr0 hw
  by_cases hn : a1 - (l0.length : Int) < 0
  · go_enter Try.func35, Try.ntmps35
    go_wp2_with fail
    go_ret
    exact ⟨-1, rfl, by omega, by omega, fun h => absurd h (by omega), Below.refl _ _⟩
  · go_enter Try.func35, Try.ntmps35
    go_wp2_with fail
    go_ret
    exact ⟨_, rfl, by omega, by omega, fun _ => by omega, Below.refl _ _⟩

end Go.Proofs.Ytphmnkcfjgallaa.Q
namespace Go.Proofs.Ytphmnkcfjgallaa.Q
open Go.RowKit Go.Proofs.YtphmnkcfjgallaaW.PrintWords Go.Proofs.YtphmnkcfjgallaaW.PrintLast Go.Proofs.YtphmnkcfjgallaaW.PrintMore
attribute [local go_sem] max2_int min2_int max_two min_two max_three min_three max_four min_four   -- for this text's walks alone
set_option linter.unusedVariables false
set_option linter.unusedSimpArgs false

/-! ### laws_szAccount: function 141 -/
def wf176 (x : S176) : Prop := x.f0.size ≤ maxLen ∧ (Lit.int .i64 x.f1).wf = true ∧ (Lit.int .i64 x.f2).wf = true
set_option maxHeartbeats 4000000 in
set_option maxRecDepth 100000 in
theorem laws_szAccount.calls (a0_0 : ByteArray) (a0_1 : Int) (a0_2 : Int) (a1 : Int) (w : World) (h0 : 0 ≤ a1) (h1 : a1 ≤ 1048576) (hw : wf176 ((⟨a0_0, a0_1, a0_2⟩ : S176) : S176)) :
    Calls Try.prog 141 #[.agg #[.string a0_0, .int .i64 a0_1, .int .i64 a0_2], .int .i64 a1] w (SzPost w a1 (True)) := by
  unfold wf176 at hw
  obtain ⟨g0, g1, g2⟩ := hw
  replace g0 : a0_0.size ≤ 9223372036854775807 := g0
  by_cases q0 : a1 - (a0_0.size : Int) < 0
  · go_enter Try.func141, Try.ntmps141
    go_wp2_with fail
    go_ret
    exact ⟨-1, rfl, by omega, by omega, fun h => absurd h (by omega), below_alloc (Below.refl _ _) _⟩
  · skip
    go_enter Try.func141, Try.ntmps141
    go_wp2_with fail
    go_ret
    exact ⟨_, rfl, by omega, by omega, fun _ => trivial, below_alloc (Below.refl _ _) _⟩

end Go.Proofs.Ytphmnkcfjgallaa.Q
namespace Go.Proofs.Ytphmnkcfjgallaa.Q
open Go.RowKit Go.Proofs.YtphmnkcfjgallaaW.PrintWords Go.Proofs.YtphmnkcfjgallaaW.PrintLast Go.Proofs.YtphmnkcfjgallaaW.PrintMore
attribute [local go_sem] max2_int min2_int max_two min_two max_three min_three max_four min_four   -- for this text's walks alone
set_option linter.unusedVariables false
set_option linter.unusedSimpArgs false

/-! ### laws_szAccountS: function 102 -/
set_option maxHeartbeats 4000000 in
set_option maxRecDepth 100000 in
theorem laws_szAccountS.calls (A0 : Option Addr) (c0 : Nat) (l0 : List (S176)) (a1 : Int) (w : World) (hr0 : Kd.C k176 w A0 l0.length l0) (h0 : 0 ≤ a1) (h1 : a1 ≤ 1048576) (hw : ∀ y ∈ l0, wf176 y) :
    Calls Try.prog 102 #[.slice A0 l0.length c0, .int .i64 a1] w (SzPost w a1 (l0.length ≤ 1048576)) := by
  have hl := hr0.2.1
  have H0 := Aside0.mk hr0
  have HW := Aside0.mk hw
  clear hr0 hw
  by_cases hn : a1 - (l0.length : Int) < 0
  · go_enter Try.func102, Try.ntmps102
    go_wp2_with fail
    go_ret
    exact ⟨-1, rfl, by omega, by omega, fun h => absurd h (by omega), Below.refl _ _⟩
  · go_enter Try.func102, Try.ntmps102
    go_wp2_with fail
    go_loopw [1, 5] (fun v u wr => ∃ left i : Int, 0 ≤ left ∧ left ≤ a1 - (l0.length : Int) ∧ v = .int .i64 left ∧ 0 ≤ i ∧ i ≤ (l0.length : Int) ∧ u = .int .i64 i ∧ Aside0 (Below w.heap.size w wr) ∧ Aside0 (True)) (fun _ u _ => (l0.length - (intOf u).toNat))
    case atStart => exact ⟨a1 - (l0.length : Int), 0, by omega, by omega, rfl, by omega, by omega, rfl, ⟨Below.refl _ _⟩, ⟨trivial⟩⟩
    case round =>
      obtain ⟨left, i, hL0, hL1, rfl, hi0, hi1, rfl, HB, HT⟩ := hrel
      by_cases hlt : i < (l0.length : Int)
      · obtain ⟨ad, ead, adx0, adx1, adx2⟩ := at_T176 (Kd.C_below H0.out HB.out) i hi0 hlt
        cases ead
        go_wp2_with fail
        refine (laws_szAccount.calls (rd_T176 l0 i).f0 (rd_T176 l0 i).f1 (rd_T176 l0 i).f2 left _ hL0 (by omega) (all_at (z := z176) hi0 hlt HW.out)).mono ?_
        rintro e w2 ⟨r, rfl, hr1, hr2, hr3, hb⟩
        have HR := Aside0.mk hr3
        have HB2 := Aside0.mk (below_into (w := w) hb (by repeat (first | exact HB.out | refine below_drew1 ?_)))
        clear hb hr3
        by_cases hr : r < 0
        · go_wp2_with fail
          go_ret
          exact ⟨-1, rfl, by omega, by omega, fun h => absurd h (by omega), HB2.out⟩
        · go_wp2_with fail
          go_roundw
          case rel => exact ⟨r, i + 1, by omega, by omega, rfl, by omega, by omega, rfl, HB2, ⟨trivial⟩⟩
          case measure => simp [intOf]; omega
      · go_wp2_with fail
        go_ret
        exact ⟨left, rfl, by omega, by omega, fun _ => by omega, HB.out⟩

end Go.Proofs.Ytphmnkcfjgallaa.Q
namespace Go.Proofs.Ytphmnkcfjgallaa.Q
open Go.RowKit Go.Proofs.YtphmnkcfjgallaaW.PrintWords Go.Proofs.YtphmnkcfjgallaaW.PrintLast Go.Proofs.YtphmnkcfjgallaaW.PrintMore
attribute [local go_sem] max2_int min2_int max_two min_two max_three min_three max_four min_four   -- for this text's walks alone
set_option linter.unusedVariables false
set_option linter.unusedSimpArgs false

/-! ### laws_szFrame: function 34 -/
def wf59 (x : S59) : Prop := (x.f0.length ≤ maxLen ∧ ∀ y ∈ x.f0, wf176 y) ∧ (Lit.int .i64 x.f1).wf = true ∧ (Lit.int .i64 x.f2).wf = true
def small59 (x : S59) : Prop := (x.f0.length ≤ 1048576)
set_option maxHeartbeats 4000000 in
set_option maxRecDepth 100000 in
theorem laws_szFrame.calls (A0_0 : Option Addr) (c0_0 : Nat) (l0_0 : List (S176)) (a0_1 : Int) (a0_2 : Int) (a1 : Int) (w : World) (hr0_0 : Kd.C k176 w A0_0 l0_0.length l0_0) (h0 : 0 ≤ a1) (h1 : a1 ≤ 1048576) (hw : wf59 ((⟨l0_0, a0_1, a0_2⟩ : S59) : S59)) :
    Calls Try.prog 34 #[.agg #[.slice A0_0 l0_0.length c0_0, .int .i64 a0_1, .int .i64 a0_2], .int .i64 a1] w (SzPost w a1 (small59 ((⟨l0_0, a0_1, a0_2⟩ : S59) : S59))) := by
  have Hl0_0 := Aside0.mk hr0_0
  clear hr0_0
  unfold wf59 at hw
  obtain ⟨g0, g1, g2⟩ := hw
  go_enter Try.func34, Try.ntmps34
  go_wp2_with fail
  refine (laws_szAccountS.calls A0_0 c0_0 l0_0 a1 _ (Kd.C_below Hl0_0.out (by repeat (first | exact below_alloc (Below.refl _ _) _ | refine below_alloc ?_ _))) (by omega) (by omega) g0.2).mono ?_
  rintro e w10 ⟨r0, rfl, hr1_0, hr2_0, hr3_0, hb⟩
  have s0_1 : w10.cell? ⟨w.heap.size, 1, none⟩ = some (.int .i64 a0_1) := pw_cell_below hb (by first | assumption | (go_simp; done))
  have s0_2 : w10.cell? ⟨w.heap.size, 2, none⟩ = some (.int .i64 a0_2) := pw_cell_below hb (by first | assumption | (go_simp; done))
  have HB0 := Aside0.mk (below_into (w := w) hb (by repeat (first | exact below_alloc (Below.refl _ _) _ | refine below_alloc ?_ _)))
  have HR0 := Aside0.mk hr3_0
  clear hb hr3_0
  by_cases q0 : r0 < 0
  · skip
    go_wp2_with fail
    go_ret
    exact ⟨-1, rfl, by omega, by omega, fun h => absurd h (by omega), HB0.out⟩
  · skip
    go_wp2_with fail
    go_ret
    exact ⟨_, rfl, by omega, by omega, fun _ => by unfold small59; exact (HR0.out (by omega)), HB0.out⟩

end Go.Proofs.Ytphmnkcfjgallaa.Q
namespace Go.Proofs.Ytphmnkcfjgallaa.Q
open Go.RowKit Go.Proofs.YtphmnkcfjgallaaW.PrintWords Go.Proofs.YtphmnkcfjgallaaW.PrintLast Go.Proofs.YtphmnkcfjgallaaW.PrintMore
attribute [local go_sem] max2_int min2_int max_two min_two max_three min_three max_four min_four   -- for this text's walks alone
set_option linter.unusedVariables false
set_option linter.unusedSimpArgs false

/-! ### laws_szLineS: function 118 -/
def wf188 (x : S188) : Prop := (Lit.int .i64 x.f0).wf = true ∧ (Lit.int .i64 x.f1).wf = true ∧ (Lit.int .i64 x.f2).wf = true ∧ (Lit.int .i64 x.f3).wf = true ∧ (Lit.int .i64 x.f4).wf = true
set_option maxHeartbeats 4000000 in
set_option maxRecDepth 100000 in
theorem laws_szLineS.calls (A0 : Option Addr) (c0 : Nat) (l0 : List (S188)) (a1 : Int) (w : World) (hr0 : Kd.C k188 w A0 l0.length l0) (h0 : 0 ≤ a1) (h1 : a1 ≤ 1048576) (hw : ∀ y ∈ l0, wf188 y) :
    Calls Try.prog 118 #[.slice A0 l0.length c0, .int .i64 a1] w (SzPost w a1 (l0.length ≤ 1048576)) := by
  have hl := hr0.2.1
  have H0 := Aside0.mk hr0
  have HW := Aside0.mk hw
  clear hr0 hw
  by_cases hn : a1 - (l0.length : Int) < 0
  · go_enter Try.func118, Try.ntmps118
    go_wp2_with fail
    go_ret
    exact ⟨-1, rfl, by omega, by omega, fun h => absurd h (by omega), Below.refl _ _⟩
  · go_enter Try.func118, Try.ntmps118
    go_wp2_with fail
    go_ret
    exact ⟨_, rfl, by omega, by omega, fun _ => by omega, Below.refl _ _⟩

end Go.Proofs.Ytphmnkcfjgallaa.Q
namespace Go.Proofs.Ytphmnkcfjgallaa.Q
open Go.RowKit Go.Proofs.YtphmnkcfjgallaaW.PrintWords Go.Proofs.YtphmnkcfjgallaaW.PrintLast Go.Proofs.YtphmnkcfjgallaaW.PrintMore
attribute [local go_sem] max2_int min2_int max_two min_two max_three min_three max_four min_four   -- for this text's walks alone
set_option linter.unusedVariables false
set_option linter.unusedSimpArgs false

/-! ### laws_szEntry: function 58 -/
def wf93 (x : S93) : Prop := (Lit.int .i64 x.f0).wf = true ∧ (Lit.int .i64 x.f1).wf = true ∧ x.f2.size ≤ maxLen ∧ (x.f3.length ≤ maxLen ∧ ∀ y ∈ x.f3, wf188 y)
def small93 (x : S93) : Prop := (x.f3.length ≤ 1048576)
set_option maxHeartbeats 4000000 in
set_option maxRecDepth 100000 in
theorem laws_szEntry.calls (a0_0 : Int) (a0_1 : Int) (a0_2 : ByteArray) (A0_3 : Option Addr) (c0_3 : Nat) (l0_3 : List (S188)) (a1 : Int) (w : World) (hr0_3 : Kd.C k188 w A0_3 l0_3.length l0_3) (h0 : 0 ≤ a1) (h1 : a1 ≤ 1048576) (hw : wf93 ((⟨a0_0, a0_1, a0_2, l0_3⟩ : S93) : S93)) :
    Calls Try.prog 58 #[.agg #[.int .i64 a0_0, .int .i64 a0_1, .string a0_2, .slice A0_3 l0_3.length c0_3], .int .i64 a1] w (SzPost w a1 (small93 ((⟨a0_0, a0_1, a0_2, l0_3⟩ : S93) : S93))) := by
  have Hl0_3 := Aside0.mk hr0_3
  clear hr0_3
  unfold wf93 at hw
  obtain ⟨g0, g1, g2, g3⟩ := hw
  replace g2 : a0_2.size ≤ 9223372036854775807 := g2
  by_cases q2 : a1 - (a0_2.size : Int) < 0
  · go_enter Try.func58, Try.ntmps58
    go_wp2_with fail
    go_ret
    exact ⟨-1, rfl, by omega, by omega, fun h => absurd h (by omega), below_alloc (Below.refl _ _) _⟩
  · skip
    go_enter Try.func58, Try.ntmps58
    go_wp2_with fail
    refine (laws_szLineS.calls A0_3 c0_3 l0_3 (a1 - (a0_2.size : Int)) _ (Kd.C_below Hl0_3.out (by repeat (first | exact below_alloc (Below.refl _ _) _ | refine below_alloc ?_ _))) (by omega) (by omega) g3.2).mono ?_
    rintro e w13 ⟨r3, rfl, hr1_3, hr2_3, hr3_3, hb⟩
    have HB3 := Aside0.mk (below_into (w := w) hb (by repeat (first | exact below_alloc (Below.refl _ _) _ | refine below_alloc ?_ _)))
    have HR3 := Aside0.mk hr3_3
    clear hb hr3_3
    by_cases q3 : r3 < 0
    · skip
      go_wp2_with fail
      go_ret
      exact ⟨-1, rfl, by omega, by omega, fun h => absurd h (by omega), HB3.out⟩
    · skip
      go_wp2_with fail
      go_ret
      exact ⟨_, rfl, by omega, by omega, fun _ => by unfold small93; exact (HR3.out (by omega)), HB3.out⟩

end Go.Proofs.Ytphmnkcfjgallaa.Q
namespace Go.Proofs.Ytphmnkcfjgallaa.Q
open Go.RowKit Go.Proofs.YtphmnkcfjgallaaW.PrintWords Go.Proofs.YtphmnkcfjgallaaW.PrintLast Go.Proofs.YtphmnkcfjgallaaW.PrintMore
attribute [local go_sem] max2_int min2_int max_two min_two max_three min_three max_four min_four   -- for this text's walks alone
set_option linter.unusedVariables false
set_option linter.unusedSimpArgs false

/-! ### laws_szEntryS: function 114 -/
set_option maxHeartbeats 4000000 in
set_option maxRecDepth 100000 in
theorem laws_szEntryS.calls (A0 : Option Addr) (c0 : Nat) (l0 : List (S93)) (a1 : Int) (w : World) (hr0 : Kd.C k93 w A0 l0.length l0) (h0 : 0 ≤ a1) (h1 : a1 ≤ 1048576) (hw : ∀ y ∈ l0, wf93 y) :
    Calls Try.prog 114 #[.slice A0 l0.length c0, .int .i64 a1] w (SzPost w a1 (l0.length ≤ 1048576 ∧ ∀ y ∈ l0, small93 y)) := by
  have hl := hr0.2.1
  have H0 := Aside0.mk hr0
  have HW := Aside0.mk hw
  clear hr0 hw
  by_cases hn : a1 - (l0.length : Int) < 0
  · go_enter Try.func114, Try.ntmps114
    go_wp2_with fail
    go_ret
    exact ⟨-1, rfl, by omega, by omega, fun h => absurd h (by omega), Below.refl _ _⟩
  · go_enter Try.func114, Try.ntmps114
    go_wp2_with fail
    go_loopw [1, 5] (fun v u wr => ∃ left i : Int, 0 ≤ left ∧ left ≤ a1 - (l0.length : Int) ∧ v = .int .i64 left ∧ 0 ≤ i ∧ i ≤ (l0.length : Int) ∧ u = .int .i64 i ∧ Aside0 (Below w.heap.size w wr) ∧ Aside0 (∀ y ∈ l0.take i.toNat, small93 y)) (fun _ u _ => (l0.length - (intOf u).toNat))
    case atStart => exact ⟨a1 - (l0.length : Int), 0, by omega, by omega, rfl, by omega, by omega, rfl, ⟨Below.refl _ _⟩, ⟨fun y hy => by simp at hy⟩⟩
    case round =>
      obtain ⟨left, i, hL0, hL1, rfl, hi0, hi1, rfl, HB, HT⟩ := hrel
      by_cases hlt : i < (l0.length : Int)
      · obtain ⟨ad, uA3, uC3, ead, adx0, adx1, adx2, adx3, adl3, adg3⟩ := at_T93 (Kd.C_below H0.out HB.out) i hi0 hlt
        cases ead
        go_wp2_with fail
        refine (laws_szEntry.calls (rd_T93 l0 i).f0 (rd_T93 l0 i).f1 (rd_T93 l0 i).f2 uA3 uC3 (rd_T93 l0 i).f3 left _ adg3 hL0 (by omega) (all_at (z := z93) hi0 hlt HW.out)).mono ?_
        rintro e w2 ⟨r, rfl, hr1, hr2, hr3, hb⟩
        have HR := Aside0.mk hr3
        have HB2 := Aside0.mk (below_into (w := w) hb (by repeat (first | exact HB.out | refine below_drew1 ?_)))
        clear hb hr3
        by_cases hr : r < 0
        · go_wp2_with fail
          go_ret
          exact ⟨-1, rfl, by omega, by omega, fun h => absurd h (by omega), HB2.out⟩
        · go_wp2_with fail
          go_roundw
          case rel => exact ⟨r, i + 1, by omega, by omega, rfl, by omega, by omega, rfl, HB2, ⟨all_step (z := z93) hi0 hlt HT.out (HR.out (by omega))⟩⟩
          case measure => simp [intOf]; omega
      · go_wp2_with fail
        go_ret
        exact ⟨left, rfl, by omega, by omega, fun _ => ⟨by omega, all_end (by omega) HT.out⟩, HB.out⟩

end Go.Proofs.Ytphmnkcfjgallaa.Q
namespace Go.Proofs.Ytphmnkcfjgallaa.Q
open Go.RowKit Go.Proofs.YtphmnkcfjgallaaW.PrintWords Go.Proofs.YtphmnkcfjgallaaW.PrintLast Go.Proofs.YtphmnkcfjgallaaW.PrintMore
attribute [local go_sem] max2_int min2_int max_two min_two max_three min_three max_four min_four   -- for this text's walks alone
set_option linter.unusedVariables false
set_option linter.unusedSimpArgs false

/-! ### laws_szLedger: function 47 -/
def wf62 (x : S62) : Prop := (x.f0.length ≤ maxLen ∧ ∀ y ∈ x.f0, wf93 y) ∧ (Lit.int .i64 x.f1).wf = true
def small62 (x : S62) : Prop := (x.f0.length ≤ 1048576 ∧ ∀ y ∈ x.f0, small93 y)
set_option maxHeartbeats 4000000 in
set_option maxRecDepth 100000 in
theorem laws_szLedger.calls (A0_0 : Option Addr) (c0_0 : Nat) (l0_0 : List (S93)) (a0_1 : Int) (a1 : Int) (w : World) (hr0_0 : Kd.C k93 w A0_0 l0_0.length l0_0) (h0 : 0 ≤ a1) (h1 : a1 ≤ 1048576) (hw : wf62 ((⟨l0_0, a0_1⟩ : S62) : S62)) :
    Calls Try.prog 47 #[.agg #[.slice A0_0 l0_0.length c0_0, .int .i64 a0_1], .int .i64 a1] w (SzPost w a1 (small62 ((⟨l0_0, a0_1⟩ : S62) : S62))) := by
  have Hl0_0 := Aside0.mk hr0_0
  clear hr0_0
  unfold wf62 at hw
  obtain ⟨g0, g1⟩ := hw
  go_enter Try.func47, Try.ntmps47
  go_wp2_with fail
  refine (laws_szEntryS.calls A0_0 c0_0 l0_0 a1 _ (Kd.C_below Hl0_0.out (by repeat (first | exact below_alloc (Below.refl _ _) _ | refine below_alloc ?_ _))) (by omega) (by omega) g0.2).mono ?_
  rintro e w10 ⟨r0, rfl, hr1_0, hr2_0, hr3_0, hb⟩
  have s0_1 : w10.cell? ⟨w.heap.size, 1, none⟩ = some (.int .i64 a0_1) := pw_cell_below hb (by first | assumption | (go_simp; done))
  have HB0 := Aside0.mk (below_into (w := w) hb (by repeat (first | exact below_alloc (Below.refl _ _) _ | refine below_alloc ?_ _)))
  have HR0 := Aside0.mk hr3_0
  clear hb hr3_0
  by_cases q0 : r0 < 0
  · skip
    go_wp2_with fail
    go_ret
    exact ⟨-1, rfl, by omega, by omega, fun h => absurd h (by omega), HB0.out⟩
  · skip
    go_wp2_with fail
    go_ret
    exact ⟨_, rfl, by omega, by omega, fun _ => by unfold small62; exact (HR0.out (by omega)), HB0.out⟩

end Go.Proofs.Ytphmnkcfjgallaa.Q
namespace Go.Proofs.Ytphmnkcfjgallaa.Q
open Go.RowKit Go.Proofs.YtphmnkcfjgallaaW.PrintWords Go.Proofs.YtphmnkcfjgallaaW.PrintLast Go.Proofs.YtphmnkcfjgallaaW.PrintMore
attribute [local go_sem] max2_int min2_int max_two min_two max_three min_three max_four min_four   -- for this text's walks alone
set_option linter.unusedVariables false
set_option linter.unusedSimpArgs false

/-! ### laws_szBooks: function 30 -/
def wf65 (x : S65) : Prop := wf59 x.f0 ∧ wf62 x.f1 ∧ (x.f2.length ≤ maxLen ∧ ∀ y ∈ x.f2, wf138 y) ∧ (Lit.int .i64 x.f3).wf = true ∧ (Lit.int .i64 x.f4).wf = true
def small65 (x : S65) : Prop := small59 x.f0 ∧ small62 x.f1 ∧ (x.f2.length ≤ 1048576)
set_option maxHeartbeats 4000000 in
set_option maxRecDepth 100000 in
theorem laws_szBooks.calls (A0_0 : Option Addr) (c0_0 : Nat) (l0_0 : List (S176)) (a0_1 : Int) (a0_2 : Int) (A0_3 : Option Addr) (c0_3 : Nat) (l0_3 : List (S93)) (a0_4 : Int) (A0_5 : Option Addr) (c0_5 : Nat) (l0_5 : List (S138)) (a0_6 : Int) (a0_7 : Int) (a1 : Int) (w : World) (hr0_0 : Kd.C k176 w A0_0 l0_0.length l0_0) (hr0_3 : Kd.C k93 w A0_3 l0_3.length l0_3) (hr0_5 : Kd.C k138 w A0_5 l0_5.length l0_5) (h0 : 0 ≤ a1) (h1 : a1 ≤ 1048576) (hw : wf65 ((⟨(⟨l0_0, a0_1, a0_2⟩ : S59), (⟨l0_3, a0_4⟩ : S62), l0_5, a0_6, a0_7⟩ : S65) : S65)) :
    Calls Try.prog 30 #[.agg #[.slice A0_0 l0_0.length c0_0, .int .i64 a0_1, .int .i64 a0_2, .slice A0_3 l0_3.length c0_3, .int .i64 a0_4, .slice A0_5 l0_5.length c0_5, .int .i64 a0_6, .int .i64 a0_7], .int .i64 a1] w (SzPost w a1 (small65 ((⟨(⟨l0_0, a0_1, a0_2⟩ : S59), (⟨l0_3, a0_4⟩ : S62), l0_5, a0_6, a0_7⟩ : S65) : S65))) := by
  have Hl0_0 := Aside0.mk hr0_0
  clear hr0_0
  have Hl0_3 := Aside0.mk hr0_3
  clear hr0_3
  have Hl0_5 := Aside0.mk hr0_5
  clear hr0_5
  unfold wf65 at hw
  obtain ⟨g0, g1, g2, g3, g4⟩ := hw
  go_enter Try.func30, Try.ntmps30
  go_wp2_with fail
  refine (laws_szFrame.calls A0_0 c0_0 l0_0 a0_1 a0_2 a1 _ (Kd.C_below Hl0_0.out (by repeat (first | exact below_alloc (Below.refl _ _) _ | refine below_alloc ?_ _))) (by omega) (by omega) g0).mono ?_
  rintro e w10 ⟨r0, rfl, hr1_0, hr2_0, hr3_0, hb⟩
  have s0_3 : w10.cell? ⟨w.heap.size, 3, none⟩ = some (.slice A0_3 l0_3.length c0_3) := pw_cell_below hb (by first | assumption | (go_simp; done))
  have s0_4 : w10.cell? ⟨w.heap.size, 4, none⟩ = some (.int .i64 a0_4) := pw_cell_below hb (by first | assumption | (go_simp; done))
  have s0_5 : w10.cell? ⟨w.heap.size, 5, none⟩ = some (.slice A0_5 l0_5.length c0_5) := pw_cell_below hb (by first | assumption | (go_simp; done))
  have s0_6 : w10.cell? ⟨w.heap.size, 6, none⟩ = some (.int .i64 a0_6) := pw_cell_below hb (by first | assumption | (go_simp; done))
  have s0_7 : w10.cell? ⟨w.heap.size, 7, none⟩ = some (.int .i64 a0_7) := pw_cell_below hb (by first | assumption | (go_simp; done))
  have HB0 := Aside0.mk (below_into (w := w) hb (by repeat (first | exact below_alloc (Below.refl _ _) _ | refine below_alloc ?_ _)))
  have HR0 := Aside0.mk hr3_0
  clear hb hr3_0
  by_cases q0 : r0 < 0
  · skip
    go_wp2_with fail
    go_ret
    exact ⟨-1, rfl, by omega, by omega, fun h => absurd h (by omega), HB0.out⟩
  · skip
    go_wp2_with fail
    refine (laws_szLedger.calls A0_3 c0_3 l0_3 a0_4 r0 _ (Kd.C_below Hl0_3.out (by repeat (first | exact HB0.out | refine below_alloc ?_ _))) (by omega) (by omega) g1).mono ?_
    rintro e w11 ⟨r1, rfl, hr1_1, hr2_1, hr3_1, hb⟩
    have s1_5 : w11.cell? ⟨w.heap.size, 5, none⟩ = some (.slice A0_5 l0_5.length c0_5) := pw_cell_below hb (by first | assumption | (go_simp; done))
    have s1_6 : w11.cell? ⟨w.heap.size, 6, none⟩ = some (.int .i64 a0_6) := pw_cell_below hb (by first | assumption | (go_simp; done))
    have s1_7 : w11.cell? ⟨w.heap.size, 7, none⟩ = some (.int .i64 a0_7) := pw_cell_below hb (by first | assumption | (go_simp; done))
    have HB1 := Aside0.mk (below_into (w := w) hb (by repeat (first | exact HB0.out | refine below_alloc ?_ _)))
    have HR1 := Aside0.mk hr3_1
    clear hb hr3_1
    by_cases q1 : r1 < 0
    · skip
      go_wp2_with fail
      go_ret
      exact ⟨-1, rfl, by omega, by omega, fun h => absurd h (by omega), HB1.out⟩
    · skip
      go_wp2_with fail
      refine (laws_szPeriodS.calls A0_5 c0_5 l0_5 r1 _ (Kd.C_below Hl0_5.out (by repeat (first | exact HB1.out | refine below_alloc ?_ _))) (by omega) (by omega) g2.2).mono ?_
      rintro e w12 ⟨r2, rfl, hr1_2, hr2_2, hr3_2, hb⟩
      have s2_6 : w12.cell? ⟨w.heap.size, 6, none⟩ = some (.int .i64 a0_6) := pw_cell_below hb (by first | assumption | (go_simp; done))
      have s2_7 : w12.cell? ⟨w.heap.size, 7, none⟩ = some (.int .i64 a0_7) := pw_cell_below hb (by first | assumption | (go_simp; done))
      have HB2 := Aside0.mk (below_into (w := w) hb (by repeat (first | exact HB1.out | refine below_alloc ?_ _)))
      have HR2 := Aside0.mk hr3_2
      clear hb hr3_2
      by_cases q2 : r2 < 0
      · skip
        go_wp2_with fail
        go_ret
        exact ⟨-1, rfl, by omega, by omega, fun h => absurd h (by omega), HB2.out⟩
      · skip
        go_wp2_with fail
        go_ret
        exact ⟨_, rfl, by omega, by omega, fun _ => by unfold small65; exact ⟨(HR0.out (by omega)), (HR1.out (by omega)), (HR2.out (by omega))⟩, HB2.out⟩

end Go.Proofs.Ytphmnkcfjgallaa.Q
namespace Go.Proofs.Ytphmnkcfjgallaa.Q
open Go.RowKit Go.Proofs.YtphmnkcfjgallaaW.PrintWords Go.Proofs.YtphmnkcfjgallaaW.PrintLast Go.Proofs.YtphmnkcfjgallaaW.PrintMore
set_option linter.unusedVariables false
set_option linter.unusedSimpArgs false
/-! #### the laws' own copies of what came in, told plainly -/
theorem fill_loop {α β : Type} (F : Nat → List α → List β → Int → Option (List β)) (cv : α → β) (z : α) (l : List α) (D : Nat)
    (hstep : ∀ k x i, D ≤ k → 0 ≤ i → i < (l.length : Int) → x.length = l.length → F (k + 1) l x i = F k l (x.set i.toNat (cv (l.getD i.toNat z))) (i + 1))
    (hend : ∀ k x i, (l.length : Int) ≤ i → F (k + 1) l x i = some x) :
    ∀ (n k : Nat) (x : List β) (i : Nat), i + n = l.length → n + D < k → x.length = l.length → x.take i = (l.map cv).take i → F k l x i = some (l.map cv)
  | 0, k, x, i, hi, hk, hx, ht => by
    obtain ⟨m, rfl⟩ : ∃ m, k = m + 1 := ⟨k - 1, by omega⟩
    rw [hend m x i (by omega)]
    rw [List.take_of_length_le (by omega), List.take_of_length_le (by simp; omega)] at ht
    rw [ht]
  | n + 1, k, x, i, hi, hk, hx, ht => by
    obtain ⟨m, rfl⟩ : ∃ m, k = m + 1 := ⟨k - 1, by omega⟩
    rw [hstep m x i (by omega) (by omega) (by omega) hx]
    refine fill_loop F cv z l D hstep hend n m _ (i + 1) (by omega) (by omega) (by simpa using hx) ?_
    have hxi : i < x.length := by omega
    have hli : i < l.length := by omega
    simp only [Int.toNat_natCast]
    rw [List.take_add_one, List.take_add_one, List.take_set, ht, List.getElem?_set_self (by omega), List.getElem?_map, List.getElem?_eq_getElem hli, List.getD_eq_getElem?_getD, List.getElem?_eq_getElem hli]
    rw [List.set_eq_of_length_le (by simp; omega)]
    simp
def cvAccount (x : S176) : S131 := ⟨x.f0, x.f1, x.f2⟩
def cvPeriod (x : S138) : S133 := ⟨x.f0, x.f1⟩
def cvLine (x : S188) : S112 := ⟨x.f0, x.f1, x.f2, x.f3, x.f4⟩
def cvEntry (x : S93) : S34 := ⟨x.f0, x.f1, x.f2, x.f3.map cvLine⟩
theorem laws_toAccountS_is (l : List S176) (k : Nat) (hl : l.length ≤ 1048576) (hk : l.length < k) : laws_toAccountS.f k l = some (l.map cvAccount) := by
  unfold laws_toAccountS.f
  rw [if_pos (by omega), if_pos (by omega)]
  exact fill_loop laws_toAccountS.l0 cvAccount z176 l 0 (fun k x i _ h0 h1 hx => by
    simp only [laws_toAccountS.l0]
    rw [if_pos h1, if_pos h0]
    simp only [laws_toAccount.f, Option.bind_some]
    rw [if_pos (by omega), show wrap64 (i + 1) = i + 1 by unfold wrap64; omega]
    rfl) (fun k x i h => by simp only [laws_toAccountS.l0]; rw [if_neg (by omega)]) l.length k _ 0 (by omega) (by omega) (by simp) (by simp)
theorem laws_toPeriodS_is (l : List S138) (k : Nat) (hl : l.length ≤ 1048576) (hk : l.length < k) : laws_toPeriodS.f k l = some (l.map cvPeriod) := by
  unfold laws_toPeriodS.f
  rw [if_pos (by omega), if_pos (by omega)]
  exact fill_loop laws_toPeriodS.l0 cvPeriod z138 l 0 (fun k x i _ h0 h1 hx => by
    simp only [laws_toPeriodS.l0]
    rw [if_pos h1, if_pos h0]
    simp only [laws_toPeriod.f, Option.bind_some]
    rw [if_pos (by omega), show wrap64 (i + 1) = i + 1 by unfold wrap64; omega]
    rfl) (fun k x i h => by simp only [laws_toPeriodS.l0]; rw [if_neg (by omega)]) l.length k _ 0 (by omega) (by omega) (by simp) (by simp)
theorem laws_toLineS_is (l : List S188) (k : Nat) (hl : l.length ≤ 1048576) (hk : l.length < k) : laws_toLineS.f k l = some (l.map cvLine) := by
  unfold laws_toLineS.f
  rw [if_pos (by omega), if_pos (by omega)]
  exact fill_loop laws_toLineS.l0 cvLine z188 l 0 (fun k x i _ h0 h1 hx => by
    simp only [laws_toLineS.l0]
    rw [if_pos h1, if_pos h0]
    simp only [laws_toLine.f, Option.bind_some]
    rw [if_pos (by omega), show wrap64 (i + 1) = i + 1 by unfold wrap64; omega]
    rfl) (fun k x i h => by simp only [laws_toLineS.l0]; rw [if_neg (by omega)]) l.length k _ 0 (by omega) (by omega) (by simp) (by simp)
theorem laws_toEntry_is (x : S93) (k : Nat) (hs : small93 x) (hk : 1048576 < k) : laws_toEntry.f k x.f0 x.f1 x.f2 x.f3 = some ((cvEntry x).f0, (cvEntry x).f1, (cvEntry x).f2, (cvEntry x).f3) := by
  unfold small93 at hs
  unfold laws_toEntry.f
  rw [laws_toLineS_is x.f3 k hs (by omega)]
  rfl
theorem laws_toEntryS_is (l : List S93) (k : Nat) (hl : l.length ≤ 1048576) (hs : ∀ y ∈ l, small93 y) (hk : l.length + 1048577 < k) : laws_toEntryS.f k l = some (l.map cvEntry) := by
  unfold laws_toEntryS.f
  rw [if_pos (by omega), if_pos (by omega)]
  exact fill_loop laws_toEntryS.l0 cvEntry z93 l 1048577 (fun k x i hD h0 h1 hx => by
    simp only [laws_toEntryS.l0]
    rw [if_pos h1, if_pos h0, laws_toEntry_is (rd_T93 l i) k (all_at (z := z93) h0 h1 hs) (by omega)]
    simp only [Option.bind_some]
    rw [if_pos (by omega), show wrap64 (i + 1) = i + 1 by unfold wrap64; omega]
    rfl) (fun k x i h => by simp only [laws_toEntryS.l0]; rw [if_neg (by omega)]) l.length k _ 0 (by omega) (by omega) (by simp) (by simp)
theorem laws_toFrame_is (l : List S176) (d c : Int) (k : Nat) (hl : l.length ≤ 1048576) (hk : 3000000 ≤ k) : laws_toFrame.f k l d c = some (l.map cvAccount, d, c) := by
  unfold laws_toFrame.f
  rw [laws_toAccountS_is l k hl (by omega)]
  rfl
theorem laws_toLedger_is (l : List S93) (h : Int) (k : Nat) (hl : l.length ≤ 1048576 ∧ ∀ y ∈ l, small93 y) (hk : 3000000 ≤ k) : laws_toLedger.f k l h = some (l.map cvEntry, h) := by
  unfold laws_toLedger.f
  rw [laws_toEntryS_is l k hl.1 hl.2 (by omega)]
  rfl
theorem laws_toBooks_is (l0 : List S176) (d c : Int) (l3 : List S93) (h : Int) (l5 : List S138) (a b : Int) (k : Nat) (hs : small65 (⟨(⟨l0, d, c⟩ : S59), (⟨l3, h⟩ : S62), l5, a, b⟩ : S65)) (hk : 3000000 ≤ k) :
    laws_toBooks.f k l0 d c l3 h l5 a b = some (l0.map cvAccount, d, c, l3.map cvEntry, h, l5.map cvPeriod, a, b) := by
  obtain ⟨h0, h1, h2⟩ := hs
  have h2' : l5.length ≤ 1048576 := h2
  unfold laws_toBooks.f
  rw [laws_toFrame_is l0 d c k h0 hk, laws_toLedger_is l3 h k h1 hk, laws_toPeriodS_is l5 k h2' (by omega)]
  rfl
theorem text_cvAccount {l : List S176} (h : ∀ y ∈ l, wf176 y) : ∀ x ∈ l.map cvAccount, x.f0.size ≤ maxLen := by
  intro x hx
  obtain ⟨y, hy, rfl⟩ := List.mem_map.1 hx
  exact (h y hy).1
theorem text_cvEntry {l : List S93} (h : ∀ y ∈ l, wf93 y) : ∀ x ∈ l.map cvEntry, x.f2.size ≤ maxLen := by
  intro x hx
  obtain ⟨y, hy, rfl⟩ := List.mem_map.1 hx
  exact (h y hy).2.2.1

end Go.Proofs.Ytphmnkcfjgallaa.Q
namespace Go.Proofs.Ytphmnkcfjgallaa.Q
open Go.RowKit Go.Proofs.YtphmnkcfjgallaaW.PrintWords Go.Proofs.YtphmnkcfjgallaaW.PrintLast Go.Proofs.YtphmnkcfjgallaaW.PrintMore
set_option linter.unusedVariables false
set_option linter.unusedSimpArgs false
def Iv (a b : Nat) (k : Nat) : Prop := a ≤ k ∧ k < b
section
variable {α : Type} {d : Kd α} {e a b a' b' base n : Nat} {w w1 W W' : World} {v : Value} {l l' : List α}
theorem R_iv (h : d.R e w1 w.heap.size (fun _ => True) v l) : d.R e w1 w.heap.size (Iv w.heap.size w1.heap.size) v l := Kd.R_mono (Kd.R_bound h) (fun _ hk => ⟨hk.2.1, hk.2.2.1⟩)
theorem S_iv (h : Kd.S d e w1 w.heap.size (fun _ => True) v l) : Kd.S d e w1 w.heap.size (Iv w.heap.size w1.heap.size) v l := Kd.S_mono (Kd.S_bound h) (fun _ hk => ⟨hk.2.1, hk.2.2.1⟩)
theorem R_iv_lower (h : d.R e w1 a (Iv a b) v l) (h1 : a' ≤ a) (h2 : b ≤ b') : d.R e w1 a' (Iv a' b') v l := Kd.R_mono (Kd.R_lower h h1) (fun _ hk => ⟨Nat.le_trans h1 hk.1, Nat.lt_of_lt_of_le hk.2 h2⟩)
theorem S_iv_lower (h : Kd.S d e w1 a (Iv a b) v l) (h1 : a' ≤ a) (h2 : b ≤ b') : Kd.S d e w1 a' (Iv a' b') v l := Kd.S_mono (Kd.S_lower h h1) (fun _ hk => ⟨Nat.le_trans h1 hk.1, Nat.lt_of_lt_of_le hk.2 h2⟩)
theorem R_iv_kept (h : d.R e W base (Iv a b) v l) (hk : Kept W W' (Iv a' b')) (hd : b ≤ a' ∨ b' ≤ a) : d.R e W' base (Iv a b) v l := Kd.R_kept h hk (fun k hk1 hk2 => by have := hk1.1; have := hk1.2; have := hk2.1; have := hk2.2; omega)
theorem S_iv_kept (h : Kd.S d e W base (Iv a b) v l) (hk : Kept W W' (Iv a' b')) (hd : b ≤ a' ∨ b' ≤ a) : Kd.S d e W' base (Iv a b) v l := Kd.S_kept h hk (fun k hk1 hk2 => by have := hk1.1; have := hk1.2; have := hk2.1; have := hk2.2; omega)
theorem cell_iv_kept {p : Addr} {u : Value} (hc : W.cell? p = some u) (hk : Kept W W' (Iv a b)) (hd : p.block < a ∨ b ≤ p.block) : W'.cell? p = some u := cell_kept hc hk (fun h => by have := h.1; have := h.2; omega)
/-- A row of plain elements behind its mark: its blocks are those it had. -/
theorem R_iv_mark (hE : d.E = []) (h : d.R e W base (Iv a b) v l) (h' : d.R e W' base (fun k => Iv a b k ∨ n ≤ k) v l') : d.R e W' base (Iv a b) v l' := Kd.R_mono (Kd.R_tight hE h') (fun k hk => h.1 k hk.symm)
end
def kBig : Nat := 3000000
theorem kBig_le : 3000000 ≤ kBig := Nat.le_refl _

end Go.Proofs.Ytphmnkcfjgallaa.Q
