/- Parts of the proof: what functions of the program and of the reference answer.
   No condition. -/
import Derived.Test.YtphmnkcfjgallaaZShut1
namespace Go.Proofs.Ytphmnkcfjgallaa.Q
open Go.RowKit Go.Proofs.YtphmnkcfjgallaaW.PrintWords Go.Proofs.YtphmnkcfjgallaaW.PrintLast Go.Proofs.YtphmnkcfjgallaaW.PrintMore
attribute [local go_sem] max2_int min2_int max_two min_two max_three min_three max_four min_four   -- for this text's walks alone
set_option linter.unusedVariables false
set_option linter.unusedSimpArgs false
abbrev Per := S133
def perOk (ps : List Per) (i : Int) : Prop := (0 ≤ (rd_T133 ps i).f0 ∧ (rd_T133 ps i).f0 ≤ 40000) ∧ (0 ≤ (rd_T133 ps i).f1 ∧ (rd_T133 ps i).f1 ≤ 40000) ∧ (rd_T133 ps i).f0 ≤ (rd_T133 ps i).f1 ∧ (0 < i → (rd_T133 ps i).f0 = (rd_T133 ps (i - 1)).f1 + 1)
def yearP (ps : List Per) : Prop := (1 ≤ ps.length ∧ ps.length ≤ 60) ∧ ∀ i : Int, 0 ≤ i → i < (ps.length : Int) → perOk ps i
open Classical in
noncomputable def yearB (ps : List Per) : Bool := decide (yearP ps)
open Classical in
theorem yearB_true {ps : List Per} : yearB ps = true ↔ yearP ps := by unfold yearB; rw [decide_eq_true_eq]
theorem yearB_not {ps : List Per} (h : ¬ yearP ps) : false = yearB ps := by
  cases hb : yearB ps with
  | false => rfl
  | true => exact absurd (yearB_true.1 hb) h
theorem per_step {ps : List Per} {i : Int} (h : ∀ j : Int, 0 ≤ j → j < i → perOk ps j) (hi : perOk ps i) : ∀ j : Int, 0 ≤ j → j < i + 1 → perOk ps j := by
  intro j h0 h1
  by_cases e : j = i
  · subst e; exact hi
  · exact h j h0 (by omega)
set_option maxHeartbeats 16000000 in
set_option maxRecDepth 100000 in
theorem spec_l6Year.to (A0 : Option Addr) (c0 : Nat) (l0 : List Per) (w : World) (hr0 : Kd.C k133 w A0 l0.length l0) :
    Calls Try.prog 98 #[.slice A0 l0.length c0] w fun x w' => x = .returned (.bool (yearB l0)) ∧ Below w.heap.size w w' := by
  have hl0 := hr0.2.1
  have H0 := Aside0.mk hr0
  clear hr0
  go_enter Try.func98, Try.ntmps98
  go_wp2_with fail
  go_loopw [3] (fun v wr => ∃ i : Int, 0 ≤ i ∧ i ≤ (l0.length : Int) ∧ v = .int .i64 i ∧ Aside0 (Below w.heap.size w wr) ∧ Aside0 (∀ j : Int, 0 ≤ j → j < i → perOk l0 j)) (fun v _ => (l0.length - (intOf v).toNat))
  case atStart => exact ⟨0, by omega, by omega, rfl, ⟨Below.refl _ _⟩, ⟨fun j h0 h1 => by omega⟩⟩
  case round =>
    obtain ⟨i, hi0, hi1, rfl, HB, HO⟩ := hrel
    by_cases hlt : i < (l0.length : Int)
    · obtain ⟨ad, e0, x0, x1⟩ := at_T133 (Kd.C_below H0.out HB.out) i hi0 hlt
      cases e0
      have HNO := Aside0.mk (fun (q : ¬ perOk l0 i) => yearB_not (ps := l0) (fun y => q (y.2 i hi0 hlt)))
      generalize hp0 : (rd_T133 l0 i).f0 = p0 at *
      generalize hp1 : (rd_T133 l0 i).f1 = p1 at *
      have HP0 := Aside0.mk hp0
      have HP1 := Aside0.mk hp1
      clear hp0 hp1
      cases h1 : inB p0 0 40000 with
      | false =>
        have C1 := Aside0.mk (fun W => (h1 ▸ spec_l2Day.to p0 W : Calls Try.prog 80 #[.int .i64 p0] W fun e w' => e = .returned (.bool false) ∧ w' = W))
        have HN := Aside0.mk (HNO.out (fun q => inB_false.1 h1 (HP0.out ▸ q.1)))
        clear h1
        go_wp2_with fail
        go_quiet ((go_at_call 80; exact Calls.quiet_of_same (C1.out _)))
        go_wp2_with fail
        go_ret
        exact ⟨ret_bool HN.out, pw_below_drewN HB.out _⟩
      | true =>
        have C1 := Aside0.mk (fun W => (h1 ▸ spec_l2Day.to p0 W : Calls Try.prog 80 #[.int .i64 p0] W fun e w' => e = .returned (.bool true) ∧ w' = W))
        obtain ⟨a0, a1⟩ := inB_true.1 h1
        clear h1
        cases h2 : inB p1 0 40000 with
        | false =>
          have C2 := Aside0.mk (fun W => (h2 ▸ spec_l2Day.to p1 W : Calls Try.prog 80 #[.int .i64 p1] W fun e w' => e = .returned (.bool false) ∧ w' = W))
          have HN := Aside0.mk (HNO.out (fun q => inB_false.1 h2 (HP1.out ▸ q.2.1)))
          clear h2
          go_wp2_with fail
          go_quiet ((go_at_call 80; first | exact Calls.quiet_of_same (C1.out _) | exact Calls.quiet_of_same (C2.out _)))
          go_wp2_with fail
          go_ret
          exact ⟨ret_bool HN.out, pw_below_drewN HB.out _⟩
        | true =>
          have C2 := Aside0.mk (fun W => (h2 ▸ spec_l2Day.to p1 W : Calls Try.prog 80 #[.int .i64 p1] W fun e w' => e = .returned (.bool true) ∧ w' = W))
          obtain ⟨b0, b1⟩ := inB_true.1 h2
          clear h2
          by_cases h3 : p1 < p0
          · have HN := Aside0.mk (HNO.out (fun q => by have := q.2.2.1; rw [HP0.out, HP1.out] at this; omega))
            have h3b : decide (p1 < p0) = true := decide_eq_true h3
            go_wp2_with fail
            go_quiet ((go_at_call 80; first | exact Calls.quiet_of_same (C1.out _) | exact Calls.quiet_of_same (C2.out _)))
            go_wp2_with fail
            go_ret
            exact ⟨ret_bool HN.out, pw_below_drewN HB.out _⟩
          · have h3b : decide (p1 < p0) = false := decide_eq_false h3
            by_cases h4 : 0 < i
            · obtain ⟨j, hj⟩ : ∃ j : Int, j = i - 1 := ⟨_, rfl⟩
              have hj0 : 0 ≤ j := by omega
              have hj1 : j < (l0.length : Int) := by omega
              have hwr : IntKind.i64.wrap (i - 1) = j := by unfold IntKind.wrap; simp [IntKind.bits]; omega
              obtain ⟨bd, e1, y0, y1⟩ := at_T133 (Kd.C_below H0.out HB.out) j hj0 hj1
              obtain rfl : ad = bd := by injection e1
              obtain ⟨m0, m1⟩ := (HO.out j hj0 (by omega)).2.1
              have HJ := Aside0.mk hj
              clear hj
              generalize hq1 : (rd_T133 l0 j).f1 = q1 at *
              have HQ1 := Aside0.mk hq1
              clear hq1
              have hwr2 : IntKind.i64.wrap (q1 + 1) = q1 + 1 := by unfold IntKind.wrap; simp [IntKind.bits]; omega
              have h4b : decide (0 < i) = true := decide_eq_true h4
              by_cases h7 : p0 = q1 + 1
              · have h7b : (p0 != q1 + 1) = false := by rw [h7]; exact bne_self_eq_false' _
                have HO2 := Aside0.mk (per_step HO.out (show perOk l0 i from ⟨by rw [HP0.out]; exact ⟨a0, a1⟩, by rw [HP1.out]; exact ⟨b0, b1⟩, by rw [HP0.out, HP1.out]; omega, fun q => by rw [HP0.out, ← HJ.out, HQ1.out]; exact h7⟩))
                clear h7
                go_wp2_with fail
                go_quiet ((go_at_call 80; first | exact Calls.quiet_of_same (C1.out _) | exact Calls.quiet_of_same (C2.out _)))
                clear hwr hwr2
                go_wp2_with fail
                go_roundw
                case rel => exact ⟨i + 1, by omega, by omega, rfl, ⟨pw_below_drewN HB.out _⟩, HO2⟩
                case measure => simp [intOf]; omega
              · have h7b : (p0 != q1 + 1) = true := bne_iff_ne.2 h7
                have HN := Aside0.mk (HNO.out (fun q => by have := q.2.2.2 h4; rw [HP0.out, ← HJ.out, HQ1.out] at this; exact h7 this))
                clear h7
                go_wp2_with fail
                go_quiet ((go_at_call 80; first | exact Calls.quiet_of_same (C1.out _) | exact Calls.quiet_of_same (C2.out _)))
                clear hwr hwr2
                go_wp2_with fail
                go_ret
                exact ⟨ret_bool HN.out, pw_below_drewN HB.out _⟩
            · have h4b : decide (0 < i) = false := decide_eq_false h4
              have HO2 := Aside0.mk (per_step HO.out (show perOk l0 i from ⟨by rw [HP0.out]; exact ⟨a0, a1⟩, by rw [HP1.out]; exact ⟨b0, b1⟩, by rw [HP0.out, HP1.out]; omega, fun q => absurd q h4⟩))
              go_wp2_with fail
              go_quiet ((go_at_call 80; first | exact Calls.quiet_of_same (C1.out _) | exact Calls.quiet_of_same (C2.out _)))
              go_wp2_with fail
              go_roundw
              case rel => exact ⟨i + 1, by omega, by omega, rfl, ⟨pw_below_drewN HB.out _⟩, HO2⟩
              case measure => simp [intOf]; omega
    · go_wp2_with fail
      refine (spec_l1In.to _ _ _ _).mono ?_
      rintro x w' ⟨rfl, rfl⟩
      cases h5 : inB (l0.length : Int) 1 60 with
      | false =>
        have HN := Aside0.mk (yearB_not (fun q => inB_false.1 h5 (by have := q.1; omega)) : false = yearB l0)
        clear h5
        go_wp2_with fail
        go_ret
        exact ⟨ret_bool HN.out, HB.out⟩
      | true =>
        have h6 := inB_true.1 h5
        have HY := Aside0.mk (yearB_true.2 (show yearP l0 from ⟨by omega, fun j h0 h1 => HO.out j h0 (by omega)⟩))
        clear h5 h6
        go_wp2_with fail
        go_ret
        exact ⟨ret_bool HY.out.symm, HB.out⟩
end Go.Proofs.Ytphmnkcfjgallaa.Q
namespace Go.Proofs.Ytphmnkcfjgallaa.Q
open Go.RowKit Go.Proofs.YtphmnkcfjgallaaW.PrintWords Go.Proofs.YtphmnkcfjgallaaW.PrintLast Go.Proofs.YtphmnkcfjgallaaW.PrintMore
attribute [local go_sem] max2_int min2_int max_two min_two max_three min_three max_four min_four   -- for this text's walks alone
set_option linter.unusedVariables false
set_option linter.unusedSimpArgs false
set_option maxHeartbeats 4000000 in
set_option maxRecDepth 100000 in
theorem laws_eqAccount.calls (a0_0 : ByteArray) (a0_1 : Int) (a0_2 : Int) (a1_0 : ByteArray) (a1_1 : Int) (a1_2 : Int) (w : World) :
    Calls Try.prog 150 #[.agg #[.string a0_0, .int .i64 a0_1, .int .i64 a0_2], .agg #[.string a1_0, .int .i64 a1_1, .int .i64 a1_2]] w fun e w' => e = .returned (.bool (same ((⟨a0_0, a0_1, a0_2⟩ : S131) : S131) ((⟨a1_0, a1_1, a1_2⟩ : S131) : S131))) ∧ Below w.heap.size w w' := by
  by_cases h0 : a0_0 = a1_0
  · have hb0 : (!a0_0.toList == a1_0.toList) = false := by rw [h0]; simp
    have E0 := Aside0.mk h0
    clear h0
    by_cases h1 : a0_1 = a1_1
    · have hb1 : (a0_1 != a1_1) = false := by rw [h1]; simp
      have E1 := Aside0.mk h1
      clear h1
      by_cases h2 : a0_2 = a1_2
      · have hb2 : (a0_2 != a1_2) = false := by rw [h2]; simp
        have E2 := Aside0.mk h2
        clear h2
        go_enter Try.func150, Try.ntmps150
        go_wp2
        go_ret
        exact ⟨ret_bool (same_true (by rw [E0.out, E1.out, E2.out])), below_two _ _ _⟩
      · have hb2 : (a0_2 != a1_2) = true := by simpa using h2
        have E2 := Aside0.mk h2
        clear h2
        go_enter Try.func150, Try.ntmps150
        go_wp2
        go_ret
        exact ⟨ret_bool (same_false (fun h => E2.out (congrArg (fun x : S131 => x.f2) h))), below_two _ _ _⟩
    · have hb1 : (a0_1 != a1_1) = true := by simpa using h1
      have E1 := Aside0.mk h1
      clear h1
      go_enter Try.func150, Try.ntmps150
      go_wp2
      go_ret
      exact ⟨ret_bool (same_false (fun h => E1.out (congrArg (fun x : S131 => x.f1) h))), below_two _ _ _⟩
  · have hb0 : (!a0_0.toList == a1_0.toList) = true := by exact bytes_bne h0
    have E0 := Aside0.mk h0
    clear h0
    go_enter Try.func150, Try.ntmps150
    go_wp2
    go_ret
    exact ⟨ret_bool (same_false (fun h => E0.out (congrArg (fun x : S131 => x.f0) h))), below_two _ _ _⟩
end Go.Proofs.Ytphmnkcfjgallaa.Q
namespace Go.Proofs.Ytphmnkcfjgallaa.Q
open Go.RowKit Go.Proofs.YtphmnkcfjgallaaW.PrintWords Go.Proofs.YtphmnkcfjgallaaW.PrintLast Go.Proofs.YtphmnkcfjgallaaW.PrintMore
attribute [local go_sem] max2_int min2_int max_two min_two max_three min_three max_four min_four   -- for this text's walks alone
set_option linter.unusedVariables false
set_option linter.unusedSimpArgs false
set_option maxHeartbeats 4000000 in
set_option maxRecDepth 100000 in
theorem laws_eqAccountS.calls (A0 : Option Addr) (c0 : Nat) (l0 : List (S131)) (A1 : Option Addr) (c1 : Nat) (l1 : List (S131)) (w : World) (hr0 : Kd.C k131 w A0 l0.length l0) (hr1 : Kd.C k131 w A1 l1.length l1) :
    Calls Try.prog 108 #[.slice A0 l0.length c0, .slice A1 l1.length c1] w fun e w' => e = .returned (.bool (same l0 l1)) ∧ Below w.heap.size w w' := by
  have hl := hr0.2.1
  have hm := hr1.2.1
  have H0 := Aside0.mk hr0
  have H1 := Aside0.mk hr1
  clear hr0 hr1
  by_cases hlen : l0.length = l1.length
  · have hlb : ((l0.length : Int) != (l1.length : Int)) = false := by rw [hlen]; simp
    have HL := Aside0.mk hlen
    clear hlen
    go_enter Try.func108, Try.ntmps108
    go_wp2
    go_loopw [5] (fun v wr => ∃ i : Int, 0 ≤ i ∧ i ≤ (l0.length : Int) ∧ v = .int .i64 i ∧ Aside0 (Below w.heap.size w wr) ∧ Aside0 (l0.take i.toNat = l1.take i.toNat)) (fun v _ => (l0.length - (intOf v).toNat))
    case atStart => exact ⟨0, by omega, by omega, rfl, ⟨Below.refl _ _⟩, ⟨rfl⟩⟩
    case round =>
      obtain ⟨i, hi0, hi1, rfl, HB, HT⟩ := hrel
      by_cases hlt : i < (l0.length : Int)
      · have hlt2 : i < (l1.length : Int) := by have := HL.out; omega
        obtain ⟨ad, ead, adx0, adx1, adx2⟩ := at_T131 (Kd.C_below H0.out HB.out) i hi0 hlt
        obtain ⟨bd, ebd, bdx0, bdx1, bdx2⟩ := at_T131 (Kd.C_below H1.out HB.out) i hi0 hlt2
        cases ead
        cases ebd
        go_wp2
        go_region_held3 (fun w' => w'.cell? (ad.add (i.toNat * 3)) = some (.string (rd_T131 l0 i).f0) ∧ w'.cell? ⟨(ad.add (i.toNat * 3)).block, (ad.add (i.toNat * 3)).off + 1, none⟩ = some (.int .i64 (rd_T131 l0 i).f1) ∧ w'.cell? ⟨(ad.add (i.toNat * 3)).block, (ad.add (i.toNat * 3)).off + 2, none⟩ = some (.int .i64 (rd_T131 l0 i).f2) ∧ w'.cell? (bd.add (i.toNat * 3)) = some (.string (rd_T131 l1 i).f0) ∧ w'.cell? ⟨(bd.add (i.toNat * 3)).block, (bd.add (i.toNat * 3)).off + 1, none⟩ = some (.int .i64 (rd_T131 l1 i).f1) ∧ w'.cell? ⟨(bd.add (i.toNat * 3)).block, (bd.add (i.toNat * 3)).off + 2, none⟩ = some (.int .i64 (rd_T131 l1 i).f2)) ((first | go_keep | exact ⟨pw_cell_below hb (by assumption), pw_cell_below hb (by assumption), pw_cell_below hb (by assumption), pw_cell_below hb (by assumption), pw_cell_below hb (by assumption), pw_cell_below hb (by assumption)⟩))
          ((go_at_call 150; refine (laws_eqAccount.calls (rd_T131 l0 i).f0 (rd_T131 l0 i).f1 (rd_T131 l0 i).f2 (rd_T131 l1 i).f0 (rd_T131 l1 i).f1 (rd_T131 l1 i).f2 _ ).mono ?_; rintro e w2 ⟨rfl, hb⟩))
        have HB2 := Aside0.mk (below_into (w := w) hb (by repeat (first | exact HB.out | refine below_drew1 ?_)))
        clear hb
        by_cases he : rd_T131 l0 i = rd_T131 l1 i
        · rw [← same_true (show ((⟨(rd_T131 l0 i).f0, (rd_T131 l0 i).f1, (rd_T131 l0 i).f2⟩ : S131) : S131) = (⟨(rd_T131 l1 i).f0, (rd_T131 l1 i).f1, (rd_T131 l1 i).f2⟩ : S131) from he)]
          go_wp2
          go_roundw
          case rel => exact ⟨i + 1, by omega, by omega, rfl, HB2, ⟨take_step hi0 hlt hlt2 HT.out he⟩⟩
          case measure => simp [intOf]; omega
        · rw [← same_false (show ((⟨(rd_T131 l0 i).f0, (rd_T131 l0 i).f1, (rd_T131 l0 i).f2⟩ : S131) : S131) = (⟨(rd_T131 l1 i).f0, (rd_T131 l1 i).f1, (rd_T131 l1 i).f2⟩ : S131) → False from he)]
          go_wp2
          go_ret
          exact ⟨ret_bool (same_false (fun h => he (by rw [h]))), HB2.out⟩
      · go_wp2
        go_ret
        exact ⟨ret_bool (same_true (take_end HL.out hlt HT.out)), HB.out⟩
  · go_enter Try.func108, Try.ntmps108
    go_wp2
    go_ret
    exact ⟨ret_bool (same_false (fun h => hlen (by rw [h]))), Below.refl _ _⟩
end Go.Proofs.Ytphmnkcfjgallaa.Q
namespace Go.Proofs.Ytphmnkcfjgallaa.Q
open Go.RowKit Go.Proofs.YtphmnkcfjgallaaW.PrintWords Go.Proofs.YtphmnkcfjgallaaW.PrintLast Go.Proofs.YtphmnkcfjgallaaW.PrintMore
attribute [local go_sem] max2_int min2_int max_two min_two max_three min_three max_four min_four   -- for this text's walks alone
set_option linter.unusedVariables false
set_option linter.unusedSimpArgs false
set_option maxHeartbeats 4000000 in
set_option maxRecDepth 100000 in
theorem laws_eqFrame.calls (A0_0 : Option Addr) (c0_0 : Nat) (l0_0 : List (S131)) (a0_1 : Int) (a0_2 : Int) (A1_0 : Option Addr) (c1_0 : Nat) (l1_0 : List (S131)) (a1_1 : Int) (a1_2 : Int) (w : World) (hr0_0 : Kd.C k131 w A0_0 l0_0.length l0_0) (hr1_0 : Kd.C k131 w A1_0 l1_0.length l1_0) :
    Calls Try.prog 41 #[.agg #[.slice A0_0 l0_0.length c0_0, .int .i64 a0_1, .int .i64 a0_2], .agg #[.slice A1_0 l1_0.length c1_0, .int .i64 a1_1, .int .i64 a1_2]] w fun e w' => e = .returned (.bool (same ((⟨l0_0, a0_1, a0_2⟩ : S26) : S26) ((⟨l1_0, a1_1, a1_2⟩ : S26) : S26))) ∧ Below w.heap.size w w' := by
  have Hl0_0 := Aside0.mk hr0_0
  clear hr0_0
  have Hl1_0 := Aside0.mk hr1_0
  clear hr1_0
  go_enter Try.func41, Try.ntmps41
  go_wp2_with fail
  refine (laws_eqAccountS.calls A0_0 c0_0 l0_0 A1_0 c1_0 l1_0 _ (Kd.C_below Hl0_0.out (by repeat (first | exact Below.refl _ _ | refine below_alloc ?_ _ | refine below_drew1 ?_ | refine pw_below_drewN ?_ _))) (Kd.C_below Hl1_0.out (by repeat (first | exact Below.refl _ _ | refine below_alloc ?_ _ | refine below_drew1 ?_ | refine pw_below_drewN ?_ _)))).mono ?_
  rintro e w10 ⟨rfl, hb⟩
  have s0_a1 : w10.cell? ⟨w.heap.size, 1, none⟩ = some (.int .i64 a0_1) := pw_cell_below hb (by first | assumption | (go_simp; done))
  have s0_a2 : w10.cell? ⟨w.heap.size, 2, none⟩ = some (.int .i64 a0_2) := pw_cell_below hb (by first | assumption | (go_simp; done))
  have s0_b1 : w10.cell? ⟨w.heap.size + 1, 1, none⟩ = some (.int .i64 a1_1) := pw_cell_below hb (by first | assumption | (go_simp; done))
  have s0_b2 : w10.cell? ⟨w.heap.size + 1, 2, none⟩ = some (.int .i64 a1_2) := pw_cell_below hb (by first | assumption | (go_simp; done))
  have HB0 := Aside0.mk (below_into (w := w) hb (by repeat (first | exact Below.refl _ _ | refine below_alloc ?_ _ | refine below_drew1 ?_ | refine pw_below_drewN ?_ _)))
  clear hb
  by_cases h0 : l0_0 = l1_0
  · rw [← same_true h0]
    have E0 := Aside0.mk h0
    clear h0
    by_cases h1 : a0_1 = a1_1
    · have hb1 : (a0_1 != a1_1) = false := by rw [h1]; simp
      have E1 := Aside0.mk h1
      clear h1
      by_cases h2 : a0_2 = a1_2
      · have hb2 : (a0_2 != a1_2) = false := by rw [h2]; simp
        have E2 := Aside0.mk h2
        clear h2
        go_wp2
        go_ret
        exact ⟨ret_bool (same_true (by rw [E0.out, E1.out, E2.out])), HB0.out⟩
      · have hb2 : (a0_2 != a1_2) = true := by simpa using h2
        have E2 := Aside0.mk h2
        clear h2
        go_wp2
        go_ret
        exact ⟨ret_bool (same_false (fun h => E2.out (congrArg (fun x : S26 => x.f2) h))), HB0.out⟩
    · have hb1 : (a0_1 != a1_1) = true := by simpa using h1
      have E1 := Aside0.mk h1
      clear h1
      go_wp2
      go_ret
      exact ⟨ret_bool (same_false (fun h => E1.out (congrArg (fun x : S26 => x.f1) h))), HB0.out⟩
  · rw [← same_false h0]
    have E0 := Aside0.mk h0
    clear h0
    go_wp2
    go_ret
    exact ⟨ret_bool (same_false (fun h => E0.out (congrArg (fun x : S26 => x.f0) h))), HB0.out⟩
end Go.Proofs.Ytphmnkcfjgallaa.Q
namespace Go.Proofs.Ytphmnkcfjgallaa.Q
open Go.RowKit Go.Proofs.YtphmnkcfjgallaaW.PrintWords Go.Proofs.YtphmnkcfjgallaaW.PrintLast Go.Proofs.YtphmnkcfjgallaaW.PrintMore
attribute [local go_sem] max2_int min2_int max_two min_two max_three min_three max_four min_four   -- for this text's walks alone
set_option linter.unusedVariables false
set_option linter.unusedSimpArgs false
set_option maxHeartbeats 4000000 in
set_option maxRecDepth 100000 in
theorem laws_eqLine.calls (a0_0 : Int) (a0_1 : Int) (a0_2 : Int) (a0_3 : Int) (a0_4 : Int) (a1_0 : Int) (a1_1 : Int) (a1_2 : Int) (a1_3 : Int) (a1_4 : Int) (w : World) :
    Calls Try.prog 151 #[.agg #[.int .i64 a0_0, .int .i64 a0_1, .int .i64 a0_2, .int .i64 a0_3, .int .i64 a0_4], .agg #[.int .i64 a1_0, .int .i64 a1_1, .int .i64 a1_2, .int .i64 a1_3, .int .i64 a1_4]] w fun e w' => e = .returned (.bool (same ((⟨a0_0, a0_1, a0_2, a0_3, a0_4⟩ : S112) : S112) ((⟨a1_0, a1_1, a1_2, a1_3, a1_4⟩ : S112) : S112))) ∧ Below w.heap.size w w' := by
  by_cases h0 : a0_0 = a1_0
  · have hb0 : (a0_0 != a1_0) = false := by rw [h0]; simp
    have E0 := Aside0.mk h0
    clear h0
    by_cases h1 : a0_1 = a1_1
    · have hb1 : (a0_1 != a1_1) = false := by rw [h1]; simp
      have E1 := Aside0.mk h1
      clear h1
      by_cases h2 : a0_2 = a1_2
      · have hb2 : (a0_2 != a1_2) = false := by rw [h2]; simp
        have E2 := Aside0.mk h2
        clear h2
        by_cases h3 : a0_3 = a1_3
        · have hb3 : (a0_3 != a1_3) = false := by rw [h3]; simp
          have E3 := Aside0.mk h3
          clear h3
          by_cases h4 : a0_4 = a1_4
          · have hb4 : (a0_4 != a1_4) = false := by rw [h4]; simp
            have E4 := Aside0.mk h4
            clear h4
            go_enter Try.func151, Try.ntmps151
            go_wp2
            go_ret
            exact ⟨ret_bool (same_true (by rw [E0.out, E1.out, E2.out, E3.out, E4.out])), below_two _ _ _⟩
          · have hb4 : (a0_4 != a1_4) = true := by simpa using h4
            have E4 := Aside0.mk h4
            clear h4
            go_enter Try.func151, Try.ntmps151
            go_wp2
            go_ret
            exact ⟨ret_bool (same_false (fun h => E4.out (congrArg (fun x : S112 => x.f4) h))), below_two _ _ _⟩
        · have hb3 : (a0_3 != a1_3) = true := by simpa using h3
          have E3 := Aside0.mk h3
          clear h3
          go_enter Try.func151, Try.ntmps151
          go_wp2
          go_ret
          exact ⟨ret_bool (same_false (fun h => E3.out (congrArg (fun x : S112 => x.f3) h))), below_two _ _ _⟩
      · have hb2 : (a0_2 != a1_2) = true := by simpa using h2
        have E2 := Aside0.mk h2
        clear h2
        go_enter Try.func151, Try.ntmps151
        go_wp2
        go_ret
        exact ⟨ret_bool (same_false (fun h => E2.out (congrArg (fun x : S112 => x.f2) h))), below_two _ _ _⟩
    · have hb1 : (a0_1 != a1_1) = true := by simpa using h1
      have E1 := Aside0.mk h1
      clear h1
      go_enter Try.func151, Try.ntmps151
      go_wp2
      go_ret
      exact ⟨ret_bool (same_false (fun h => E1.out (congrArg (fun x : S112 => x.f1) h))), below_two _ _ _⟩
  · have hb0 : (a0_0 != a1_0) = true := by simpa using h0
    have E0 := Aside0.mk h0
    clear h0
    go_enter Try.func151, Try.ntmps151
    go_wp2
    go_ret
    exact ⟨ret_bool (same_false (fun h => E0.out (congrArg (fun x : S112 => x.f0) h))), below_two _ _ _⟩
end Go.Proofs.Ytphmnkcfjgallaa.Q
namespace Go.Proofs.Ytphmnkcfjgallaa.Q
open Go.RowKit Go.Proofs.YtphmnkcfjgallaaW.PrintWords Go.Proofs.YtphmnkcfjgallaaW.PrintLast Go.Proofs.YtphmnkcfjgallaaW.PrintMore
attribute [local go_sem] max2_int min2_int max_two min_two max_three min_three max_four min_four   -- for this text's walks alone
set_option linter.unusedVariables false
set_option linter.unusedSimpArgs false
set_option maxHeartbeats 4000000 in
set_option maxRecDepth 100000 in
theorem laws_eqLineS.calls (A0 : Option Addr) (c0 : Nat) (l0 : List (S112)) (A1 : Option Addr) (c1 : Nat) (l1 : List (S112)) (w : World) (hr0 : Kd.C k112 w A0 l0.length l0) (hr1 : Kd.C k112 w A1 l1.length l1) :
    Calls Try.prog 117 #[.slice A0 l0.length c0, .slice A1 l1.length c1] w fun e w' => e = .returned (.bool (same l0 l1)) ∧ Below w.heap.size w w' := by
  have hl := hr0.2.1
  have hm := hr1.2.1
  have H0 := Aside0.mk hr0
  have H1 := Aside0.mk hr1
  clear hr0 hr1
  by_cases hlen : l0.length = l1.length
  · have hlb : ((l0.length : Int) != (l1.length : Int)) = false := by rw [hlen]; simp
    have HL := Aside0.mk hlen
    clear hlen
    go_enter Try.func117, Try.ntmps117
    go_wp2
    go_loopw [5] (fun v wr => ∃ i : Int, 0 ≤ i ∧ i ≤ (l0.length : Int) ∧ v = .int .i64 i ∧ Aside0 (Below w.heap.size w wr) ∧ Aside0 (l0.take i.toNat = l1.take i.toNat)) (fun v _ => (l0.length - (intOf v).toNat))
    case atStart => exact ⟨0, by omega, by omega, rfl, ⟨Below.refl _ _⟩, ⟨rfl⟩⟩
    case round =>
      obtain ⟨i, hi0, hi1, rfl, HB, HT⟩ := hrel
      by_cases hlt : i < (l0.length : Int)
      · have hlt2 : i < (l1.length : Int) := by have := HL.out; omega
        obtain ⟨ad, ead, adx0, adx1, adx2, adx3, adx4⟩ := at_T112 (Kd.C_below H0.out HB.out) i hi0 hlt
        obtain ⟨bd, ebd, bdx0, bdx1, bdx2, bdx3, bdx4⟩ := at_T112 (Kd.C_below H1.out HB.out) i hi0 hlt2
        cases ead
        cases ebd
        go_wp2
        go_region_held3 (fun w' => w'.cell? (ad.add (i.toNat * 5)) = some (.int .i64 (rd_T112 l0 i).f0) ∧ w'.cell? ⟨(ad.add (i.toNat * 5)).block, (ad.add (i.toNat * 5)).off + 1, none⟩ = some (.int .i64 (rd_T112 l0 i).f1) ∧ w'.cell? ⟨(ad.add (i.toNat * 5)).block, (ad.add (i.toNat * 5)).off + 2, none⟩ = some (.int .i64 (rd_T112 l0 i).f2) ∧ w'.cell? ⟨(ad.add (i.toNat * 5)).block, (ad.add (i.toNat * 5)).off + 3, none⟩ = some (.int .i64 (rd_T112 l0 i).f3) ∧ w'.cell? ⟨(ad.add (i.toNat * 5)).block, (ad.add (i.toNat * 5)).off + 4, none⟩ = some (.int .i64 (rd_T112 l0 i).f4) ∧ w'.cell? (bd.add (i.toNat * 5)) = some (.int .i64 (rd_T112 l1 i).f0) ∧ w'.cell? ⟨(bd.add (i.toNat * 5)).block, (bd.add (i.toNat * 5)).off + 1, none⟩ = some (.int .i64 (rd_T112 l1 i).f1) ∧ w'.cell? ⟨(bd.add (i.toNat * 5)).block, (bd.add (i.toNat * 5)).off + 2, none⟩ = some (.int .i64 (rd_T112 l1 i).f2) ∧ w'.cell? ⟨(bd.add (i.toNat * 5)).block, (bd.add (i.toNat * 5)).off + 3, none⟩ = some (.int .i64 (rd_T112 l1 i).f3) ∧ w'.cell? ⟨(bd.add (i.toNat * 5)).block, (bd.add (i.toNat * 5)).off + 4, none⟩ = some (.int .i64 (rd_T112 l1 i).f4)) ((first | go_keep | exact ⟨pw_cell_below hb (by assumption), pw_cell_below hb (by assumption), pw_cell_below hb (by assumption), pw_cell_below hb (by assumption), pw_cell_below hb (by assumption), pw_cell_below hb (by assumption), pw_cell_below hb (by assumption), pw_cell_below hb (by assumption), pw_cell_below hb (by assumption), pw_cell_below hb (by assumption)⟩))
          ((go_at_call 151; refine (laws_eqLine.calls (rd_T112 l0 i).f0 (rd_T112 l0 i).f1 (rd_T112 l0 i).f2 (rd_T112 l0 i).f3 (rd_T112 l0 i).f4 (rd_T112 l1 i).f0 (rd_T112 l1 i).f1 (rd_T112 l1 i).f2 (rd_T112 l1 i).f3 (rd_T112 l1 i).f4 _ ).mono ?_; rintro e w2 ⟨rfl, hb⟩))
        have HB2 := Aside0.mk (below_into (w := w) hb (by repeat (first | exact HB.out | refine below_drew1 ?_)))
        clear hb
        by_cases he : rd_T112 l0 i = rd_T112 l1 i
        · rw [← same_true (show ((⟨(rd_T112 l0 i).f0, (rd_T112 l0 i).f1, (rd_T112 l0 i).f2, (rd_T112 l0 i).f3, (rd_T112 l0 i).f4⟩ : S112) : S112) = (⟨(rd_T112 l1 i).f0, (rd_T112 l1 i).f1, (rd_T112 l1 i).f2, (rd_T112 l1 i).f3, (rd_T112 l1 i).f4⟩ : S112) from he)]
          go_wp2
          go_roundw
          case rel => exact ⟨i + 1, by omega, by omega, rfl, HB2, ⟨take_step hi0 hlt hlt2 HT.out he⟩⟩
          case measure => simp [intOf]; omega
        · rw [← same_false (show ((⟨(rd_T112 l0 i).f0, (rd_T112 l0 i).f1, (rd_T112 l0 i).f2, (rd_T112 l0 i).f3, (rd_T112 l0 i).f4⟩ : S112) : S112) = (⟨(rd_T112 l1 i).f0, (rd_T112 l1 i).f1, (rd_T112 l1 i).f2, (rd_T112 l1 i).f3, (rd_T112 l1 i).f4⟩ : S112) → False from he)]
          go_wp2
          go_ret
          exact ⟨ret_bool (same_false (fun h => he (by rw [h]))), HB2.out⟩
      · go_wp2
        go_ret
        exact ⟨ret_bool (same_true (take_end HL.out hlt HT.out)), HB.out⟩
  · go_enter Try.func117, Try.ntmps117
    go_wp2
    go_ret
    exact ⟨ret_bool (same_false (fun h => hlen (by rw [h]))), Below.refl _ _⟩
end Go.Proofs.Ytphmnkcfjgallaa.Q
namespace Go.Proofs.Ytphmnkcfjgallaa.Q
open Go.RowKit Go.Proofs.YtphmnkcfjgallaaW.PrintWords Go.Proofs.YtphmnkcfjgallaaW.PrintLast Go.Proofs.YtphmnkcfjgallaaW.PrintMore
attribute [local go_sem] max2_int min2_int max_two min_two max_three min_three max_four min_four   -- for this text's walks alone
set_option linter.unusedVariables false
set_option linter.unusedSimpArgs false
set_option maxHeartbeats 4000000 in
set_option maxRecDepth 100000 in
theorem laws_eqEntry.calls (a0_0 : Int) (a0_1 : Int) (a0_2 : ByteArray) (A0_3 : Option Addr) (c0_3 : Nat) (l0_3 : List (S112)) (a1_0 : Int) (a1_1 : Int) (a1_2 : ByteArray) (A1_3 : Option Addr) (c1_3 : Nat) (l1_3 : List (S112)) (w : World) (hr0_3 : Kd.C k112 w A0_3 l0_3.length l0_3) (hr1_3 : Kd.C k112 w A1_3 l1_3.length l1_3) :
    Calls Try.prog 55 #[.agg #[.int .i64 a0_0, .int .i64 a0_1, .string a0_2, .slice A0_3 l0_3.length c0_3], .agg #[.int .i64 a1_0, .int .i64 a1_1, .string a1_2, .slice A1_3 l1_3.length c1_3]] w fun e w' => e = .returned (.bool (same ((⟨a0_0, a0_1, a0_2, l0_3⟩ : S34) : S34) ((⟨a1_0, a1_1, a1_2, l1_3⟩ : S34) : S34))) ∧ Below w.heap.size w w' := by
  have Hl0_3 := Aside0.mk hr0_3
  clear hr0_3
  have Hl1_3 := Aside0.mk hr1_3
  clear hr1_3
  by_cases h0 : a0_0 = a1_0
  · have hb0 : (a0_0 != a1_0) = false := by rw [h0]; simp
    have E0 := Aside0.mk h0
    clear h0
    by_cases h1 : a0_1 = a1_1
    · have hb1 : (a0_1 != a1_1) = false := by rw [h1]; simp
      have E1 := Aside0.mk h1
      clear h1
      by_cases h2 : a0_2 = a1_2
      · have hb2 : (!a0_2.toList == a1_2.toList) = false := by rw [h2]; simp
        have E2 := Aside0.mk h2
        clear h2
        go_enter Try.func55, Try.ntmps55
        go_wp2_with fail
        refine (laws_eqLineS.calls A0_3 c0_3 l0_3 A1_3 c1_3 l1_3 _ (Kd.C_below Hl0_3.out (by repeat (first | exact Below.refl _ _ | refine below_alloc ?_ _ | refine below_drew1 ?_ | refine pw_below_drewN ?_ _))) (Kd.C_below Hl1_3.out (by repeat (first | exact Below.refl _ _ | refine below_alloc ?_ _ | refine below_drew1 ?_ | refine pw_below_drewN ?_ _)))).mono ?_
        rintro e w13 ⟨rfl, hb⟩
        have HB3 := Aside0.mk (below_into (w := w) hb (by repeat (first | exact Below.refl _ _ | refine below_alloc ?_ _ | refine below_drew1 ?_ | refine pw_below_drewN ?_ _)))
        clear hb
        by_cases h3 : l0_3 = l1_3
        · rw [← same_true h3]
          have E3 := Aside0.mk h3
          clear h3
          go_wp2
          go_ret
          exact ⟨ret_bool (same_true (by rw [E0.out, E1.out, E2.out, E3.out])), HB3.out⟩
        · rw [← same_false h3]
          have E3 := Aside0.mk h3
          clear h3
          go_wp2
          go_ret
          exact ⟨ret_bool (same_false (fun h => E3.out (congrArg (fun x : S34 => x.f3) h))), HB3.out⟩
      · have hb2 : (!a0_2.toList == a1_2.toList) = true := by exact bytes_bne h2
        have E2 := Aside0.mk h2
        clear h2
        go_enter Try.func55, Try.ntmps55
        go_wp2
        go_ret
        exact ⟨ret_bool (same_false (fun h => E2.out (congrArg (fun x : S34 => x.f2) h))), below_two _ _ _⟩
    · have hb1 : (a0_1 != a1_1) = true := by simpa using h1
      have E1 := Aside0.mk h1
      clear h1
      go_enter Try.func55, Try.ntmps55
      go_wp2
      go_ret
      exact ⟨ret_bool (same_false (fun h => E1.out (congrArg (fun x : S34 => x.f1) h))), below_two _ _ _⟩
  · have hb0 : (a0_0 != a1_0) = true := by simpa using h0
    have E0 := Aside0.mk h0
    clear h0
    go_enter Try.func55, Try.ntmps55
    go_wp2
    go_ret
    exact ⟨ret_bool (same_false (fun h => E0.out (congrArg (fun x : S34 => x.f0) h))), below_two _ _ _⟩
end Go.Proofs.Ytphmnkcfjgallaa.Q
namespace Go.Proofs.Ytphmnkcfjgallaa.Q
open Go.RowKit Go.Proofs.YtphmnkcfjgallaaW.PrintWords Go.Proofs.YtphmnkcfjgallaaW.PrintLast Go.Proofs.YtphmnkcfjgallaaW.PrintMore
attribute [local go_sem] max2_int min2_int max_two min_two max_three min_three max_four min_four   -- for this text's walks alone
set_option linter.unusedVariables false
set_option linter.unusedSimpArgs false
set_option maxHeartbeats 4000000 in
set_option maxRecDepth 100000 in
theorem laws_eqEntryS.calls (A0 : Option Addr) (c0 : Nat) (l0 : List (S34)) (A1 : Option Addr) (c1 : Nat) (l1 : List (S34)) (w : World) (hr0 : Kd.C k34 w A0 l0.length l0) (hr1 : Kd.C k34 w A1 l1.length l1) :
    Calls Try.prog 40 #[.slice A0 l0.length c0, .slice A1 l1.length c1] w fun e w' => e = .returned (.bool (same l0 l1)) ∧ Below w.heap.size w w' := by
  have hl := hr0.2.1
  have hm := hr1.2.1
  have H0 := Aside0.mk hr0
  have H1 := Aside0.mk hr1
  clear hr0 hr1
  by_cases hlen : l0.length = l1.length
  · have hlb : ((l0.length : Int) != (l1.length : Int)) = false := by rw [hlen]; simp
    have HL := Aside0.mk hlen
    clear hlen
    go_enter Try.func40, Try.ntmps40
    go_wp2
    go_loopw [5] (fun v wr => ∃ i : Int, 0 ≤ i ∧ i ≤ (l0.length : Int) ∧ v = .int .i64 i ∧ Aside0 (Below w.heap.size w wr) ∧ Aside0 (l0.take i.toNat = l1.take i.toNat)) (fun v _ => (l0.length - (intOf v).toNat))
    case atStart => exact ⟨0, by omega, by omega, rfl, ⟨Below.refl _ _⟩, ⟨rfl⟩⟩
    case round =>
      obtain ⟨i, hi0, hi1, rfl, HB, HT⟩ := hrel
      by_cases hlt : i < (l0.length : Int)
      · have hlt2 : i < (l1.length : Int) := by have := HL.out; omega
        obtain ⟨ad, uA3, uC3, ead, adx0, adx1, adx2, adx3, adl3, adg3⟩ := at_T34 (Kd.C_below H0.out HB.out) i hi0 hlt
        obtain ⟨bd, vA3, vC3, ebd, bdx0, bdx1, bdx2, bdx3, bdl3, bdg3⟩ := at_T34 (Kd.C_below H1.out HB.out) i hi0 hlt2
        cases ead
        cases ebd
        go_wp2
        go_region_held3 (fun w' => w'.cell? (ad.add (i.toNat * 4)) = some (.int .i64 (rd_T34 l0 i).f0) ∧ w'.cell? ⟨(ad.add (i.toNat * 4)).block, (ad.add (i.toNat * 4)).off + 1, none⟩ = some (.int .i64 (rd_T34 l0 i).f1) ∧ w'.cell? ⟨(ad.add (i.toNat * 4)).block, (ad.add (i.toNat * 4)).off + 2, none⟩ = some (.string (rd_T34 l0 i).f2) ∧ w'.cell? ⟨(ad.add (i.toNat * 4)).block, (ad.add (i.toNat * 4)).off + 3, none⟩ = some (.slice uA3 (rd_T34 l0 i).f3.length uC3) ∧ w'.cell? (bd.add (i.toNat * 4)) = some (.int .i64 (rd_T34 l1 i).f0) ∧ w'.cell? ⟨(bd.add (i.toNat * 4)).block, (bd.add (i.toNat * 4)).off + 1, none⟩ = some (.int .i64 (rd_T34 l1 i).f1) ∧ w'.cell? ⟨(bd.add (i.toNat * 4)).block, (bd.add (i.toNat * 4)).off + 2, none⟩ = some (.string (rd_T34 l1 i).f2) ∧ w'.cell? ⟨(bd.add (i.toNat * 4)).block, (bd.add (i.toNat * 4)).off + 3, none⟩ = some (.slice vA3 (rd_T34 l1 i).f3.length vC3)) ((first | go_keep | exact ⟨pw_cell_below hb (by assumption), pw_cell_below hb (by assumption), pw_cell_below hb (by assumption), pw_cell_below hb (by assumption), pw_cell_below hb (by assumption), pw_cell_below hb (by assumption), pw_cell_below hb (by assumption), pw_cell_below hb (by assumption)⟩))
          ((go_at_call 55; refine (laws_eqEntry.calls (rd_T34 l0 i).f0 (rd_T34 l0 i).f1 (rd_T34 l0 i).f2 uA3 uC3 (rd_T34 l0 i).f3 (rd_T34 l1 i).f0 (rd_T34 l1 i).f1 (rd_T34 l1 i).f2 vA3 vC3 (rd_T34 l1 i).f3 _ (by repeat (first | exact adg3 | refine Kd.C_drew ?_ | refine Kd.C_drewN ?_ _)) (by repeat (first | exact bdg3 | refine Kd.C_drew ?_ | refine Kd.C_drewN ?_ _))).mono ?_; rintro e w2 ⟨rfl, hb⟩))
        have HB2 := Aside0.mk (below_into (w := w) hb (by repeat (first | exact HB.out | refine below_drew1 ?_)))
        clear hb
        by_cases he : rd_T34 l0 i = rd_T34 l1 i
        · rw [← same_true (show ((⟨(rd_T34 l0 i).f0, (rd_T34 l0 i).f1, (rd_T34 l0 i).f2, (rd_T34 l0 i).f3⟩ : S34) : S34) = (⟨(rd_T34 l1 i).f0, (rd_T34 l1 i).f1, (rd_T34 l1 i).f2, (rd_T34 l1 i).f3⟩ : S34) from he)]
          go_wp2
          go_roundw
          case rel => exact ⟨i + 1, by omega, by omega, rfl, HB2, ⟨take_step hi0 hlt hlt2 HT.out he⟩⟩
          case measure => simp [intOf]; omega
        · rw [← same_false (show ((⟨(rd_T34 l0 i).f0, (rd_T34 l0 i).f1, (rd_T34 l0 i).f2, (rd_T34 l0 i).f3⟩ : S34) : S34) = (⟨(rd_T34 l1 i).f0, (rd_T34 l1 i).f1, (rd_T34 l1 i).f2, (rd_T34 l1 i).f3⟩ : S34) → False from he)]
          go_wp2
          go_ret
          exact ⟨ret_bool (same_false (fun h => he (by rw [h]))), HB2.out⟩
      · go_wp2
        go_ret
        exact ⟨ret_bool (same_true (take_end HL.out hlt HT.out)), HB.out⟩
  · go_enter Try.func40, Try.ntmps40
    go_wp2
    go_ret
    exact ⟨ret_bool (same_false (fun h => hlen (by rw [h]))), Below.refl _ _⟩
end Go.Proofs.Ytphmnkcfjgallaa.Q
namespace Go.Proofs.Ytphmnkcfjgallaa.Q
open Go.RowKit Go.Proofs.YtphmnkcfjgallaaW.PrintWords Go.Proofs.YtphmnkcfjgallaaW.PrintLast Go.Proofs.YtphmnkcfjgallaaW.PrintMore
attribute [local go_sem] max2_int min2_int max_two min_two max_three min_three max_four min_four   -- for this text's walks alone
set_option linter.unusedVariables false
set_option linter.unusedSimpArgs false
set_option maxHeartbeats 4000000 in
set_option maxRecDepth 100000 in
theorem laws_eqLedger.calls (A0_0 : Option Addr) (c0_0 : Nat) (l0_0 : List (S34)) (a0_1 : Int) (A1_0 : Option Addr) (c1_0 : Nat) (l1_0 : List (S34)) (a1_1 : Int) (w : World) (hr0_0 : Kd.C k34 w A0_0 l0_0.length l0_0) (hr1_0 : Kd.C k34 w A1_0 l1_0.length l1_0) :
    Calls Try.prog 51 #[.agg #[.slice A0_0 l0_0.length c0_0, .int .i64 a0_1], .agg #[.slice A1_0 l1_0.length c1_0, .int .i64 a1_1]] w fun e w' => e = .returned (.bool (same ((⟨l0_0, a0_1⟩ : S29) : S29) ((⟨l1_0, a1_1⟩ : S29) : S29))) ∧ Below w.heap.size w w' := by
  have Hl0_0 := Aside0.mk hr0_0
  clear hr0_0
  have Hl1_0 := Aside0.mk hr1_0
  clear hr1_0
  go_enter Try.func51, Try.ntmps51
  go_wp2_with fail
  refine (laws_eqEntryS.calls A0_0 c0_0 l0_0 A1_0 c1_0 l1_0 _ (Kd.C_below Hl0_0.out (by repeat (first | exact Below.refl _ _ | refine below_alloc ?_ _ | refine below_drew1 ?_ | refine pw_below_drewN ?_ _))) (Kd.C_below Hl1_0.out (by repeat (first | exact Below.refl _ _ | refine below_alloc ?_ _ | refine below_drew1 ?_ | refine pw_below_drewN ?_ _)))).mono ?_
  rintro e w10 ⟨rfl, hb⟩
  have s0_a1 : w10.cell? ⟨w.heap.size, 1, none⟩ = some (.int .i64 a0_1) := pw_cell_below hb (by first | assumption | (go_simp; done))
  have s0_b1 : w10.cell? ⟨w.heap.size + 1, 1, none⟩ = some (.int .i64 a1_1) := pw_cell_below hb (by first | assumption | (go_simp; done))
  have HB0 := Aside0.mk (below_into (w := w) hb (by repeat (first | exact Below.refl _ _ | refine below_alloc ?_ _ | refine below_drew1 ?_ | refine pw_below_drewN ?_ _)))
  clear hb
  by_cases h0 : l0_0 = l1_0
  · rw [← same_true h0]
    have E0 := Aside0.mk h0
    clear h0
    by_cases h1 : a0_1 = a1_1
    · have hb1 : (a0_1 != a1_1) = false := by rw [h1]; simp
      have E1 := Aside0.mk h1
      clear h1
      go_wp2
      go_ret
      exact ⟨ret_bool (same_true (by rw [E0.out, E1.out])), HB0.out⟩
    · have hb1 : (a0_1 != a1_1) = true := by simpa using h1
      have E1 := Aside0.mk h1
      clear h1
      go_wp2
      go_ret
      exact ⟨ret_bool (same_false (fun h => E1.out (congrArg (fun x : S29 => x.f1) h))), HB0.out⟩
  · rw [← same_false h0]
    have E0 := Aside0.mk h0
    clear h0
    go_wp2
    go_ret
    exact ⟨ret_bool (same_false (fun h => E0.out (congrArg (fun x : S29 => x.f0) h))), HB0.out⟩
end Go.Proofs.Ytphmnkcfjgallaa.Q
namespace Go.Proofs.Ytphmnkcfjgallaa.Q
open Go.RowKit Go.Proofs.YtphmnkcfjgallaaW.PrintWords Go.Proofs.YtphmnkcfjgallaaW.PrintLast Go.Proofs.YtphmnkcfjgallaaW.PrintMore
attribute [local go_sem] max2_int min2_int max_two min_two max_three min_three max_four min_four   -- for this text's walks alone
set_option linter.unusedVariables false
set_option linter.unusedSimpArgs false
set_option maxHeartbeats 4000000 in
set_option maxRecDepth 100000 in
theorem laws_eqPeriod.calls (a0_0 : Int) (a0_1 : Int) (a1_0 : Int) (a1_1 : Int) (w : World) :
    Calls Try.prog 109 #[.agg #[.int .i64 a0_0, .int .i64 a0_1], .agg #[.int .i64 a1_0, .int .i64 a1_1]] w fun e w' => e = .returned (.bool (same ((⟨a0_0, a0_1⟩ : S133) : S133) ((⟨a1_0, a1_1⟩ : S133) : S133))) ∧ Below w.heap.size w w' := by
  by_cases h0 : a0_0 = a1_0
  · have hb0 : (a0_0 != a1_0) = false := by rw [h0]; simp
    have E0 := Aside0.mk h0
    clear h0
    by_cases h1 : a0_1 = a1_1
    · have hb1 : (a0_1 != a1_1) = false := by rw [h1]; simp
      have E1 := Aside0.mk h1
      clear h1
      go_enter Try.func109, Try.ntmps109
      go_wp2
      go_ret
      exact ⟨ret_bool (same_true (by rw [E0.out, E1.out])), below_two _ _ _⟩
    · have hb1 : (a0_1 != a1_1) = true := by simpa using h1
      have E1 := Aside0.mk h1
      clear h1
      go_enter Try.func109, Try.ntmps109
      go_wp2
      go_ret
      exact ⟨ret_bool (same_false (fun h => E1.out (congrArg (fun x : S133 => x.f1) h))), below_two _ _ _⟩
  · have hb0 : (a0_0 != a1_0) = true := by simpa using h0
    have E0 := Aside0.mk h0
    clear h0
    go_enter Try.func109, Try.ntmps109
    go_wp2
    go_ret
    exact ⟨ret_bool (same_false (fun h => E0.out (congrArg (fun x : S133 => x.f0) h))), below_two _ _ _⟩
end Go.Proofs.Ytphmnkcfjgallaa.Q
namespace Go.Proofs.Ytphmnkcfjgallaa.Q
open Go.RowKit Go.Proofs.YtphmnkcfjgallaaW.PrintWords Go.Proofs.YtphmnkcfjgallaaW.PrintLast Go.Proofs.YtphmnkcfjgallaaW.PrintMore
attribute [local go_sem] max2_int min2_int max_two min_two max_three min_three max_four min_four   -- for this text's walks alone
set_option linter.unusedVariables false
set_option linter.unusedSimpArgs false
set_option maxHeartbeats 4000000 in
set_option maxRecDepth 100000 in
theorem laws_eqPeriodS.calls (A0 : Option Addr) (c0 : Nat) (l0 : List (S133)) (A1 : Option Addr) (c1 : Nat) (l1 : List (S133)) (w : World) (hr0 : Kd.C k133 w A0 l0.length l0) (hr1 : Kd.C k133 w A1 l1.length l1) :
    Calls Try.prog 42 #[.slice A0 l0.length c0, .slice A1 l1.length c1] w fun e w' => e = .returned (.bool (same l0 l1)) ∧ Below w.heap.size w w' := by
  have hl := hr0.2.1
  have hm := hr1.2.1
  have H0 := Aside0.mk hr0
  have H1 := Aside0.mk hr1
  clear hr0 hr1
  by_cases hlen : l0.length = l1.length
  · have hlb : ((l0.length : Int) != (l1.length : Int)) = false := by rw [hlen]; simp
    have HL := Aside0.mk hlen
    clear hlen
    go_enter Try.func42, Try.ntmps42
    go_wp2
    go_loopw [5] (fun v wr => ∃ i : Int, 0 ≤ i ∧ i ≤ (l0.length : Int) ∧ v = .int .i64 i ∧ Aside0 (Below w.heap.size w wr) ∧ Aside0 (l0.take i.toNat = l1.take i.toNat)) (fun v _ => (l0.length - (intOf v).toNat))
    case atStart => exact ⟨0, by omega, by omega, rfl, ⟨Below.refl _ _⟩, ⟨rfl⟩⟩
    case round =>
      obtain ⟨i, hi0, hi1, rfl, HB, HT⟩ := hrel
      by_cases hlt : i < (l0.length : Int)
      · have hlt2 : i < (l1.length : Int) := by have := HL.out; omega
        obtain ⟨ad, ead, adx0, adx1⟩ := at_T133 (Kd.C_below H0.out HB.out) i hi0 hlt
        obtain ⟨bd, ebd, bdx0, bdx1⟩ := at_T133 (Kd.C_below H1.out HB.out) i hi0 hlt2
        cases ead
        cases ebd
        go_wp2
        go_region_held3 (fun w' => w'.cell? (ad.add (i.toNat * 2)) = some (.int .i64 (rd_T133 l0 i).f0) ∧ w'.cell? ⟨(ad.add (i.toNat * 2)).block, (ad.add (i.toNat * 2)).off + 1, none⟩ = some (.int .i64 (rd_T133 l0 i).f1) ∧ w'.cell? (bd.add (i.toNat * 2)) = some (.int .i64 (rd_T133 l1 i).f0) ∧ w'.cell? ⟨(bd.add (i.toNat * 2)).block, (bd.add (i.toNat * 2)).off + 1, none⟩ = some (.int .i64 (rd_T133 l1 i).f1)) ((first | go_keep | exact ⟨pw_cell_below hb (by assumption), pw_cell_below hb (by assumption), pw_cell_below hb (by assumption), pw_cell_below hb (by assumption)⟩))
          ((go_at_call 109; refine (laws_eqPeriod.calls (rd_T133 l0 i).f0 (rd_T133 l0 i).f1 (rd_T133 l1 i).f0 (rd_T133 l1 i).f1 _ ).mono ?_; rintro e w2 ⟨rfl, hb⟩))
        have HB2 := Aside0.mk (below_into (w := w) hb (by repeat (first | exact HB.out | refine below_drew1 ?_)))
        clear hb
        by_cases he : rd_T133 l0 i = rd_T133 l1 i
        · rw [← same_true (show ((⟨(rd_T133 l0 i).f0, (rd_T133 l0 i).f1⟩ : S133) : S133) = (⟨(rd_T133 l1 i).f0, (rd_T133 l1 i).f1⟩ : S133) from he)]
          go_wp2
          go_roundw
          case rel => exact ⟨i + 1, by omega, by omega, rfl, HB2, ⟨take_step hi0 hlt hlt2 HT.out he⟩⟩
          case measure => simp [intOf]; omega
        · rw [← same_false (show ((⟨(rd_T133 l0 i).f0, (rd_T133 l0 i).f1⟩ : S133) : S133) = (⟨(rd_T133 l1 i).f0, (rd_T133 l1 i).f1⟩ : S133) → False from he)]
          go_wp2
          go_ret
          exact ⟨ret_bool (same_false (fun h => he (by rw [h]))), HB2.out⟩
      · go_wp2
        go_ret
        exact ⟨ret_bool (same_true (take_end HL.out hlt HT.out)), HB.out⟩
  · go_enter Try.func42, Try.ntmps42
    go_wp2
    go_ret
    exact ⟨ret_bool (same_false (fun h => hlen (by rw [h]))), Below.refl _ _⟩
end Go.Proofs.Ytphmnkcfjgallaa.Q
