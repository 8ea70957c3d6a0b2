/- Parts of the proof: what functions of the program and of the reference answer.
   No condition. -/
import Derived.Test.YtphmnkcfjgallaaZShut1
import Derived.Test.YtphmnkcfjgallaaZShut7
namespace Go.Proofs.Ytphmnkcfjgallaa.Q
open Go.RowKit Go.Proofs.YtphmnkcfjgallaaW.PrintWords Go.Proofs.YtphmnkcfjgallaaW.PrintLast Go.Proofs.YtphmnkcfjgallaaW.PrintMore
attribute [local go_sem] max2_int min2_int max_two min_two max_three min_three max_four min_four   -- for this text's walks alone
set_option linter.unusedVariables false
set_option linter.unusedSimpArgs false
set_option maxHeartbeats 4000000 in
set_option maxRecDepth 100000 in
theorem laws_szAccountS.calls (A0 : Option Addr) (c0 : Nat) (l0 : List (S176)) (a1 : Int) (w : World) (hr0 : Kd.C k176 w A0 l0.length l0) (h0 : 0 ≤ a1) (h1 : a1 ≤ 1048576) (hw : ∀ y ∈ l0, wf176 y) :
    Calls Try.prog 102 #[.slice A0 l0.length c0, .int .i64 a1] w (SzPost w a1 (l0.length ≤ 1048576)) := by
  have hl := hr0.2.1
  have H0 := Aside0.mk hr0
  have HW := Aside0.mk hw
  clear hr0 hw
  by_cases hn : a1 - (l0.length : Int) < 0
  · go_enter Try.func102, Try.ntmps102
    go_wp2_with fail
    go_ret
    exact ⟨-1, rfl, by omega, by omega, fun h => absurd h (by omega), Below.refl _ _⟩
  · go_enter Try.func102, Try.ntmps102
    go_wp2_with fail
    go_loopw [1, 5] (fun v u wr => ∃ left i : Int, 0 ≤ left ∧ left ≤ a1 - (l0.length : Int) ∧ v = .int .i64 left ∧ 0 ≤ i ∧ i ≤ (l0.length : Int) ∧ u = .int .i64 i ∧ Aside0 (Below w.heap.size w wr) ∧ Aside0 (True)) (fun _ u _ => (l0.length - (intOf u).toNat))
    case atStart => exact ⟨a1 - (l0.length : Int), 0, by omega, by omega, rfl, by omega, by omega, rfl, ⟨Below.refl _ _⟩, ⟨trivial⟩⟩
    case round =>
      obtain ⟨left, i, hL0, hL1, rfl, hi0, hi1, rfl, HB, HT⟩ := hrel
      by_cases hlt : i < (l0.length : Int)
      · obtain ⟨ad, ead, adx0, adx1, adx2⟩ := at_T176 (Kd.C_below H0.out HB.out) i hi0 hlt
        cases ead
        go_wp2_with fail
        refine (laws_szAccount.calls (rd_T176 l0 i).f0 (rd_T176 l0 i).f1 (rd_T176 l0 i).f2 left _ hL0 (by omega) (all_at (z := z176) hi0 hlt HW.out)).mono ?_
        rintro e w2 ⟨r, rfl, hr1, hr2, hr3, hb⟩
        have HR := Aside0.mk hr3
        have HB2 := Aside0.mk (below_into (w := w) hb (by repeat (first | exact HB.out | refine below_drew1 ?_)))
        clear hb hr3
        by_cases hr : r < 0
        · go_wp2_with fail
          go_ret
          exact ⟨-1, rfl, by omega, by omega, fun h => absurd h (by omega), HB2.out⟩
        · go_wp2_with fail
          go_roundw
          case rel => exact ⟨r, i + 1, by omega, by omega, rfl, by omega, by omega, rfl, HB2, ⟨trivial⟩⟩
          case measure => simp [intOf]; omega
      · go_wp2_with fail
        go_ret
        exact ⟨left, rfl, by omega, by omega, fun _ => by omega, HB.out⟩
end Go.Proofs.Ytphmnkcfjgallaa.Q
namespace Go.Proofs.Ytphmnkcfjgallaa.Q
open Go.RowKit Go.Proofs.YtphmnkcfjgallaaW.PrintWords Go.Proofs.YtphmnkcfjgallaaW.PrintLast Go.Proofs.YtphmnkcfjgallaaW.PrintMore
attribute [local go_sem] max2_int min2_int max_two min_two max_three min_three max_four min_four   -- for this text's walks alone
set_option linter.unusedVariables false
set_option linter.unusedSimpArgs false
def wf59 (x : S59) : Prop := (x.f0.length ≤ maxLen ∧ ∀ y ∈ x.f0, wf176 y) ∧ (Lit.int .i64 x.f1).wf = true ∧ (Lit.int .i64 x.f2).wf = true
def small59 (x : S59) : Prop := (x.f0.length ≤ 1048576)
set_option maxHeartbeats 4000000 in
set_option maxRecDepth 100000 in
theorem laws_szFrame.calls (A0_0 : Option Addr) (c0_0 : Nat) (l0_0 : List (S176)) (a0_1 : Int) (a0_2 : Int) (a1 : Int) (w : World) (hr0_0 : Kd.C k176 w A0_0 l0_0.length l0_0) (h0 : 0 ≤ a1) (h1 : a1 ≤ 1048576) (hw : wf59 ((⟨l0_0, a0_1, a0_2⟩ : S59) : S59)) :
    Calls Try.prog 34 #[.agg #[.slice A0_0 l0_0.length c0_0, .int .i64 a0_1, .int .i64 a0_2], .int .i64 a1] w (SzPost w a1 (small59 ((⟨l0_0, a0_1, a0_2⟩ : S59) : S59))) := by
  have Hl0_0 := Aside0.mk hr0_0
  clear hr0_0
  unfold wf59 at hw
  obtain ⟨g0, g1, g2⟩ := hw
  go_enter Try.func34, Try.ntmps34
  go_wp2_with fail
  refine (laws_szAccountS.calls A0_0 c0_0 l0_0 a1 _ (Kd.C_below Hl0_0.out (by repeat (first | exact below_alloc (Below.refl _ _) _ | refine below_alloc ?_ _))) (by omega) (by omega) g0.2).mono ?_
  rintro e w10 ⟨r0, rfl, hr1_0, hr2_0, hr3_0, hb⟩
  have s0_1 : w10.cell? ⟨w.heap.size, 1, none⟩ = some (.int .i64 a0_1) := pw_cell_below hb (by first | assumption | (go_simp; done))
  have s0_2 : w10.cell? ⟨w.heap.size, 2, none⟩ = some (.int .i64 a0_2) := pw_cell_below hb (by first | assumption | (go_simp; done))
  have HB0 := Aside0.mk (below_into (w := w) hb (by repeat (first | exact below_alloc (Below.refl _ _) _ | refine below_alloc ?_ _)))
  have HR0 := Aside0.mk hr3_0
  clear hb hr3_0
  by_cases q0 : r0 < 0
  · skip
    go_wp2_with fail
    go_ret
    exact ⟨-1, rfl, by omega, by omega, fun h => absurd h (by omega), HB0.out⟩
  · skip
    go_wp2_with fail
    go_ret
    exact ⟨_, rfl, by omega, by omega, fun _ => by unfold small59; exact (HR0.out (by omega)), HB0.out⟩
end Go.Proofs.Ytphmnkcfjgallaa.Q
namespace Go.Proofs.Ytphmnkcfjgallaa.Q
open Go.RowKit Go.Proofs.YtphmnkcfjgallaaW.PrintWords Go.Proofs.YtphmnkcfjgallaaW.PrintLast Go.Proofs.YtphmnkcfjgallaaW.PrintMore
attribute [local go_sem] max2_int min2_int max_two min_two max_three min_three max_four min_four   -- for this text's walks alone
set_option linter.unusedVariables false
set_option linter.unusedSimpArgs false
def wf188 (x : S188) : Prop := (Lit.int .i64 x.f0).wf = true ∧ (Lit.int .i64 x.f1).wf = true ∧ (Lit.int .i64 x.f2).wf = true ∧ (Lit.int .i64 x.f3).wf = true ∧ (Lit.int .i64 x.f4).wf = true
set_option maxHeartbeats 4000000 in
set_option maxRecDepth 100000 in
theorem laws_szLineS.calls (A0 : Option Addr) (c0 : Nat) (l0 : List (S188)) (a1 : Int) (w : World) (hr0 : Kd.C k188 w A0 l0.length l0) (h0 : 0 ≤ a1) (h1 : a1 ≤ 1048576) (hw : ∀ y ∈ l0, wf188 y) :
    Calls Try.prog 118 #[.slice A0 l0.length c0, .int .i64 a1] w (SzPost w a1 (l0.length ≤ 1048576)) := by
  have hl := hr0.2.1
  have H0 := Aside0.mk hr0
  have HW := Aside0.mk hw
  clear hr0 hw
  by_cases hn : a1 - (l0.length : Int) < 0
  · go_enter Try.func118, Try.ntmps118
    go_wp2_with fail
    go_ret
    exact ⟨-1, rfl, by omega, by omega, fun h => absurd h (by omega), Below.refl _ _⟩
  · go_enter Try.func118, Try.ntmps118
    go_wp2_with fail
    go_ret
    exact ⟨_, rfl, by omega, by omega, fun _ => by omega, Below.refl _ _⟩
end Go.Proofs.Ytphmnkcfjgallaa.Q
namespace Go.Proofs.Ytphmnkcfjgallaa.Q
open Go.RowKit Go.Proofs.YtphmnkcfjgallaaW.PrintWords Go.Proofs.YtphmnkcfjgallaaW.PrintLast Go.Proofs.YtphmnkcfjgallaaW.PrintMore
attribute [local go_sem] max2_int min2_int max_two min_two max_three min_three max_four min_four   -- for this text's walks alone
set_option linter.unusedVariables false
set_option linter.unusedSimpArgs false
def wf93 (x : S93) : Prop := (Lit.int .i64 x.f0).wf = true ∧ (Lit.int .i64 x.f1).wf = true ∧ x.f2.size ≤ maxLen ∧ (x.f3.length ≤ maxLen ∧ ∀ y ∈ x.f3, wf188 y)
def small93 (x : S93) : Prop := (x.f3.length ≤ 1048576)
set_option maxHeartbeats 4000000 in
set_option maxRecDepth 100000 in
theorem laws_szEntry.calls (a0_0 : Int) (a0_1 : Int) (a0_2 : ByteArray) (A0_3 : Option Addr) (c0_3 : Nat) (l0_3 : List (S188)) (a1 : Int) (w : World) (hr0_3 : Kd.C k188 w A0_3 l0_3.length l0_3) (h0 : 0 ≤ a1) (h1 : a1 ≤ 1048576) (hw : wf93 ((⟨a0_0, a0_1, a0_2, l0_3⟩ : S93) : S93)) :
    Calls Try.prog 58 #[.agg #[.int .i64 a0_0, .int .i64 a0_1, .string a0_2, .slice A0_3 l0_3.length c0_3], .int .i64 a1] w (SzPost w a1 (small93 ((⟨a0_0, a0_1, a0_2, l0_3⟩ : S93) : S93))) := by
  have Hl0_3 := Aside0.mk hr0_3
  clear hr0_3
  unfold wf93 at hw
  obtain ⟨g0, g1, g2, g3⟩ := hw
  replace g2 : a0_2.size ≤ 9223372036854775807 := g2
  by_cases q2 : a1 - (a0_2.size : Int) < 0
  · go_enter Try.func58, Try.ntmps58
    go_wp2_with fail
    go_ret
    exact ⟨-1, rfl, by omega, by omega, fun h => absurd h (by omega), below_alloc (Below.refl _ _) _⟩
  · skip
    go_enter Try.func58, Try.ntmps58
    go_wp2_with fail
    refine (laws_szLineS.calls A0_3 c0_3 l0_3 (a1 - (a0_2.size : Int)) _ (Kd.C_below Hl0_3.out (by repeat (first | exact below_alloc (Below.refl _ _) _ | refine below_alloc ?_ _))) (by omega) (by omega) g3.2).mono ?_
    rintro e w13 ⟨r3, rfl, hr1_3, hr2_3, hr3_3, hb⟩
    have HB3 := Aside0.mk (below_into (w := w) hb (by repeat (first | exact below_alloc (Below.refl _ _) _ | refine below_alloc ?_ _)))
    have HR3 := Aside0.mk hr3_3
    clear hb hr3_3
    by_cases q3 : r3 < 0
    · skip
      go_wp2_with fail
      go_ret
      exact ⟨-1, rfl, by omega, by omega, fun h => absurd h (by omega), HB3.out⟩
    · skip
      go_wp2_with fail
      go_ret
      exact ⟨_, rfl, by omega, by omega, fun _ => by unfold small93; exact (HR3.out (by omega)), HB3.out⟩
end Go.Proofs.Ytphmnkcfjgallaa.Q
namespace Go.Proofs.Ytphmnkcfjgallaa.Q
open Go.RowKit Go.Proofs.YtphmnkcfjgallaaW.PrintWords Go.Proofs.YtphmnkcfjgallaaW.PrintLast Go.Proofs.YtphmnkcfjgallaaW.PrintMore
attribute [local go_sem] max2_int min2_int max_two min_two max_three min_three max_four min_four   -- for this text's walks alone
set_option linter.unusedVariables false
set_option linter.unusedSimpArgs false
set_option maxHeartbeats 4000000 in
set_option maxRecDepth 100000 in
theorem laws_szEntryS.calls (A0 : Option Addr) (c0 : Nat) (l0 : List (S93)) (a1 : Int) (w : World) (hr0 : Kd.C k93 w A0 l0.length l0) (h0 : 0 ≤ a1) (h1 : a1 ≤ 1048576) (hw : ∀ y ∈ l0, wf93 y) :
    Calls Try.prog 114 #[.slice A0 l0.length c0, .int .i64 a1] w (SzPost w a1 (l0.length ≤ 1048576 ∧ ∀ y ∈ l0, small93 y)) := by
  have hl := hr0.2.1
  have H0 := Aside0.mk hr0
  have HW := Aside0.mk hw
  clear hr0 hw
  by_cases hn : a1 - (l0.length : Int) < 0
  · go_enter Try.func114, Try.ntmps114
    go_wp2_with fail
    go_ret
    exact ⟨-1, rfl, by omega, by omega, fun h => absurd h (by omega), Below.refl _ _⟩
  · go_enter Try.func114, Try.ntmps114
    go_wp2_with fail
    go_loopw [1, 5] (fun v u wr => ∃ left i : Int, 0 ≤ left ∧ left ≤ a1 - (l0.length : Int) ∧ v = .int .i64 left ∧ 0 ≤ i ∧ i ≤ (l0.length : Int) ∧ u = .int .i64 i ∧ Aside0 (Below w.heap.size w wr) ∧ Aside0 (∀ y ∈ l0.take i.toNat, small93 y)) (fun _ u _ => (l0.length - (intOf u).toNat))
    case atStart => exact ⟨a1 - (l0.length : Int), 0, by omega, by omega, rfl, by omega, by omega, rfl, ⟨Below.refl _ _⟩, ⟨fun y hy => by simp at hy⟩⟩
    case round =>
      obtain ⟨left, i, hL0, hL1, rfl, hi0, hi1, rfl, HB, HT⟩ := hrel
      by_cases hlt : i < (l0.length : Int)
      · obtain ⟨ad, uA3, uC3, ead, adx0, adx1, adx2, adx3, adl3, adg3⟩ := at_T93 (Kd.C_below H0.out HB.out) i hi0 hlt
        cases ead
        go_wp2_with fail
        refine (laws_szEntry.calls (rd_T93 l0 i).f0 (rd_T93 l0 i).f1 (rd_T93 l0 i).f2 uA3 uC3 (rd_T93 l0 i).f3 left _ adg3 hL0 (by omega) (all_at (z := z93) hi0 hlt HW.out)).mono ?_
        rintro e w2 ⟨r, rfl, hr1, hr2, hr3, hb⟩
        have HR := Aside0.mk hr3
        have HB2 := Aside0.mk (below_into (w := w) hb (by repeat (first | exact HB.out | refine below_drew1 ?_)))
        clear hb hr3
        by_cases hr : r < 0
        · go_wp2_with fail
          go_ret
          exact ⟨-1, rfl, by omega, by omega, fun h => absurd h (by omega), HB2.out⟩
        · go_wp2_with fail
          go_roundw
          case rel => exact ⟨r, i + 1, by omega, by omega, rfl, by omega, by omega, rfl, HB2, ⟨all_step (z := z93) hi0 hlt HT.out (HR.out (by omega))⟩⟩
          case measure => simp [intOf]; omega
      · go_wp2_with fail
        go_ret
        exact ⟨left, rfl, by omega, by omega, fun _ => ⟨by omega, all_end (by omega) HT.out⟩, HB.out⟩
end Go.Proofs.Ytphmnkcfjgallaa.Q
namespace Go.Proofs.Ytphmnkcfjgallaa.Q
open Go.RowKit Go.Proofs.YtphmnkcfjgallaaW.PrintWords Go.Proofs.YtphmnkcfjgallaaW.PrintLast Go.Proofs.YtphmnkcfjgallaaW.PrintMore
attribute [local go_sem] max2_int min2_int max_two min_two max_three min_three max_four min_four   -- for this text's walks alone
set_option linter.unusedVariables false
set_option linter.unusedSimpArgs false
def wf62 (x : S62) : Prop := (x.f0.length ≤ maxLen ∧ ∀ y ∈ x.f0, wf93 y) ∧ (Lit.int .i64 x.f1).wf = true
def small62 (x : S62) : Prop := (x.f0.length ≤ 1048576 ∧ ∀ y ∈ x.f0, small93 y)
set_option maxHeartbeats 4000000 in
set_option maxRecDepth 100000 in
theorem laws_szLedger.calls (A0_0 : Option Addr) (c0_0 : Nat) (l0_0 : List (S93)) (a0_1 : Int) (a1 : Int) (w : World) (hr0_0 : Kd.C k93 w A0_0 l0_0.length l0_0) (h0 : 0 ≤ a1) (h1 : a1 ≤ 1048576) (hw : wf62 ((⟨l0_0, a0_1⟩ : S62) : S62)) :
    Calls Try.prog 47 #[.agg #[.slice A0_0 l0_0.length c0_0, .int .i64 a0_1], .int .i64 a1] w (SzPost w a1 (small62 ((⟨l0_0, a0_1⟩ : S62) : S62))) := by
  have Hl0_0 := Aside0.mk hr0_0
  clear hr0_0
  unfold wf62 at hw
  obtain ⟨g0, g1⟩ := hw
  go_enter Try.func47, Try.ntmps47
  go_wp2_with fail
  refine (laws_szEntryS.calls A0_0 c0_0 l0_0 a1 _ (Kd.C_below Hl0_0.out (by repeat (first | exact below_alloc (Below.refl _ _) _ | refine below_alloc ?_ _))) (by omega) (by omega) g0.2).mono ?_
  rintro e w10 ⟨r0, rfl, hr1_0, hr2_0, hr3_0, hb⟩
  have s0_1 : w10.cell? ⟨w.heap.size, 1, none⟩ = some (.int .i64 a0_1) := pw_cell_below hb (by first | assumption | (go_simp; done))
  have HB0 := Aside0.mk (below_into (w := w) hb (by repeat (first | exact below_alloc (Below.refl _ _) _ | refine below_alloc ?_ _)))
  have HR0 := Aside0.mk hr3_0
  clear hb hr3_0
  by_cases q0 : r0 < 0
  · skip
    go_wp2_with fail
    go_ret
    exact ⟨-1, rfl, by omega, by omega, fun h => absurd h (by omega), HB0.out⟩
  · skip
    go_wp2_with fail
    go_ret
    exact ⟨_, rfl, by omega, by omega, fun _ => by unfold small62; exact (HR0.out (by omega)), HB0.out⟩
end Go.Proofs.Ytphmnkcfjgallaa.Q
namespace Go.Proofs.Ytphmnkcfjgallaa.Q
open Go.RowKit Go.Proofs.YtphmnkcfjgallaaW.PrintWords Go.Proofs.YtphmnkcfjgallaaW.PrintLast Go.Proofs.YtphmnkcfjgallaaW.PrintMore
attribute [local go_sem] max2_int min2_int max_two min_two max_three min_three max_four min_four   -- for this text's walks alone
set_option linter.unusedVariables false
set_option linter.unusedSimpArgs false
def wf65 (x : S65) : Prop := wf59 x.f0 ∧ wf62 x.f1 ∧ (x.f2.length ≤ maxLen ∧ ∀ y ∈ x.f2, wf138 y) ∧ (Lit.int .i64 x.f3).wf = true ∧ (Lit.int .i64 x.f4).wf = true
def small65 (x : S65) : Prop := small59 x.f0 ∧ small62 x.f1 ∧ (x.f2.length ≤ 1048576)
set_option maxHeartbeats 4000000 in
set_option maxRecDepth 100000 in
theorem laws_szBooks.calls (A0_0 : Option Addr) (c0_0 : Nat) (l0_0 : List (S176)) (a0_1 : Int) (a0_2 : Int) (A0_3 : Option Addr) (c0_3 : Nat) (l0_3 : List (S93)) (a0_4 : Int) (A0_5 : Option Addr) (c0_5 : Nat) (l0_5 : List (S138)) (a0_6 : Int) (a0_7 : Int) (a1 : Int) (w : World) (hr0_0 : Kd.C k176 w A0_0 l0_0.length l0_0) (hr0_3 : Kd.C k93 w A0_3 l0_3.length l0_3) (hr0_5 : Kd.C k138 w A0_5 l0_5.length l0_5) (h0 : 0 ≤ a1) (h1 : a1 ≤ 1048576) (hw : wf65 ((⟨(⟨l0_0, a0_1, a0_2⟩ : S59), (⟨l0_3, a0_4⟩ : S62), l0_5, a0_6, a0_7⟩ : S65) : S65)) :
    Calls Try.prog 30 #[.agg #[.slice A0_0 l0_0.length c0_0, .int .i64 a0_1, .int .i64 a0_2, .slice A0_3 l0_3.length c0_3, .int .i64 a0_4, .slice A0_5 l0_5.length c0_5, .int .i64 a0_6, .int .i64 a0_7], .int .i64 a1] w (SzPost w a1 (small65 ((⟨(⟨l0_0, a0_1, a0_2⟩ : S59), (⟨l0_3, a0_4⟩ : S62), l0_5, a0_6, a0_7⟩ : S65) : S65))) := by
  have Hl0_0 := Aside0.mk hr0_0
  clear hr0_0
  have Hl0_3 := Aside0.mk hr0_3
  clear hr0_3
  have Hl0_5 := Aside0.mk hr0_5
  clear hr0_5
  unfold wf65 at hw
  obtain ⟨g0, g1, g2, g3, g4⟩ := hw
  go_enter Try.func30, Try.ntmps30
  go_wp2_with fail
  refine (laws_szFrame.calls A0_0 c0_0 l0_0 a0_1 a0_2 a1 _ (Kd.C_below Hl0_0.out (by repeat (first | exact below_alloc (Below.refl _ _) _ | refine below_alloc ?_ _))) (by omega) (by omega) g0).mono ?_
  rintro e w10 ⟨r0, rfl, hr1_0, hr2_0, hr3_0, hb⟩
  have s0_3 : w10.cell? ⟨w.heap.size, 3, none⟩ = some (.slice A0_3 l0_3.length c0_3) := pw_cell_below hb (by first | assumption | (go_simp; done))
  have s0_4 : w10.cell? ⟨w.heap.size, 4, none⟩ = some (.int .i64 a0_4) := pw_cell_below hb (by first | assumption | (go_simp; done))
  have s0_5 : w10.cell? ⟨w.heap.size, 5, none⟩ = some (.slice A0_5 l0_5.length c0_5) := pw_cell_below hb (by first | assumption | (go_simp; done))
  have s0_6 : w10.cell? ⟨w.heap.size, 6, none⟩ = some (.int .i64 a0_6) := pw_cell_below hb (by first | assumption | (go_simp; done))
  have s0_7 : w10.cell? ⟨w.heap.size, 7, none⟩ = some (.int .i64 a0_7) := pw_cell_below hb (by first | assumption | (go_simp; done))
  have HB0 := Aside0.mk (below_into (w := w) hb (by repeat (first | exact below_alloc (Below.refl _ _) _ | refine below_alloc ?_ _)))
  have HR0 := Aside0.mk hr3_0
  clear hb hr3_0
  by_cases q0 : r0 < 0
  · skip
    go_wp2_with fail
    go_ret
    exact ⟨-1, rfl, by omega, by omega, fun h => absurd h (by omega), HB0.out⟩
  · skip
    go_wp2_with fail
    refine (laws_szLedger.calls A0_3 c0_3 l0_3 a0_4 r0 _ (Kd.C_below Hl0_3.out (by repeat (first | exact HB0.out | refine below_alloc ?_ _))) (by omega) (by omega) g1).mono ?_
    rintro e w11 ⟨r1, rfl, hr1_1, hr2_1, hr3_1, hb⟩
    have s1_5 : w11.cell? ⟨w.heap.size, 5, none⟩ = some (.slice A0_5 l0_5.length c0_5) := pw_cell_below hb (by first | assumption | (go_simp; done))
    have s1_6 : w11.cell? ⟨w.heap.size, 6, none⟩ = some (.int .i64 a0_6) := pw_cell_below hb (by first | assumption | (go_simp; done))
    have s1_7 : w11.cell? ⟨w.heap.size, 7, none⟩ = some (.int .i64 a0_7) := pw_cell_below hb (by first | assumption | (go_simp; done))
    have HB1 := Aside0.mk (below_into (w := w) hb (by repeat (first | exact HB0.out | refine below_alloc ?_ _)))
    have HR1 := Aside0.mk hr3_1
    clear hb hr3_1
    by_cases q1 : r1 < 0
    · skip
      go_wp2_with fail
      go_ret
      exact ⟨-1, rfl, by omega, by omega, fun h => absurd h (by omega), HB1.out⟩
    · skip
      go_wp2_with fail
      refine (laws_szPeriodS.calls A0_5 c0_5 l0_5 r1 _ (Kd.C_below Hl0_5.out (by repeat (first | exact HB1.out | refine below_alloc ?_ _))) (by omega) (by omega) g2.2).mono ?_
      rintro e w12 ⟨r2, rfl, hr1_2, hr2_2, hr3_2, hb⟩
      have s2_6 : w12.cell? ⟨w.heap.size, 6, none⟩ = some (.int .i64 a0_6) := pw_cell_below hb (by first | assumption | (go_simp; done))
      have s2_7 : w12.cell? ⟨w.heap.size, 7, none⟩ = some (.int .i64 a0_7) := pw_cell_below hb (by first | assumption | (go_simp; done))
      have HB2 := Aside0.mk (below_into (w := w) hb (by repeat (first | exact HB1.out | refine below_alloc ?_ _)))
      have HR2 := Aside0.mk hr3_2
      clear hb hr3_2
      by_cases q2 : r2 < 0
      · skip
        go_wp2_with fail
        go_ret
        exact ⟨-1, rfl, by omega, by omega, fun h => absurd h (by omega), HB2.out⟩
      · skip
        go_wp2_with fail
        go_ret
        exact ⟨_, rfl, by omega, by omega, fun _ => by unfold small65; exact ⟨(HR0.out (by omega)), (HR1.out (by omega)), (HR2.out (by omega))⟩, HB2.out⟩
end Go.Proofs.Ytphmnkcfjgallaa.Q
namespace Go.Proofs.Ytphmnkcfjgallaa.Q
open Go.RowKit Go.Proofs.YtphmnkcfjgallaaW.PrintWords Go.Proofs.YtphmnkcfjgallaaW.PrintLast Go.Proofs.YtphmnkcfjgallaaW.PrintMore
attribute [local go_sem] max2_int min2_int max_two min_two max_three min_three max_four min_four   -- for this text's walks alone
set_option linter.unusedVariables false
set_option linter.unusedSimpArgs false
noncomputable def laws_markText.l0 : Nat → Int → ByteArray → Option (ByteArray)
  | 0, _, _ => none
  | k + 1, x0, x3 => if x0 > 0 then ((some (([(wrap64 (48 + (Int.tmod x0 10))) % 256] : List Int) : List Int)).bind fun y101 => (if (strOfNums y101).size + x3.size ≤ 9223372036854775807 then (laws_markText.l0 k (wrap64 (Int.tdiv x0 10)) ((strOfNums y101) ++ x3)) else (none))) else (if 1 + x3.size ≤ 9223372036854775807 then (some ((⟨#[109]⟩ : ByteArray) ++ x3)) else (none))
noncomputable def laws_markText.f (k : Nat) (a0 : Int) : Option (ByteArray) := if a0 ≤ 0 then (some (⟨#[109, 48]⟩ : ByteArray)) else (laws_markText.l0 k a0 (⟨#[]⟩ : ByteArray))
theorem laws_markText.mono_l : ∀ k, (∀ y0 y1, LeO (laws_markText.l0 k y0 y1) (laws_markText.l0 (k + 1) y0 y1))
  | 0 => fun _ _ r h => by simp [laws_markText.l0] at h
  | k + 1 => by
    have ih0 := laws_markText.mono_l k
    · intro y0 y1
      unfold laws_markText.l0
      repeat' first
      | (with_reducible exact ih0 _ _)
      | (with_reducible exact LeO.refl _)
      | (with_reducible exact LeO.none _)
      | (with_reducible refine LeO.ite ?_ ?_)
      | (with_reducible refine LeO.bind ?_ (fun _ => ?_))
      | exact ih0 _ _
      | exact LeO.none _
      | refine LeO.ite ?_ ?_
      | refine LeO.bind ?_ (fun _ => ?_)
theorem laws_markText.mono : ∀ a0 k, LeO (laws_markText.f k a0) (laws_markText.f (k + 1) a0) := by
  intro a0 k
  have ih0 := laws_markText.mono_l k
  unfold laws_markText.f
  repeat' first
      | (with_reducible exact ih0 _ _)
      | (with_reducible exact LeO.refl _)
      | (with_reducible exact LeO.none _)
      | (with_reducible refine LeO.ite ?_ ?_)
      | (with_reducible refine LeO.bind ?_ (fun _ => ?_))
      | exact ih0 _ _
      | exact LeO.none _
      | refine LeO.ite ?_ ?_
      | refine LeO.bind ?_ (fun _ => ?_)
set_option maxHeartbeats 8000000 in
set_option maxRecDepth 100000 in
theorem laws_markText.calls (k : Nat) (a0 : Int) (r : ByteArray) (w : World) (h : laws_markText.f k a0 = some r) :
    Calls Try.prog 111 #[.int .i64 a0] w fun e w' => e = .returned (.string r) ∧ Below w.heap.size w w' := by
  have HB := Aside0.mk (Below.refl w.heap.size w)
  have H : (if a0 ≤ 0 then (some (⟨#[109, 48]⟩ : ByteArray)) else (laws_markText.l0 k a0 (⟨#[]⟩ : ByteArray))) = some r := h
  clear h
  by_cases c2 : a0 ≤ 0
  · rw [if_pos c2] at H
    have c2b0 : decide (a0 ≤ 0) = true := decide_eq_true c2
    clear c2
    obtain rfl := Option.some.inj H
    go_enter Try.func111, Try.ntmps111
    go_wp2
    go_ret
    exact ⟨by first | rfl | (simp [errW_none, errW_some] <;> rfl) | (simp [*, errW_none, errW_some] <;> rfl), by repeat (first | (with_reducible first | exact HB.out | apply below_alloc | apply pw_below_drewN | apply below_drew1) | exact HB.out)⟩
  · rw [if_neg c2] at H
    have c2b0 : decide (a0 ≤ 0) = false := decide_eq_false c2
    clear c2
    have H' := Aside0.mk H
    clear H
    go_enter Try.func111, Try.ntmps111
    go_wp2
    go_loopg [0, 3] k (fun kq v0 v3 w' => ∃ (x0_1 : Int) (x3_1 : ByteArray), v0 = .int .i64 x0_1 ∧ v3 = .string x3_1 ∧ Aside0 (laws_markText.l0 kq x0_1 x3_1 = some r) ∧ Aside0 (kq ≤ k) ∧ Aside0 (Below w.heap.size w w'))
    case atStart => exact ⟨(a0), ((⟨#[]⟩ : ByteArray)), (by first | rfl | (simp; done) | (simp [*]; done)), (by first | rfl | (simp; done) | (simp [*]; done)), H', ⟨Nat.le_refl _⟩, ⟨by repeat (first | (with_reducible first | exact HB.out | apply below_alloc | apply pw_below_drewN | apply below_drew1) | exact HB.out)⟩⟩
    case round =>
      clear H'
      try clear c1
      try clear c2
      try clear c2b0
      try clear p2
      obtain ⟨x0_1, x3_1, rfl, rfl, HA, HK1, HB⟩ := hrel
      cases gk with
      | zero => exact absurd HA.out (by simp [laws_markText.l0])
      | succ k1 =>
        have H := HA.out
        clear HA
        simp only [laws_markText.l0] at H
        by_cases c3 : x0_1 > 0
        · rw [if_pos c3] at H
          have c3b0 : decide (0 < x0_1) = true := decide_eq_true c3
          clear c3
          obtain ⟨y101, hy101⟩ : ∃ y_ : List Int, y_ = (([(wrap64 (48 + (Int.tmod x0_1 10))) % 256] : List Int)) := ⟨_, rfl⟩
          replace H : (if (strOfNums y101).size + x3_1.size ≤ 9223372036854775807 then (laws_markText.l0 k1 (wrap64 (Int.tdiv x0_1 10)) ((strOfNums y101) ++ x3_1)) else (none)) = some r := by first | (rw [hy101]; with_reducible exact H) | (have H2_ := (Option.bind_some _ _).symm.trans H; rw [hy101]; with_reducible exact H2_) | (have H2_ := (Option.bind_some _ _).symm.trans H; with_reducible exact H2_) | with_reducible exact H | (rw [hy101]; exact H) | exact H
          have Ny101 := Aside0.mk hy101
          clear hy101
          by_cases c4 : (strOfNums y101).size + x3_1.size ≤ 9223372036854775807
          · rw [if_pos c4] at H
            have c4b0 := eq_true c4
            have c4b1 : decide ((strOfNums y101).size + x3_1.size ≤ 9223372036854775807) = true := decide_eq_true c4
            try have c4b2 : (9223372036854775807 < (strOfNums y101).size + x3_1.size) = False := eq_false (Nat.not_lt.2 c4)
            have H' := Aside0.mk H
            clear H
            go_wp2_with (first | ((with_reducible refine gate_dst (N := 12) rfl ?_); refine Kd.R_lit (Kd.int .u8) _ 5 ?hg (N := 12) ?hd (xs := ([(wrap64 (48 + (Int.tmod x0_1 10))) % 256] : List Int)) (inner := [.int .u8 ((wrap64 (48 + (Int.tmod x0_1 10))) % 256)]) (ok := fun _ => True) (okp := fun _ => True) ?hr ?hp (fun _ hk => hk) trivial (Below.refl _ _) (Nat.le_refl _) (by simp) ?_; (case hd => rfl); (case hg => rfl); (case hr => first | (go_simp; done) | (go_simp; rfl)); (case hp => exact (Reps.one (show Kd.M (Kd.int .u8) _ _ _ ((wrap64 (48 + (Int.tmod x0_1 10))) % 256) [.int .u8 ((wrap64 (48 + (Int.tmod x0_1 10))) % 256)] from rfl) (Reps.none _ _))); intro v102 w5 ho6 hb hg_ hnew_; clear hg_ hnew_; (first | rw [← Ny101.out] at ho6 | (simp only [Int.reduceToNat] at ho6; rw [← Ny101.out] at ho6)); have n0_ := Aside0.mk (Kd.R_lower ho6 (below_size (by repeat (first | (with_reducible first | exact HB.out | apply below_alloc | apply pw_below_drewN | apply below_drew1) | exact HB.out)))); have n1_ := Aside0.mk (below_step (by repeat (first | (with_reducible first | exact HB.out | apply below_alloc | apply pw_below_drewN | apply below_drew1) | exact HB.out)) hb); clear HB; have HO103 := n0_; have HB := n1_; clear n0_ n1_; clear hb ho6; have hcv7 := own_string (P := Try.prog) Try.underlying22 Try.underlying5 Try.underlying9 (Kd.own_of_R HO103.out)))
            go_roundg k1
            case measure => have := HK1.out; omega
            case rel => exact ⟨(wrap64 (Int.tdiv x0_1 10)), ((strOfNums y101) ++ x3_1), (by first | rfl | (simp; done) | (simp [*]; done)), (by first | rfl | (simp; done) | (simp [*]; done)), H', ⟨by have := HK1.out; omega⟩, ⟨by repeat (first | (with_reducible first | exact HB.out | apply below_alloc | apply pw_below_drewN | apply below_drew1) | exact HB.out)⟩⟩
          · rw [if_neg c4] at H
            exact absurd H (by simp)
        · rw [if_neg c3] at H
          have c3b0 : decide (0 < x0_1) = false := decide_eq_false c3
          clear c3
          by_cases c8 : 1 + x3_1.size ≤ 9223372036854775807
          · rw [if_pos c8] at H
            have c8b0 := eq_true c8
            have c8b1 : decide (1 + x3_1.size ≤ 9223372036854775807) = true := decide_eq_true c8
            try have c8b2 : (9223372036854775807 < 1 + x3_1.size) = False := eq_false (Nat.not_lt.2 c8)
            obtain rfl := Option.some.inj H
            go_wp2
            go_ret
            exact ⟨by first | rfl | (simp [errW_none, errW_some] <;> rfl) | (simp [*, errW_none, errW_some] <;> rfl), by repeat (first | (with_reducible first | exact HB.out | apply below_alloc | apply pw_below_drewN | apply below_drew1) | exact HB.out)⟩
          · rw [if_neg c8] at H
            exact absurd H (by simp)
end Go.Proofs.Ytphmnkcfjgallaa.Q
