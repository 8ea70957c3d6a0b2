/- Parts of the proof: what functions of the program and of the reference answer.
   No condition. -/
import Derived.Test.YtphmnkcfjgallaaZSpread1
import Derived.Test.YtphmnkcfjgallaaZSpread6
import Derived.Test.YtphmnkcfjgallaaZSpread3
namespace Go.Proofs.Ytphmnkcfjgallaa.Q
open Go.RowKit Go.Proofs.YtphmnkcfjgallaaW.PrintWords Go.Proofs.YtphmnkcfjgallaaW.PrintLast Go.Proofs.YtphmnkcfjgallaaW.PrintMore
attribute [local go_sem] max2_int min2_int max_two min_two max_three min_three max_four min_four   -- for this text's walks alone
set_option linter.unusedVariables false
set_option linter.unusedSimpArgs false
def wf59 (x : S59) : Prop := (x.f0.length ≤ maxLen ∧ ∀ y ∈ x.f0, wf176 y) ∧ (Lit.int .i64 x.f1).wf = true ∧ (Lit.int .i64 x.f2).wf = true
def small59 (x : S59) : Prop := (x.f0.length ≤ 1048576)
set_option maxHeartbeats 4000000 in
set_option maxRecDepth 100000 in
theorem laws_szFrame.calls (A0_0 : Option Addr) (c0_0 : Nat) (l0_0 : List (S176)) (a0_1 : Int) (a0_2 : Int) (a1 : Int) (w : World) (hr0_0 : Kd.C k176 w A0_0 l0_0.length l0_0) (h0 : 0 ≤ a1) (h1 : a1 ≤ 1048576) (hw : wf59 ((⟨l0_0, a0_1, a0_2⟩ : S59) : S59)) :
    Calls Try.prog 34 #[.agg #[.slice A0_0 l0_0.length c0_0, .int .i64 a0_1, .int .i64 a0_2], .int .i64 a1] w (SzPost w a1 (small59 ((⟨l0_0, a0_1, a0_2⟩ : S59) : S59))) := by
  have Hl0_0 := Aside0.mk hr0_0
  clear hr0_0
  unfold wf59 at hw
  obtain ⟨g0, g1, g2⟩ := hw
  go_enter Try.func34, Try.ntmps34
  go_wp2_with fail
  refine (laws_szAccountS.calls A0_0 c0_0 l0_0 a1 _ (Kd.C_below Hl0_0.out (by repeat (first | exact below_alloc (Below.refl _ _) _ | refine below_alloc ?_ _))) (by omega) (by omega) g0.2).mono ?_
  rintro e w10 ⟨r0, rfl, hr1_0, hr2_0, hr3_0, hb⟩
  have s0_1 : w10.cell? ⟨w.heap.size, 1, none⟩ = some (.int .i64 a0_1) := pw_cell_below hb (by first | assumption | (go_simp; done))
  have s0_2 : w10.cell? ⟨w.heap.size, 2, none⟩ = some (.int .i64 a0_2) := pw_cell_below hb (by first | assumption | (go_simp; done))
  have HB0 := Aside0.mk (below_into (w := w) hb (by repeat (first | exact below_alloc (Below.refl _ _) _ | refine below_alloc ?_ _)))
  have HR0 := Aside0.mk hr3_0
  clear hb hr3_0
  by_cases q0 : r0 < 0
  · skip
    go_wp2_with fail
    go_ret
    exact ⟨-1, rfl, by omega, by omega, fun h => absurd h (by omega), HB0.out⟩
  · skip
    go_wp2_with fail
    go_ret
    exact ⟨_, rfl, by omega, by omega, fun _ => by unfold small59; exact (HR0.out (by omega)), HB0.out⟩
end Go.Proofs.Ytphmnkcfjgallaa.Q
namespace Go.Proofs.Ytphmnkcfjgallaa.Q
open Go.RowKit Go.Proofs.YtphmnkcfjgallaaW.PrintWords Go.Proofs.YtphmnkcfjgallaaW.PrintLast Go.Proofs.YtphmnkcfjgallaaW.PrintMore
attribute [local go_sem] max2_int min2_int max_two min_two max_three min_three max_four min_four   -- for this text's walks alone
set_option linter.unusedVariables false
set_option linter.unusedSimpArgs false
end Go.Proofs.Ytphmnkcfjgallaa.Q
namespace Go.Proofs.Ytphmnkcfjgallaa.Q
open Go.RowKit Go.Proofs.YtphmnkcfjgallaaW.PrintWords Go.Proofs.YtphmnkcfjgallaaW.PrintLast Go.Proofs.YtphmnkcfjgallaaW.PrintMore
attribute [local go_sem] max2_int min2_int max_two min_two max_three min_three max_four min_four   -- for this text's walks alone
set_option linter.unusedVariables false
set_option linter.unusedSimpArgs false
end Go.Proofs.Ytphmnkcfjgallaa.Q
