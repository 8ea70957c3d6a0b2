/- Parts of the proof: what functions of the program and of the reference answer.
   No condition. -/
import Derived.Test.YtphmnkcfjgallaaZPost1
import Derived.Test.YtphmnkcfjgallaaZPost12
import Derived.Test.YtphmnkcfjgallaaZPost13
import Derived.Test.YtphmnkcfjgallaaZPost8
import Derived.Test.YtphmnkcfjgallaaZPost4
namespace Go.Proofs.Ytphmnkcfjgallaa.Q
open Go.RowKit Go.Proofs.YtphmnkcfjgallaaW.PrintWords Go.Proofs.YtphmnkcfjgallaaW.PrintLast Go.Proofs.YtphmnkcfjgallaaW.PrintMore
attribute [local go_sem] max2_int min2_int max_two min_two max_three min_three max_four min_four   -- for this text's walks alone
set_option linter.unusedVariables false
set_option linter.unusedSimpArgs false
set_option maxHeartbeats 4000000 in
set_option maxRecDepth 100000 in
theorem laws_eqLedger.calls (A0_0 : Option Addr) (c0_0 : Nat) (l0_0 : List (S34)) (a0_1 : Int) (A1_0 : Option Addr) (c1_0 : Nat) (l1_0 : List (S34)) (a1_1 : Int) (w : World) (hr0_0 : Kd.C k34 w A0_0 l0_0.length l0_0) (hr1_0 : Kd.C k34 w A1_0 l1_0.length l1_0) :
    Calls Try.prog 51 #[.agg #[.slice A0_0 l0_0.length c0_0, .int .i64 a0_1], .agg #[.slice A1_0 l1_0.length c1_0, .int .i64 a1_1]] w fun e w' => e = .returned (.bool (same ((⟨l0_0, a0_1⟩ : S29) : S29) ((⟨l1_0, a1_1⟩ : S29) : S29))) ∧ Below w.heap.size w w' := by
  have Hl0_0 := Aside0.mk hr0_0
  clear hr0_0
  have Hl1_0 := Aside0.mk hr1_0
  clear hr1_0
  go_enter Try.func51, Try.ntmps51
  go_wp2_with fail
  refine (laws_eqEntryS.calls A0_0 c0_0 l0_0 A1_0 c1_0 l1_0 _ (Kd.C_below Hl0_0.out (by repeat (first | exact Below.refl _ _ | refine below_alloc ?_ _ | refine below_drew1 ?_ | refine pw_below_drewN ?_ _))) (Kd.C_below Hl1_0.out (by repeat (first | exact Below.refl _ _ | refine below_alloc ?_ _ | refine below_drew1 ?_ | refine pw_below_drewN ?_ _)))).mono ?_
  rintro e w10 ⟨rfl, hb⟩
  have s0_a1 : w10.cell? ⟨w.heap.size, 1, none⟩ = some (.int .i64 a0_1) := pw_cell_below hb (by first | assumption | (go_simp; done))
  have s0_b1 : w10.cell? ⟨w.heap.size + 1, 1, none⟩ = some (.int .i64 a1_1) := pw_cell_below hb (by first | assumption | (go_simp; done))
  have HB0 := Aside0.mk (below_into (w := w) hb (by repeat (first | exact Below.refl _ _ | refine below_alloc ?_ _ | refine below_drew1 ?_ | refine pw_below_drewN ?_ _)))
  clear hb
  by_cases h0 : l0_0 = l1_0
  · rw [← same_true h0]
    have E0 := Aside0.mk h0
    clear h0
    by_cases h1 : a0_1 = a1_1
    · have hb1 : (a0_1 != a1_1) = false := by rw [h1]; simp
      have E1 := Aside0.mk h1
      clear h1
      go_wp2
      go_ret
      exact ⟨ret_bool (same_true (by rw [E0.out, E1.out])), HB0.out⟩
    · have hb1 : (a0_1 != a1_1) = true := by simpa using h1
      have E1 := Aside0.mk h1
      clear h1
      go_wp2
      go_ret
      exact ⟨ret_bool (same_false (fun h => E1.out (congrArg (fun x : S29 => x.f1) h))), HB0.out⟩
  · rw [← same_false h0]
    have E0 := Aside0.mk h0
    clear h0
    go_wp2
    go_ret
    exact ⟨ret_bool (same_false (fun h => E0.out (congrArg (fun x : S29 => x.f0) h))), HB0.out⟩
end Go.Proofs.Ytphmnkcfjgallaa.Q
namespace Go.Proofs.Ytphmnkcfjgallaa.Q
open Go.RowKit Go.Proofs.YtphmnkcfjgallaaW.PrintWords Go.Proofs.YtphmnkcfjgallaaW.PrintLast Go.Proofs.YtphmnkcfjgallaaW.PrintMore
attribute [local go_sem] max2_int min2_int max_two min_two max_three min_three max_four min_four   -- for this text's walks alone
set_option linter.unusedVariables false
set_option linter.unusedSimpArgs false
noncomputable def laws_toLedger.f (k : Nat) (l0_0 : List (S93)) (a0_1 : Int) : Option ((List (S34)) × Int) := (laws_toEntryS.f k l0_0).bind fun t104 => (some (t104, a0_1))
set_option maxHeartbeats 8000000 in
set_option maxRecDepth 100000 in
theorem laws_toLedger.calls (k : Nat) (A0_0 : Option Addr) (c0_0 : Nat) (l0_0 : List (S93)) (a0_1 : Int) (r1 : List (S34)) (r2 : Int) (w : World) (hr0_0 : Kd.C k93 w A0_0 l0_0.length l0_0) (hc0_0 : l0_0.length ≤ c0_0) (h : laws_toLedger.f k l0_0 a0_1 = some (r1, r2)) :
    Calls Try.prog 49 #[.agg #[.slice A0_0 l0_0.length c0_0, .int .i64 a0_1]] w fun e w' => ∃ v0_ : Value, e = .returned (.agg #[v0_, .int .i64 r2]) ∧ Kd.S k34 34 w' w.heap.size (fun _ => True) v0_ r1 ∧ Below w.heap.size w w' := by
  have hu62 := Try.underlying62
  have hu29 := Try.underlying29
  have HR0_0 := Aside0.mk hr0_0
  have HC0_0 := Aside0.mk hc0_0
  clear hr0_0 hc0_0
  have HB := Aside0.mk (Below.refl w.heap.size w)
  have H : ((laws_toEntryS.f k l0_0).bind fun t104 => (some (t104, a0_1))) = some (r1, r2) := h
  clear h
  replace H := Option.bind_eq_some_iff.mp H
  obtain ⟨t104, A20, H⟩ := H
  replace H : (some (t104, a0_1)) = some (r1, r2) := H
  have A2 := Aside0.mk A20
  clear A20
  simp only [Option.some.injEq, Prod.mk.injEq] at H
  obtain ⟨rfl, rfl⟩ := H
  go_enter Try.func49, Try.ntmps49
  go_wp2_with (first | ((with_reducible refine gate_dst (N := 1) rfl ?_); refine box_event ?hg (N := 1) ?hd (cs := #[.slice A0_0 l0_0.length c0_0, .int .i64 a0_1]) (t := 62) ?hr ?_; (case hd => rfl); (case hg => rfl); (case hr => first | (go_simp; done) | (go_simp; rfl)); intro gb101 hg w3 hbox hb; have n0_ := Aside0.mk (below_step (by repeat (first | (with_reducible first | exact HB.out | apply below_alloc | apply pw_below_drewN | apply below_drew1) | exact HB.out)) hb); have n1_ := Aside0.mk (hbox); have n2_ := Aside0.mk ((by rw [hg]; exact (below_size (by repeat (first | (with_reducible first | exact HB.out | apply below_alloc | apply pw_below_drewN | apply below_drew1) | exact HB.out))) : w.heap.size ≤ gb101)); have n3_ := Aside0.mk ((by rw [hg]; exact (below_size (by repeat (first | (with_reducible first | exact HB.out | apply below_alloc | apply pw_below_drewN | apply below_drew1) | exact HB.out))) : w.heap.size ≤ gb101)); clear HB; have HB := n0_; have BK101 := n1_; have GW101 := n2_; have GE101 := n3_; clear n0_ n1_ n2_ n3_; clear hb hbox hg) | ((with_reducible refine gate_dst (N := 2) rfl ?_); refine box_event ?hg (N := 2) ?hd (cs := #[.slice none 0 0, .int .i64 0]) (t := 29) ?hr ?_; (case hd => rfl); (case hg => rfl); (case hr => first | (go_simp; done) | (go_simp; rfl)); intro gb102 hg w4 hbox hb; have n0_ := Aside0.mk (blk_below (g := gb101) (o := .cells #[.slice A0_0 l0_0.length c0_0, .int .i64 a0_1] 62 (0, 0)) (by (with_reducible repeat (first | refine blk_drewN ?_ _ | refine blk_drew ?_ | refine blk_alloc ?_ _)); exact BK101.out) hb); have n1_ := Aside0.mk (below_step (by repeat (first | (with_reducible first | exact HB.out | apply below_alloc | apply pw_below_drewN | apply below_drew1 | refine below_set ?_ GE101.out) | exact HB.out)) hb); have n2_ := Aside0.mk (hbox); have n3_ := Aside0.mk ((by rw [hg]; exact (below_size (by repeat (first | (with_reducible first | exact HB.out | apply below_alloc | apply pw_below_drewN | apply below_drew1 | refine below_set ?_ GE101.out) | exact HB.out))) : w.heap.size ≤ gb102)); have n4_ := Aside0.mk ((by rw [hg]; exact (below_size (by repeat (first | (with_reducible first | exact HB.out | apply below_alloc | apply pw_below_drewN | apply below_drew1 | refine below_set ?_ GE101.out) | exact HB.out))) : w.heap.size ≤ gb102)); have n5_ := Aside0.mk ((by rw [hg]; exact Nat.ne_of_lt (blk_lt (g := gb101) (o := .cells #[.slice A0_0 l0_0.length c0_0, .int .i64 a0_1] 62 (0, 0)) (by (with_reducible repeat (first | refine blk_drewN ?_ _ | refine blk_drew ?_ | refine blk_alloc ?_ _)); exact BK101.out)) : gb101 ≠ gb102)); have n6_ := Aside0.mk ((by rw [hg]; exact Nat.ne_of_gt (blk_lt (g := gb101) (o := .cells #[.slice A0_0 l0_0.length c0_0, .int .i64 a0_1] 62 (0, 0)) (by (with_reducible repeat (first | refine blk_drewN ?_ _ | refine blk_drew ?_ | refine blk_alloc ?_ _)); exact BK101.out)) : gb102 ≠ gb101)); clear BK101; clear HB; have BK101 := n0_; have HB := n1_; have BK102 := n2_; have GW102 := n3_; have GE102 := n4_; have NB101_102 := n5_; have NB102_101 := n6_; clear n0_ n1_ n2_ n3_ n4_ n5_ n6_; clear hb hbox hg) | ((with_reducible refine gate_dst (N := 3) rfl ?_); refine box_event ?hg (N := 3) ?hd (cs := #[.slice none 0 0, .int .i64 0]) (t := 29) ?hr ?_; (case hd => rfl); (case hg => rfl); (case hr => first | (go_simp; done) | (go_simp; rfl)); intro gb103 hg w5 hbox hb; have n0_ := Aside0.mk (blk_below (g := gb101) (o := .cells #[.slice A0_0 l0_0.length c0_0, .int .i64 a0_1] 62 (0, 0)) (by (with_reducible repeat (first | refine blk_drewN ?_ _ | refine blk_drew ?_ | refine blk_alloc ?_ _)); exact BK101.out) hb); have n1_ := Aside0.mk (blk_below (g := gb102) (o := .cells #[.slice none 0 0, .int .i64 0] 29 (0, 0)) (by (with_reducible repeat (first | refine blk_drewN ?_ _ | refine blk_drew ?_ | refine blk_alloc ?_ _)); exact BK102.out) hb); have n2_ := Aside0.mk (below_step (by repeat (first | (with_reducible first | exact HB.out | apply below_alloc | apply pw_below_drewN | apply below_drew1 | refine below_set ?_ GE101.out | refine below_set ?_ GE102.out) | exact HB.out)) hb); have n3_ := Aside0.mk (hbox); have n4_ := Aside0.mk ((by rw [hg]; exact (below_size (by repeat (first | (with_reducible first | exact HB.out | apply below_alloc | apply pw_below_drewN | apply below_drew1 | refine below_set ?_ GE101.out | refine below_set ?_ GE102.out) | exact HB.out))) : w.heap.size ≤ gb103)); have n5_ := Aside0.mk ((by rw [hg]; exact (below_size (by repeat (first | (with_reducible first | exact HB.out | apply below_alloc | apply pw_below_drewN | apply below_drew1 | refine below_set ?_ GE101.out | refine below_set ?_ GE102.out) | exact HB.out))) : w.heap.size ≤ gb103)); have n6_ := Aside0.mk ((by rw [hg]; exact Nat.ne_of_lt (blk_lt (g := gb101) (o := .cells #[.slice A0_0 l0_0.length c0_0, .int .i64 a0_1] 62 (0, 0)) (by (with_reducible repeat (first | refine blk_drewN ?_ _ | refine blk_drew ?_ | refine blk_alloc ?_ _)); exact BK101.out)) : gb101 ≠ gb103)); have n7_ := Aside0.mk ((by rw [hg]; exact Nat.ne_of_gt (blk_lt (g := gb101) (o := .cells #[.slice A0_0 l0_0.length c0_0, .int .i64 a0_1] 62 (0, 0)) (by (with_reducible repeat (first | refine blk_drewN ?_ _ | refine blk_drew ?_ | refine blk_alloc ?_ _)); exact BK101.out)) : gb103 ≠ gb101)); have n8_ := Aside0.mk ((by rw [hg]; exact Nat.ne_of_lt (blk_lt (g := gb102) (o := .cells #[.slice none 0 0, .int .i64 0] 29 (0, 0)) (by (with_reducible repeat (first | refine blk_drewN ?_ _ | refine blk_drew ?_ | refine blk_alloc ?_ _)); exact BK102.out)) : gb102 ≠ gb103)); have n9_ := Aside0.mk ((by rw [hg]; exact Nat.ne_of_gt (blk_lt (g := gb102) (o := .cells #[.slice none 0 0, .int .i64 0] 29 (0, 0)) (by (with_reducible repeat (first | refine blk_drewN ?_ _ | refine blk_drew ?_ | refine blk_alloc ?_ _)); exact BK102.out)) : gb103 ≠ gb102)); clear BK101; clear BK102; clear HB; have BK101 := n0_; have BK102 := n1_; have HB := n2_; have BK103 := n3_; have GW103 := n4_; have GE103 := n5_; have NB101_103 := n6_; have NB103_101 := n7_; have NB102_103 := n8_; have NB103_102 := n9_; clear n0_ n1_ n2_ n3_ n4_ n5_ n6_ n7_ n8_ n9_; clear hb hbox hg; have hnb6 := NB101_102.out; have hnc6 := NB102_101.out; have hnb7 := NB101_103.out; have hnc7 := NB103_101.out; have hcz8_0 : w5.cell? ⟨gb101, 0, none⟩ = some (.slice A0_0 l0_0.length c0_0) := (blk_cell BK101.out 0).trans rfl; have hcz8_1 : w5.cell? ⟨gb101, 1, none⟩ = some (.int .i64 a0_1) := (blk_cell BK101.out 1).trans rfl; have hfz8_0 := blk_frozen BK101.out 0; have hfz8_1 := blk_frozen BK101.out 1) | ((with_reducible refine gate_callee (f := 116) rfl ?_); refine goesL_ (some 6) rfl rfl Try.func116 (by kernel_rfl) rfl #[.slice A0_0 l0_0.length c0_0] rfl (by (try simp only [List.map_toArray, List.map_cons, List.map_nil]); first | done | rfl | (simp only [List.length_drop, List.length_take]; rfl)) ?_; (with_reducible refine (laws_toEntryS.calls k _ _ l0_0 t104 _ ?side1 ?side2 A2.out).mono ?_); (case side1 => repeat (first | exact (Kd.C_below HR0_0.out HB.out) | (with_reducible refine Kd.C_alloc ?_ _) | (with_reducible refine Kd.C_drewN ?_ _) | (with_reducible refine Kd.C_drew ?_))); (case side2 => exact HC0_0.out); rintro e w9 ⟨v105, rfl, ho0, hb⟩; refine ⟨_, rfl, ?_⟩; have n0_ := Aside0.mk (Kd.S_lower ho0 (below_size (by repeat (first | (with_reducible first | exact HB.out | apply below_alloc | apply pw_below_drewN | apply below_drew1 | refine below_set ?_ GE101.out | refine below_set ?_ GE102.out | refine below_set ?_ GE103.out) | exact HB.out)))); have n1_ := Aside0.mk (blk_below (g := gb101) (o := .cells #[.slice A0_0 l0_0.length c0_0, .int .i64 a0_1] 62 (0, 0)) (by (with_reducible repeat (first | refine blk_drewN ?_ _ | refine blk_drew ?_ | refine blk_alloc ?_ _)); exact BK101.out) hb); have n2_ := Aside0.mk (blk_below (g := gb102) (o := .cells #[.slice none 0 0, .int .i64 0] 29 (0, 0)) (by (with_reducible repeat (first | refine blk_drewN ?_ _ | refine blk_drew ?_ | refine blk_alloc ?_ _)); exact BK102.out) hb); have n3_ := Aside0.mk (blk_below (g := gb103) (o := .cells #[.slice none 0 0, .int .i64 0] 29 (0, 0)) (by (with_reducible repeat (first | refine blk_drewN ?_ _ | refine blk_drew ?_ | refine blk_alloc ?_ _)); exact BK103.out) hb); have n4_ := Aside0.mk (below_step (by repeat (first | (with_reducible first | exact HB.out | apply below_alloc | apply pw_below_drewN | apply below_drew1 | refine below_set ?_ GE101.out | refine below_set ?_ GE102.out | refine below_set ?_ GE103.out) | exact HB.out)) hb); clear BK101; clear BK102; clear BK103; clear HB; have HO106 := n0_; have BK101 := n1_; have BK102 := n2_; have BK103 := n3_; have HB := n4_; clear n0_ n1_ n2_ n3_ n4_; (try clear hb); (try clear hb2); (try clear hk); (try clear hi); (try clear ho0); obtain ⟨Ao10, co10, eo10⟩ := Kd.S_slice HO106.out; subst eo10; have hnb11 := NB103_102.out; have hnc11 := NB102_103.out; have hcz12_0 : w9.cell? ⟨gb103, 0, none⟩ = some (.slice none 0 0) := (blk_cell BK103.out 0).trans rfl; have hcz12_1 : w9.cell? ⟨gb103, 1, none⟩ = some (.int .i64 0) := (blk_cell BK103.out 1).trans rfl; have hfz12_0 := blk_frozen BK103.out 0; have hfz12_1 := blk_frozen BK103.out 1; have hcz13_0 : w9.cell? ⟨gb101, 0, none⟩ = some (.slice A0_0 l0_0.length c0_0) := (blk_cell BK101.out 0).trans rfl; have hcz13_1 : w9.cell? ⟨gb101, 1, none⟩ = some (.int .i64 a0_1) := (blk_cell BK101.out 1).trans rfl; have hfz13_0 := blk_frozen BK101.out 0; have hfz13_1 := blk_frozen BK101.out 1; have hcz14_0 : w9.cell? ⟨gb102, 0, none⟩ = some (.slice none 0 0) := (blk_cell BK102.out 0).trans rfl; have hcz14_1 : w9.cell? ⟨gb102, 1, none⟩ = some (.int .i64 0) := (blk_cell BK102.out 1).trans rfl; have hfz14_0 := blk_frozen BK102.out 0; have hfz14_1 := blk_frozen BK102.out 1))
  refine bodyPost_ret (results_cell_row rfl _ _ gb102 29 #[.slice Ao10 t104.length co10, .int .i64 a0_1] (0, 0) _ rfl (by (with_reducible repeat (first | refine blk_drewN ?_ _ | refine blk_drew ?_ | refine blk_alloc ?_ _)); refine blk_put (cs := #[.slice Ao10 t104.length co10, .int .i64 0]) ?_ 1 _ rfl; (with_reducible repeat (first | refine blk_drewN ?_ _ | refine blk_drew ?_ | refine blk_alloc ?_ _)); refine blk_put (cs := #[.slice none 0 0, .int .i64 0]) ?_ 0 _ rfl; (with_reducible repeat (first | refine blk_drewN ?_ _ | refine blk_drew ?_ | refine blk_alloc ?_ _)); refine blk_far ?_ NB102_103.out _; (with_reducible repeat (first | refine blk_drewN ?_ _ | refine blk_drew ?_ | refine blk_alloc ?_ _)); refine blk_far ?_ NB102_103.out _; (with_reducible repeat (first | refine blk_drewN ?_ _ | refine blk_drew ?_ | refine blk_alloc ?_ _)); exact BK102.out) Try.underlying29 rfl (by kernel_rfl)) rfl ?_
  exact ⟨_, by first | rfl | (simp [errW_none, errW_some] <;> rfl) | (simp [*, errW_none, errW_some] <;> rfl), by (with_reducible repeat (first | apply Kd.S_alloc | apply Kd.S_drewN | apply Kd.S_drew)); exact Kd.S_mono (Kd.S_far (p := ⟨gb102, 1, none⟩) (Kd.S_far (p := ⟨gb102, 0, none⟩) (Kd.S_far (p := ⟨gb103, 1, none⟩) (Kd.S_far (p := ⟨gb103, 0, none⟩) (Kd.S_types (Kd.S_types HO106.out BK103.out (by decide)) BK102.out (by decide)) (fun _ hk => hk.1.2) (.slice Ao10 t104.length co10)) (fun _ hk => hk.1.2) (.int .i64 a0_1)) (fun _ hk => hk.2) (.slice Ao10 t104.length co10)) (fun _ hk => hk.2) (.int .i64 a0_1)) (fun _ hk => trivial), by repeat (first | (with_reducible first | exact HB.out | apply below_alloc | apply pw_below_drewN | apply below_drew1 | refine below_set ?_ GE101.out | refine below_set ?_ GE102.out | refine below_set ?_ GE103.out) | exact HB.out)⟩
end Go.Proofs.Ytphmnkcfjgallaa.Q
namespace Go.Proofs.Ytphmnkcfjgallaa.Q
open Go.RowKit Go.Proofs.YtphmnkcfjgallaaW.PrintWords Go.Proofs.YtphmnkcfjgallaaW.PrintLast Go.Proofs.YtphmnkcfjgallaaW.PrintMore
attribute [local go_sem] max2_int min2_int max_two min_two max_three min_three max_four min_four   -- for this text's walks alone
set_option linter.unusedVariables false
set_option linter.unusedSimpArgs false
open Classical in
noncomputable def textB (s : ByteArray) : Bool := decide (textUpto s s.size ∧ s.size ≤ 40)
open Classical in
theorem textB_iff {s : ByteArray} : textB s = true ↔ textUpto s s.size ∧ s.size ≤ 40 := by unfold textB; rw [decide_eq_true_eq]
theorem textB_not {s : ByteArray} (h : ¬ (textUpto s s.size ∧ s.size ≤ 40)) : false = textB s := by
  cases hb : textB s with
  | false => rfl
  | true => exact absurd (textB_iff.1 hb) h
set_option maxHeartbeats 4000000 in
set_option maxRecDepth 100000 in
theorem spec_l5TextOk.to (s : ByteArray) (w : World) (hm : s.size ≤ maxLen) : Calls Try.prog 135 #[.string s] w fun x w' => x = .returned (.bool (textB s)) ∧ w' = w := by
  have hm' : (s.size : Int) ≤ 9223372036854775807 := by unfold maxLen at hm; omega
  go_enter Try.func135, Try.ntmps135
  go_wp2_with fail
  go_loop [3] (fun v => ∃ i : Int, 0 ≤ i ∧ i ≤ (s.size : Int) ∧ v = .int .i64 i ∧ Aside0 (textUpto s i)) (fun v => (s.size - (intOf v).toNat))
  case atStart => exact ⟨0, by omega, by omega, rfl, ⟨fun j h0 h1 => by omega⟩⟩
  case round =>
    obtain ⟨i, hi0, hi1, rfl, HT⟩ := hrel
    by_cases hlt : i < (s.size : Int)
    · have hx := bt_at s i
      by_cases hb : 32 ≤ bt s i
      · have HB := Aside0.mk (textUpto_step hi0 HT.out hb)
        go_wp2_with fail
        go_round
        case rel => exact ⟨i + 1, by omega, by omega, rfl, HB⟩
        case measure => simp [intOf]; omega
      · have HB := Aside0.mk (textB_not (fun q => hb (q.1 i hi0 hlt)))
        go_wp2_with fail
        go_ret
        exact ⟨ret_bool HB.out, rfl⟩
    · have HTX := Aside0.mk (show textUpto s s.size from fun j h0 h1 => HT.out j h0 (by omega))
      clear HT
      by_cases h4 : s.size ≤ 40
      · have h4' : (s.size : Int) ≤ 40 := by omega
        go_wp2_with fail
        go_ret
        exact ⟨ret_bool (by rw [textB_iff.2 ⟨HTX.out, h4⟩]), rfl⟩
      · go_wp2_with fail
        go_ret
        exact ⟨ret_bool (by rw [← textB_not (fun q => h4 q.2)]; simp; omega), rfl⟩
open Classical in
noncomputable def lineB (chart : List Acc) (dims curs : Int) (x : Lin) : Bool := decide (lineP chart dims curs x)
open Classical in
theorem lineB_true {chart : List Acc} {dims curs : Int} {x : Lin} : lineB chart dims curs x = true ↔ lineP chart dims curs x := by unfold lineB; rw [decide_eq_true_eq]
theorem lineB_not {chart : List Acc} {dims curs : Int} {x : Lin} (h : ¬ lineP chart dims curs x) : false = lineB chart dims curs x := by
  cases hb : lineB chart dims curs x with
  | false => rfl
  | true => exact absurd (lineB_true.1 hb) h
set_option maxHeartbeats 4000000 in
set_option maxRecDepth 100000 in
theorem spec_l5LineOk.to (A0 : Option Addr) (c0 : Nat) (l0 : List Acc) (dims curs : Int) (x : Lin) (w : World) (hr0 : Kd.C k131 w A0 l0.length l0) (hs : ∀ x ∈ l0, x.f0.size ≤ maxLen) (hch : chartOk l0 = true) (hd : 1 ≤ dims ∧ dims ≤ 20) (hc : 1 ≤ curs ∧ curs ≤ 20) :
    Calls Try.prog 136 #[.agg #[.slice A0 l0.length c0, .int .i64 dims, .int .i64 curs], .agg #[.int .i64 x.f0, .int .i64 x.f1, .int .i64 x.f2, .int .i64 x.f3, .int .i64 x.f4]] w fun e w' => e = .returned (.bool (lineB l0 dims curs x)) ∧ Below w.heap.size w w' := by
  have hl := hr0.2.1
  have hlen := (chartOk_iff.1 hch).2.1
  have H0 := Aside0.mk (Kd.C_below hr0 (below_two w (.cells #[.slice A0 l0.length c0, .int .i64 dims, .int .i64 curs] 26) (.cells #[.int .i64 x.f0, .int .i64 x.f1, .int .i64 x.f2, .int .i64 x.f3, .int .i64 x.f4] 112)))
  have HS := Aside0.mk hs
  have HCH := Aside0.mk hch
  obtain ⟨hd0, hd1⟩ := hd
  obtain ⟨hc0, hc1⟩ := hc
  clear hr0 hs hch
  go_enter Try.func136, Try.ntmps136
  go_wp2_with fail
  refine (spec_l1In.to _ _ _ _).mono ?_
  rintro e w' ⟨rfl, rfl⟩
  cases h1 : inB x.f0 0 ((l0.length : Int) - 1) with
  | false =>
    have HN := Aside0.mk (lineB_not (fun q => inB_false.1 h1 ⟨q.1.1, by have := q.1.2.1; omega⟩) : false = lineB l0 dims curs x)
    clear h1
    go_wp2_with fail
    go_ret
    exact ⟨ret_bool HN.out, below_two _ _ _⟩
  | true =>
    clear h1
    go_wp2_with fail
    refine (spec_Leaf.to A0 c0 l0 x.f0 _ H0.out HS.out).mono ?_
    rintro e w1 ⟨rfl, hb⟩
    have HB := Aside0.mk (below_into (w := w) hb (below_two _ _ _))
    have f1 : w1.cell? ⟨w.heap.size, 1, none⟩ = some (.int .i64 dims) := pw_cell_below hb (by go_simp)
    have f2 : w1.cell? ⟨w.heap.size, 2, none⟩ = some (.int .i64 curs) := pw_cell_below hb (by go_simp)
    have x1 : w1.cell? ⟨w.heap.size + 1, 1, none⟩ = some (.int .i64 x.f1) := pw_cell_below hb (by go_simp)
    have x2 : w1.cell? ⟨w.heap.size + 1, 2, none⟩ = some (.int .i64 x.f2) := pw_cell_below hb (by go_simp)
    have x3 : w1.cell? ⟨w.heap.size + 1, 3, none⟩ = some (.int .i64 x.f3) := pw_cell_below hb (by go_simp)
    have x4 : w1.cell? ⟨w.heap.size + 1, 4, none⟩ = some (.int .i64 x.f4) := pw_cell_below hb (by go_simp)
    clear hb
    rw [HCH.out, Bool.true_and]
    cases h2 : leafB l0 x.f0 with
    | false =>
      have HN := Aside0.mk (lineB_not (fun q => by have := leafB_of q.1; rw [h2] at this; cases this) : false = lineB l0 dims curs x)
      clear h2
      go_wp2_with fail
      go_ret
      exact ⟨ret_bool HN.out, HB.out⟩
    | true =>
      have HLF := Aside0.mk (leafB_true.1 h2)
      clear h2
      go_wp2_with fail
      refine (spec_l1In.to _ _ _ _).mono ?_
      rintro e w' ⟨rfl, rfl⟩
      cases h3 : inB x.f1 0 (dims - 1) with
      | false =>
        have HN := Aside0.mk (lineB_not (fun q => inB_false.1 h3 q.2.1) : false = lineB l0 dims curs x)
        clear h3
        go_wp2_with fail
        go_ret
        exact ⟨ret_bool HN.out, HB.out⟩
      | true =>
        have HDM := Aside0.mk (inB_true.1 h3)
        clear h3
        go_wp2_with fail
        refine (spec_l1In.to _ _ _ _).mono ?_
        rintro e w' ⟨rfl, rfl⟩
        cases h4 : inB x.f2 0 (curs - 1) with
        | false =>
          have HN := Aside0.mk (lineB_not (fun q => inB_false.1 h4 q.2.2.1) : false = lineB l0 dims curs x)
          clear h4
          go_wp2_with fail
          go_ret
          exact ⟨ret_bool HN.out, HB.out⟩
        | true =>
          have HCR := Aside0.mk (inB_true.1 h4)
          clear h4
          go_wp2_with fail
          refine (spec_l1Amount.to _ _).mono ?_
          rintro e w' ⟨rfl, rfl⟩
          cases h5 : inB x.f3 (-100000000000) 100000000000 with
          | false =>
            have HN := Aside0.mk (lineB_not (fun q => inB_false.1 h5 q.2.2.2.1) : false = lineB l0 dims curs x)
            clear h5
            go_wp2_with fail
            go_ret
            exact ⟨ret_bool HN.out, HB.out⟩
          | true =>
            have HAM := Aside0.mk (inB_true.1 h5)
            clear h5
            go_wp2_with fail
            refine (spec_l1Amount.to _ _).mono ?_
            rintro e w' ⟨rfl, rfl⟩
            cases h6 : inB x.f4 (-100000000000) 100000000000 with
            | false =>
              have HN := Aside0.mk (lineB_not (fun q => inB_false.1 h6 q.2.2.2.2.1) : false = lineB l0 dims curs x)
              clear h6
              go_wp2_with fail
              go_ret
              exact ⟨ret_bool HN.out, HB.out⟩
            | true =>
              have HBS := Aside0.mk (inB_true.1 h6)
              clear h6
              by_cases h7 : x.f2 = 0
              · have h7b : (x.f2 != 0) = false := by rw [h7]; rfl
                by_cases h8 : x.f3 = x.f4
                · have HY := Aside0.mk (lineB_true.2 (show lineP l0 dims curs x from ⟨HLF.out, HDM.out, HCR.out, HAM.out, HBS.out, fun _ => h8⟩))
                  have h8b : (x.f3 == x.f4) = true := beq_iff_eq.2 h8
                  clear h7 h8
                  go_wp2_with fail
                  go_ret
                  exact ⟨ret_bool HY.out.symm, HB.out⟩
                · have HN := Aside0.mk (lineB_not (fun q => h8 (q.2.2.2.2.2 h7)) : false = lineB l0 dims curs x)
                  have h8b : (x.f3 == x.f4) = false := beq_eq_false_iff_ne.2 h8
                  clear h7 h8
                  go_wp2_with fail
                  go_ret
                  exact ⟨ret_bool HN.out, HB.out⟩
              · have HY := Aside0.mk (lineB_true.2 (show lineP l0 dims curs x from ⟨HLF.out, HDM.out, HCR.out, HAM.out, HBS.out, fun q => absurd q h7⟩))
                have h7b : (x.f2 != 0) = true := bne_iff_ne.2 h7
                clear h7
                go_wp2_with fail
                go_ret
                exact ⟨ret_bool HY.out.symm, HB.out⟩
end Go.Proofs.Ytphmnkcfjgallaa.Q
namespace Go.Proofs.Ytphmnkcfjgallaa.Q
open Go.RowKit Go.Proofs.YtphmnkcfjgallaaW.PrintWords Go.Proofs.YtphmnkcfjgallaaW.PrintLast Go.Proofs.YtphmnkcfjgallaaW.PrintMore
attribute [local go_sem] max2_int min2_int max_two min_two max_three min_three max_four min_four   -- for this text's walks alone
set_option linter.unusedVariables false
set_option linter.unusedSimpArgs false
set_option maxHeartbeats 4000000 in
set_option maxRecDepth 100000 in
theorem impl_FrameOk.to (A0 : Option Addr) (c0 : Nat) (l0 : List Acc) (dims curs : Int) (w : World) (hr0 : Kd.C k131 w A0 l0.length l0) (hs : ∀ x ∈ l0, x.f0.size ≤ maxLen) :
    Calls Try.prog 93 #[.agg #[.slice A0 l0.length c0, .int .i64 dims, .int .i64 curs]] w fun e w' => e = .returned (.bool (frameB l0 dims curs)) ∧ Below w.heap.size w w' := by
  have H0 := Aside0.mk hr0
  clear hr0
  unfold frameB
  go_enter Try.func93, Try.ntmps93
  go_wp2_with fail
  refine (impl_between.to dims _ _ _).mono ?_
  rintro e w5 ⟨rfl, rfl⟩
  cases hinB : inB dims 1 20 with
  | false =>
    go_wp2_with fail
    go_ret
    exact ⟨ret_bool (by simp [hinB]), below_alloc (Below.refl _ _) _⟩
  | true =>
    go_wp2_with fail
    refine (impl_between.to curs _ _ _).mono ?_
    rintro e w6 ⟨rfl, rfl⟩
    cases hinC : inB curs 1 20 with
    | false =>
      go_wp2_with fail
      go_ret
      exact ⟨ret_bool (by simp [hinB, hinC]), below_alloc (Below.refl _ _) _⟩
    | true =>
      go_wp2_with fail
      refine (impl_ChartOk.to A0 c0 l0 _ (Kd.C_below H0.out (below_alloc (Below.refl _ _) _)) hs).mono ?_
      rintro e w1 ⟨rfl, hb⟩
      have HB := Aside0.mk (below_into (w := w) hb (below_alloc (Below.refl _ _) _))
      have s0 : w1.cell? ⟨w.heap.size, 0, none⟩ = some (.slice A0 l0.length c0) := pw_cell_below hb (by go_simp)
      have s1 : w1.cell? ⟨w.heap.size, 1, none⟩ = some (.int .i64 dims) := pw_cell_below hb (by go_simp)
      have s2 : w1.cell? ⟨w.heap.size, 2, none⟩ = some (.int .i64 curs) := pw_cell_below hb (by go_simp)
      clear hb
      cases hch : chartOk l0 with
      | false =>
        go_wp2_with fail
        go_ret
        exact ⟨ret_bool (by simp [hinB, hinC, hch]), HB.out⟩
      | true =>
        go_wp2_with fail
        go_ret
        exact ⟨ret_bool (by simp [hinB, hinC, hch]), HB.out⟩
end Go.Proofs.Ytphmnkcfjgallaa.Q
