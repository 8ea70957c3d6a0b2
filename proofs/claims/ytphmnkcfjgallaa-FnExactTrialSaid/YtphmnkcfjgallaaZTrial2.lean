/- Parts of the proof: what functions of the program and of the reference answer.
   No condition. -/
import Derived.Test.YtphmnkcfjgallaaZC1
import Derived.Test.YtphmnkcfjgallaaZC4
import Derived.Test.YtphmnkcfjgallaaZTrial1
import Derived.Test.YtphmnkcfjgallaaZC3
import Derived.Test.YtphmnkcfjgallaaZL3
import Derived.Test.YtphmnkcfjgallaaZM1
import Derived.Test.YtphmnkcfjgallaaZL1
import Derived.Test.YtphmnkcfjgallaaZL2
import Derived.Test.YtphmnkcfjgallaaZM2
namespace Go.Proofs.Ytphmnkcfjgallaa.Q
open Go.RowKit Go.Proofs.YtphmnkcfjgallaaW.PrintWords Go.Proofs.YtphmnkcfjgallaaW.PrintLast Go.Proofs.YtphmnkcfjgallaaW.PrintMore
attribute [local go_sem] max2_int min2_int max_two min_two max_three min_three max_four min_four   -- for this text's walks alone
set_option linter.unusedVariables false
set_option linter.unusedSimpArgs false

/-! ### spec_Trial: function 48 -/
noncomputable def spec_Trial.l0 : Nat → Int → List Int → Int → List (S131) → Int → Int → List (S34) → Int → Option (List Int)
  | 0, _, _, _, _, _, _, _, _ => none
  | k + 1, x2, x7, x8, x213000, x213001, x213002, x214000, x214001 => if x8 < (x213000.length : Int) then ((spec_Balance.f x214000 x214001 x8 (-1) (-1) 0 x2).bind fun bt218 => (if x7.length < 17592186044416 then (spec_Trial.l0 k x2 (x7 ++ [bt218.2]) (wrap64 (x8 + 1)) x213000 x213001 x213002 x214000 x214001) else (none))) else (some x7)
noncomputable def spec_Trial.f (k : Nat) (l0_0 : List (S131)) (a0_1 : Int) (a0_2 : Int) (l1_0 : List (S34)) (a1_1 : Int) (a2 : Int) : Option (List Int) := (some (([] : List Int) : List Int)).bind fun y214 => ((spec_LedgerOk.f l0_0 a0_1 a0_2 l1_0 a1_1).bind fun t217 => (if t217 = true then (spec_Trial.l0 k a2 y214 0 l0_0 a0_1 a0_2 l1_0 a1_1) else (some y214)))
theorem spec_Trial.mono_l : ∀ k, (∀ y0 y1 y2 y3 y4 y5 y6 y7, LeO (spec_Trial.l0 k y0 y1 y2 y3 y4 y5 y6 y7) (spec_Trial.l0 (k + 1) y0 y1 y2 y3 y4 y5 y6 y7))
  | 0 => fun _ _ _ _ _ _ _ _ r h => by simp [spec_Trial.l0] at h
  | k + 1 => by
    have ih0 := spec_Trial.mono_l k
    · intro y0 y1 y2 y3 y4 y5 y6 y7
      unfold spec_Trial.l0
      repeat' first
      | (with_reducible exact ih0 _ _ _ _ _ _ _ _)
      | (with_reducible exact LeO.refl _)
      | (with_reducible exact LeO.none _)
      | (with_reducible refine LeO.ite ?_ ?_)
      | (with_reducible refine LeO.bind ?_ (fun _ => ?_))
      | exact ih0 _ _ _ _ _ _ _ _
      | exact LeO.none _
      | refine LeO.ite ?_ ?_
      | refine LeO.bind ?_ (fun _ => ?_)
theorem spec_Trial.mono : ∀ a0 a1 a2 a3 a4 a5 k, LeO (spec_Trial.f k a0 a1 a2 a3 a4 a5) (spec_Trial.f (k + 1) a0 a1 a2 a3 a4 a5) := by
  intro a0 a1 a2 a3 a4 a5 k
  have ih0 := spec_Trial.mono_l k
  unfold spec_Trial.f
  repeat' first
      | (with_reducible exact ih0 _ _ _ _ _ _ _ _)
      | (with_reducible exact LeO.refl _)
      | (with_reducible exact LeO.none _)
      | (with_reducible refine LeO.ite ?_ ?_)
      | (with_reducible refine LeO.bind ?_ (fun _ => ?_))
      | exact ih0 _ _ _ _ _ _ _ _
      | exact LeO.none _
      | refine LeO.ite ?_ ?_
      | refine LeO.bind ?_ (fun _ => ?_)
set_option maxHeartbeats 8000000 in
set_option maxRecDepth 100000 in
theorem spec_Trial.calls (k : Nat) (A0_0 : Option Addr) (c0_0 : Nat) (l0_0 : List (S131)) (a0_1 : Int) (a0_2 : Int) (A1_0 : Option Addr) (c1_0 : Nat) (l1_0 : List (S34)) (a1_1 : Int) (a2 : Int) (r : List Int) (w : World) (hr0_0 : Kd.C k131 w A0_0 l0_0.length l0_0) (hc0_0 : l0_0.length ≤ c0_0) (hr1_0 : Kd.C k34 w A1_0 l1_0.length l1_0) (hc1_0 : l1_0.length ≤ c1_0) (h : spec_Trial.f k l0_0 a0_1 a0_2 l1_0 a1_1 a2 = some r) :
    Calls Try.prog 48 #[.agg #[.slice A0_0 l0_0.length c0_0, .int .i64 a0_1, .int .i64 a0_2], .agg #[.slice A1_0 l1_0.length c1_0, .int .i64 a1_1], .int .i64 a2] w fun e w' => ∃ v0_ : Value, e = .returned (v0_) ∧ Kd.R (Kd.int .i64) 3 w' w.heap.size (fun _ => True) v0_ r ∧ Below w.heap.size w w' := by
  have hu26 := Try.underlying26
  have hu29 := Try.underlying29
  have HR0_0 := Aside0.mk hr0_0
  have HC0_0 := Aside0.mk hc0_0
  clear hr0_0 hc0_0
  have HR1_0 := Aside0.mk hr1_0
  have HC1_0 := Aside0.mk hc1_0
  clear hr1_0 hc1_0
  have HB := Aside0.mk (Below.refl w.heap.size w)
  have H : ((some (([] : List Int) : List Int)).bind fun y214 => ((spec_LedgerOk.f l0_0 a0_1 a0_2 l1_0 a1_1).bind fun t217 => (if t217 = true then (spec_Trial.l0 k a2 y214 0 l0_0 a0_1 a0_2 l1_0 a1_1) else (some y214)))) = some r := h
  clear h
  obtain ⟨y214, hy214⟩ : ∃ y_ : List Int, y_ = (([] : List Int)) := ⟨_, rfl⟩
  replace H : ((spec_LedgerOk.f l0_0 a0_1 a0_2 l1_0 a1_1).bind fun t217 => (if t217 = true then (spec_Trial.l0 k a2 y214 0 l0_0 a0_1 a0_2 l1_0 a1_1) else (some y214))) = some r := by first | (rw [hy214]; with_reducible exact H) | (have H2_ := (Option.bind_some _ _).symm.trans H; rw [hy214]; with_reducible exact H2_) | (have H2_ := (Option.bind_some _ _).symm.trans H; with_reducible exact H2_) | with_reducible exact H | (rw [hy214]; exact H) | exact H
  have Ny214 := Aside0.mk hy214
  clear hy214
  replace H := Option.bind_eq_some_iff.mp H
  obtain ⟨t217, A40, H⟩ := H
  replace H : (if t217 = true then (spec_Trial.l0 k a2 y214 0 l0_0 a0_1 a0_2 l1_0 a1_1) else (some y214)) = some r := H
  have A4 := Aside0.mk A40
  clear A40
  by_cases c5 : t217 = true
  · subst c5
    have H1 : (spec_Trial.l0 k a2 y214 0 l0_0 a0_1 a0_2 l1_0 a1_1) = some r := by rw [if_pos rfl] at H; exact H
    clear H
    have H := H1
    clear H1
    have H' := Aside0.mk H
    clear H
    go_enter Try.func48, Try.ntmps48
    go_wp2_with (first | ((with_reducible refine gate_dst (N := 3) rfl ?_); refine box_event ?hg (N := 3) ?hd (cs := #[.slice A0_0 l0_0.length c0_0, .int .i64 a0_1, .int .i64 a0_2]) (t := 26) ?hr ?_; (case hd => rfl); (case hg => rfl); (case hr => first | (go_simp; done) | (go_simp; rfl)); intro gb212 hg w6 hbox hb; have n0_ := Aside0.mk (below_step (by repeat (first | (with_reducible first | exact HB.out | apply below_alloc | apply pw_below_drewN | apply below_drew1) | exact HB.out)) hb); have n1_ := Aside0.mk (hbox); have n2_ := Aside0.mk ((by rw [hg]; exact (below_size (by repeat (first | (with_reducible first | exact HB.out | apply below_alloc | apply pw_below_drewN | apply below_drew1) | exact HB.out))) : w.heap.size ≤ gb212)); have n3_ := Aside0.mk ((by rw [hg]; exact (below_size (by repeat (first | (with_reducible first | exact HB.out | apply below_alloc | apply pw_below_drewN | apply below_drew1) | exact HB.out))) : w.heap.size ≤ gb212)); clear HB; have HB := n0_; have BK212 := n1_; have GW212 := n2_; have GE212 := n3_; clear n0_ n1_ n2_ n3_; clear hb hbox hg) | ((with_reducible refine gate_dst (N := 4) rfl ?_); refine box_event ?hg (N := 4) ?hd (cs := #[.slice A1_0 l1_0.length c1_0, .int .i64 a1_1]) (t := 29) ?hr ?_; (case hd => rfl); (case hg => rfl); (case hr => first | (go_simp; done) | (go_simp; rfl)); intro gb213 hg w7 hbox hb; have n0_ := Aside0.mk (blk_below (g := gb212) (o := .cells #[.slice A0_0 l0_0.length c0_0, .int .i64 a0_1, .int .i64 a0_2] 26 (0, 0)) (by (with_reducible repeat (first | refine blk_drewN ?_ _ | refine blk_drew ?_ | refine blk_alloc ?_ _)); exact BK212.out) hb); have n1_ := Aside0.mk (below_step (by repeat (first | (with_reducible first | exact HB.out | apply below_alloc | apply pw_below_drewN | apply below_drew1 | refine below_set ?_ GE212.out) | exact HB.out)) hb); have n2_ := Aside0.mk (hbox); have n3_ := Aside0.mk ((by rw [hg]; exact (below_size (by repeat (first | (with_reducible first | exact HB.out | apply below_alloc | apply pw_below_drewN | apply below_drew1 | refine below_set ?_ GE212.out) | exact HB.out))) : w.heap.size ≤ gb213)); have n4_ := Aside0.mk ((by rw [hg]; exact (below_size (by repeat (first | (with_reducible first | exact HB.out | apply below_alloc | apply pw_below_drewN | apply below_drew1 | refine below_set ?_ GE212.out) | exact HB.out))) : w.heap.size ≤ gb213)); have n5_ := Aside0.mk ((by rw [hg]; exact Nat.ne_of_lt (blk_lt (g := gb212) (o := .cells #[.slice A0_0 l0_0.length c0_0, .int .i64 a0_1, .int .i64 a0_2] 26 (0, 0)) (by (with_reducible repeat (first | refine blk_drewN ?_ _ | refine blk_drew ?_ | refine blk_alloc ?_ _)); exact BK212.out)) : gb212 ≠ gb213)); have n6_ := Aside0.mk ((by rw [hg]; exact Nat.ne_of_gt (blk_lt (g := gb212) (o := .cells #[.slice A0_0 l0_0.length c0_0, .int .i64 a0_1, .int .i64 a0_2] 26 (0, 0)) (by (with_reducible repeat (first | refine blk_drewN ?_ _ | refine blk_drew ?_ | refine blk_alloc ?_ _)); exact BK212.out)) : gb213 ≠ gb212)); clear BK212; clear HB; have BK212 := n0_; have HB := n1_; have BK213 := n2_; have GW213 := n3_; have GE213 := n4_; have NB212_213 := n5_; have NB213_212 := n6_; clear n0_ n1_ n2_ n3_ n4_ n5_ n6_; clear hb hbox hg) | ((with_reducible refine gate_dst (N := 11) rfl ?_); refine Kd.R_lit (Kd.int .i64) _ 3 ?hg (N := 11) ?hd (xs := ([] : List Int)) (inner := []) (ok := fun _ => True) (okp := fun _ => True) ?hr ?hp (fun _ hk => hk) trivial (Below.refl _ _) (Nat.le_refl _) (by simp) ?_; (case hd => rfl); (case hg => rfl); (case hr => first | (go_simp; done) | (go_simp; rfl)); (case hp => exact (Reps.none _ _)); intro v215 w8 ho9 hb hg_ hnew_; clear hg_ hnew_; (first | rw [← Ny214.out] at ho9 | (simp only [Int.reduceToNat] at ho9; rw [← Ny214.out] at ho9)); have n0_ := Aside0.mk (Kd.R_lower ho9 (below_size (by repeat (first | (with_reducible first | exact HB.out | apply below_alloc | apply pw_below_drewN | apply below_drew1 | refine below_set ?_ GE212.out | refine below_set ?_ GE213.out) | exact HB.out)))); have n1_ := Aside0.mk (blk_below (g := gb212) (o := .cells #[.slice A0_0 l0_0.length c0_0, .int .i64 a0_1, .int .i64 a0_2] 26 (0, 0)) (by (with_reducible repeat (first | refine blk_drewN ?_ _ | refine blk_drew ?_ | refine blk_alloc ?_ _)); exact BK212.out) hb); have n2_ := Aside0.mk (blk_below (g := gb213) (o := .cells #[.slice A1_0 l1_0.length c1_0, .int .i64 a1_1] 29 (0, 0)) (by (with_reducible repeat (first | refine blk_drewN ?_ _ | refine blk_drew ?_ | refine blk_alloc ?_ _)); exact BK213.out) hb); have n3_ := Aside0.mk (below_step (by repeat (first | (with_reducible first | exact HB.out | apply below_alloc | apply pw_below_drewN | apply below_drew1 | refine below_set ?_ GE212.out | refine below_set ?_ GE213.out) | exact HB.out)) hb); clear BK212; clear BK213; clear HB; have HO216 := n0_; have BK212 := n1_; have BK213 := n2_; have HB := n3_; clear n0_ n1_ n2_ n3_; clear hb ho9; have hnb10 := NB212_213.out; have hnc10 := NB213_212.out; have hcz11_0 : w8.cell? ⟨gb212, 0, none⟩ = some (.slice A0_0 l0_0.length c0_0) := (blk_cell BK212.out 0).trans rfl; have hcz11_1 : w8.cell? ⟨gb212, 1, none⟩ = some (.int .i64 a0_1) := (blk_cell BK212.out 1).trans rfl; have hcz11_2 : w8.cell? ⟨gb212, 2, none⟩ = some (.int .i64 a0_2) := (blk_cell BK212.out 2).trans rfl; have hfz11_0 := blk_frozen BK212.out 0; have hfz11_1 := blk_frozen BK212.out 1; have hfz11_2 := blk_frozen BK212.out 2; have hcz12_0 : w8.cell? ⟨gb213, 0, none⟩ = some (.slice A1_0 l1_0.length c1_0) := (blk_cell BK213.out 0).trans rfl; have hcz12_1 : w8.cell? ⟨gb213, 1, none⟩ = some (.int .i64 a1_1) := (blk_cell BK213.out 1).trans rfl; have hfz12_0 := blk_frozen BK213.out 0; have hfz12_1 := blk_frozen BK213.out 1) | ((with_reducible refine gate_callee (f := 78) rfl ?_); refine goesL_ (some 14) rfl rfl Try.func78 (by kernel_rfl) rfl #[.agg #[.slice A0_0 l0_0.length c0_0, .int .i64 a0_1, .int .i64 a0_2], .agg #[.slice A1_0 l1_0.length c1_0, .int .i64 a1_1]] rfl (by (try simp only [List.map_toArray, List.map_cons, List.map_nil]); first | done | rfl | (simp only [List.length_drop, List.length_take]; rfl)) ?_; (with_reducible refine (spec_LedgerOk.calls _ _ l0_0 a0_1 a0_2 _ _ l1_0 a1_1 true _ ?side1 ?side2 ?side3 ?side4 A4.out).mono ?_); (case side1 => repeat (first | exact (Kd.C_below HR0_0.out HB.out) | (with_reducible refine Kd.C_alloc ?_ _) | (with_reducible refine Kd.C_drewN ?_ _) | (with_reducible refine Kd.C_drew ?_))); (case side2 => exact HC0_0.out); (case side3 => repeat (first | exact (Kd.C_below HR1_0.out HB.out) | (with_reducible refine Kd.C_alloc ?_ _) | (with_reducible refine Kd.C_drewN ?_ _) | (with_reducible refine Kd.C_drew ?_))); (case side4 => exact HC1_0.out); rintro e w13 ⟨rfl, hb⟩; refine ⟨_, rfl, ?_⟩; have n0_ := Aside0.mk (Kd.R_below (by (with_reducible repeat (first | apply Kd.R_alloc | apply Kd.R_drewN | apply Kd.R_drew)); exact HO216.out) hb); have n1_ := Aside0.mk (blk_below (g := gb212) (o := .cells #[.slice A0_0 l0_0.length c0_0, .int .i64 a0_1, .int .i64 a0_2] 26 (0, 0)) (by (with_reducible repeat (first | refine blk_drewN ?_ _ | refine blk_drew ?_ | refine blk_alloc ?_ _)); exact BK212.out) hb); have n2_ := Aside0.mk (blk_below (g := gb213) (o := .cells #[.slice A1_0 l1_0.length c1_0, .int .i64 a1_1] 29 (0, 0)) (by (with_reducible repeat (first | refine blk_drewN ?_ _ | refine blk_drew ?_ | refine blk_alloc ?_ _)); exact BK213.out) hb); have n3_ := Aside0.mk (below_step (by repeat (first | (with_reducible first | exact HB.out | apply below_alloc | apply pw_below_drewN | apply below_drew1 | refine below_set ?_ GE212.out | refine below_set ?_ GE213.out) | exact HB.out)) hb); clear HO216; clear BK212; clear BK213; clear HB; have HO216 := n0_; have BK212 := n1_; have BK213 := n2_; have HB := n3_; clear n0_ n1_ n2_ n3_; (try clear hb); (try clear hb2); (try clear hk); (try clear hi)))
    go_loopg [7, 8] k (fun kq v7 v8 w' => ∃ (x7_1 : List Int) (x8_1 : Int), v8 = .int .i64 x8_1 ∧ Aside0 (spec_Trial.l0 kq a2 x7_1 x8_1 l0_0 a0_1 a0_2 l1_0 a1_1 = some r) ∧ Aside0 (kq ≤ k) ∧ Aside0 (Kd.R (Kd.int .i64) 3 w' w.heap.size (fun _ => True) v7 x7_1) ∧ Aside0 (w'.heap[gb212]? = some (.cells #[(.slice A0_0 l0_0.length c0_0), .int .i64 a0_1, .int .i64 a0_2] 26 (0, 0))) ∧ Aside0 (w'.heap[gb213]? = some (.cells #[(.slice A1_0 l1_0.length c1_0), .int .i64 a1_1] 29 (0, 0))) ∧ Aside0 (Below w.heap.size w w'))
    case atStart => exact ⟨(y214), (0), (by first | rfl | (simp; done) | (simp [*]; done)), H', ⟨Nat.le_refl _⟩, ⟨by (with_reducible repeat (first | apply Kd.R_alloc | apply Kd.R_drewN | apply Kd.R_drew)); exact HO216.out⟩, ⟨by (with_reducible repeat (first | refine blk_drewN ?_ _ | refine blk_drew ?_ | refine blk_alloc ?_ _)); exact BK212.out⟩, ⟨by (with_reducible repeat (first | refine blk_drewN ?_ _ | refine blk_drew ?_ | refine blk_alloc ?_ _)); exact BK213.out⟩, ⟨by repeat (first | (with_reducible first | exact HB.out | apply below_alloc | apply pw_below_drewN | apply below_drew1 | refine below_set ?_ GE212.out | refine below_set ?_ GE213.out) | exact HB.out)⟩⟩
    case round =>
      clear H'
      try clear c1
      try clear p2
      try clear c4
      try clear c5
      try clear c7
      try clear c10
      try clear hcz11_0
      try clear hcz11_1
      try clear hcz11_2
      try clear hcz12_0
      try clear hcz12_1
      try clear hfz11_0
      try clear hfz11_1
      try clear hfz11_2
      try clear hfz12_0
      try clear hfz12_1
      obtain ⟨x7_1, x8_1, rfl, HA, HK1, HO_7, BK212, BK213, HB⟩ := hrel
      cases gk with
      | zero => exact absurd HA.out (by simp [spec_Trial.l0])
      | succ k1 =>
        have H := HA.out
        clear HA
        simp only [spec_Trial.l0] at H
        by_cases c14 : x8_1 < (l0_0.length : Int)
        · rw [if_pos c14] at H
          have c14b0 : decide (x8_1 < (l0_0.length : Int)) = true := decide_eq_true c14
          clear c14
          replace H := Option.bind_eq_some_iff.mp H
          obtain ⟨⟨t218, t219⟩, A150, H⟩ := H
          replace H : (if x7_1.length < 17592186044416 then (spec_Trial.l0 k1 a2 (x7_1 ++ [t219]) (wrap64 (x8_1 + 1)) l0_0 a0_1 a0_2 l1_0 a1_1) else (none)) = some r := H
          have A15 := Aside0.mk A150
          clear A150
          by_cases c16 : x7_1.length < 17592186044416
          · rw [if_pos c16] at H
            have LMc16 := Aside0.mk c16
            clear c16
            obtain ⟨y220, hy220⟩ : ∃ y_ : List Int, y_ = (x7_1 ++ [t219]) := ⟨_, rfl⟩
            replace H : (spec_Trial.l0 k1 a2 y220 (wrap64 (x8_1 + 1)) l0_0 a0_1 a0_2 l1_0 a1_1) = some r := by first | (rw [hy220]; with_reducible exact H) | (have H2_ := (Option.bind_some _ _).symm.trans H; rw [hy220]; with_reducible exact H2_) | (have H2_ := (Option.bind_some _ _).symm.trans H; with_reducible exact H2_) | with_reducible exact H | (rw [hy220]; exact H) | exact H
            have Ny220 := Aside0.mk hy220
            clear hy220
            have H' := Aside0.mk H
            clear H
            have hnb17 := NB212_213.out
            have hnc17 := NB213_212.out
            have hcz18_0 : wr.cell? ⟨gb212, 0, none⟩ = some (.slice A0_0 l0_0.length c0_0) := (blk_cell BK212.out 0).trans rfl
            have hcz18_1 : wr.cell? ⟨gb212, 1, none⟩ = some (.int .i64 a0_1) := (blk_cell BK212.out 1).trans rfl
            have hcz18_2 : wr.cell? ⟨gb212, 2, none⟩ = some (.int .i64 a0_2) := (blk_cell BK212.out 2).trans rfl
            have hfz18_0 := blk_frozen BK212.out 0
            have hfz18_1 := blk_frozen BK212.out 1
            have hfz18_2 := blk_frozen BK212.out 2
            have hcz19_0 : wr.cell? ⟨gb213, 0, none⟩ = some (.slice A1_0 l1_0.length c1_0) := (blk_cell BK213.out 0).trans rfl
            have hcz19_1 : wr.cell? ⟨gb213, 1, none⟩ = some (.int .i64 a1_1) := (blk_cell BK213.out 1).trans rfl
            have hfz19_0 := blk_frozen BK213.out 0
            have hfz19_1 := blk_frozen BK213.out 1
            go_wp2_with (first | ((with_reducible refine gate_callee (f := 115) rfl ?_); refine goesL_ (some 28) rfl rfl Try.func115 (by kernel_rfl) rfl #[.agg #[.slice A1_0 l1_0.length c1_0, .int .i64 a1_1], .int .i64 x8_1, .int .i64 (-1), .int .i64 (-1), .int .i64 0, .int .i64 a2] rfl (by (try simp only [List.map_toArray, List.map_cons, List.map_nil]); first | done | rfl | (simp only [List.length_drop, List.length_take]; rfl)) ?_; (with_reducible refine (spec_Balance.calls _ _ l1_0 a1_1 x8_1 (-1) (-1) 0 a2 t218 t219 _ ?side1 ?side2 A15.out).mono ?_); (case side1 => repeat (first | exact (Kd.C_below HR1_0.out HB.out) | (with_reducible refine Kd.C_alloc ?_ _) | (with_reducible refine Kd.C_drewN ?_ _) | (with_reducible refine Kd.C_drew ?_))); (case side2 => exact HC1_0.out); rintro e w20 ⟨rfl, hb⟩; refine ⟨_, rfl, ?_⟩; have n0_ := Aside0.mk (Kd.R_below (by (with_reducible repeat (first | apply Kd.R_alloc | apply Kd.R_drewN | apply Kd.R_drew)); exact HO_7.out) hb); have n1_ := Aside0.mk (blk_below (g := gb212) (o := .cells #[.slice A0_0 l0_0.length c0_0, .int .i64 a0_1, .int .i64 a0_2] 26 (0, 0)) (by (with_reducible repeat (first | refine blk_drewN ?_ _ | refine blk_drew ?_ | refine blk_alloc ?_ _)); exact BK212.out) hb); have n2_ := Aside0.mk (blk_below (g := gb213) (o := .cells #[.slice A1_0 l1_0.length c1_0, .int .i64 a1_1] 29 (0, 0)) (by (with_reducible repeat (first | refine blk_drewN ?_ _ | refine blk_drew ?_ | refine blk_alloc ?_ _)); exact BK213.out) hb); have n3_ := Aside0.mk (below_step (by repeat (first | (with_reducible first | exact HB.out | apply below_alloc | apply pw_below_drewN | apply below_drew1 | refine below_set ?_ GE212.out | refine below_set ?_ GE213.out) | exact HB.out)) hb); clear HO_7; clear BK212; clear BK213; clear HB; have HO_7 := n0_; have BK212 := n1_; have BK213 := n2_; have HB := n3_; clear n0_ n1_ n2_ n3_; (try clear hb); (try clear hb2); (try clear hk); (try clear hi)) | ((with_reducible refine gate_builtin (b := .append) (xs := #[.tmp 31, .tmp 33]) rfl ?_); at_builtin; refine Kd.R_append (Kd.int .i64) (w0 := w) w.heap.size rfl (.tmp 31) (.tmp 33) 46 3 (.int .i64 0) 8 rfl Try.underlying46 info3 rfl (by decide) (by omega) u7 x7_1 t219 [.int .i64 t219] (fun _ => True) (fun _ => False) rfl rfl ?aP (fun _ hk => hk.elim) ?aF ?aO ?aB ?aS ?aL ?_; (case aP => exact rfl); (case aB => exact (by repeat (first | (with_reducible first | exact HB.out | apply below_alloc | apply pw_below_drewN | apply below_drew1 | refine below_set ?_ GE212.out | refine below_set ?_ GE213.out) | exact HB.out))); (case aF => exact (fun _ _ => trivial)); (case aO => exact (by (with_reducible repeat (first | apply Kd.R_alloc | apply Kd.R_drewN | apply Kd.R_drew)); exact HO_7.out)); (case aS => exact (below_size (by repeat (first | (with_reducible first | exact HB.out | apply below_alloc | apply pw_below_drewN | apply below_drew1 | refine below_set ?_ GE212.out | refine below_set ?_ GE213.out) | exact HB.out)))); (case aL => have := LMc16.out; omega); intro v221 w21 ho hb hg hat; rw [← Ny220.out] at ho; have n0_ := Aside0.mk (blk_grown (g := gb212) (o := .cells #[.slice A0_0 l0_0.length c0_0, .int .i64 a0_1, .int .i64 a0_2] 26 (0, 0)) (by (with_reducible repeat (first | refine blk_drewN ?_ _ | refine blk_drew ?_ | refine blk_alloc ?_ _)); exact BK212.out) hg (Kd.R_ne HO_7.out BK212.out (by decide))); have n1_ := Aside0.mk (blk_grown (g := gb213) (o := .cells #[.slice A1_0 l1_0.length c1_0, .int .i64 a1_1] 29 (0, 0)) (by (with_reducible repeat (first | refine blk_drewN ?_ _ | refine blk_drew ?_ | refine blk_alloc ?_ _)); exact BK213.out) hg (Kd.R_ne HO_7.out BK213.out (by decide))); have n2_ := Aside0.mk (hb); have n3_ := Aside0.mk (ho); clear BK212; clear BK213; clear HB; clear HO_7; have BK212 := n0_; have BK213 := n1_; have HB := n2_; have HO222 := n3_; clear n0_ n1_ n2_ n3_; clear ho hb hg hat))
            go_roundg k1
            case measure => have := HK1.out; omega
            case rel => exact ⟨(y220), (wrap64 (x8_1 + 1)), (by first | rfl | (simp; done) | (simp [*]; done)), H', ⟨by have := HK1.out; omega⟩, ⟨by (with_reducible repeat (first | apply Kd.R_alloc | apply Kd.R_drewN | apply Kd.R_drew)); exact HO222.out⟩, ⟨by (with_reducible repeat (first | refine blk_drewN ?_ _ | refine blk_drew ?_ | refine blk_alloc ?_ _)); exact BK212.out⟩, ⟨by (with_reducible repeat (first | refine blk_drewN ?_ _ | refine blk_drew ?_ | refine blk_alloc ?_ _)); exact BK213.out⟩, ⟨by repeat (first | (with_reducible first | exact HB.out | apply below_alloc | apply pw_below_drewN | apply below_drew1 | refine below_set ?_ GE212.out | refine below_set ?_ GE213.out) | exact HB.out)⟩⟩
          · rw [if_neg c16] at H
            exact absurd H (by simp)
        · rw [if_neg c14] at H
          have c14b0 : decide (x8_1 < (l0_0.length : Int)) = false := decide_eq_false c14
          clear c14
          obtain rfl := Option.some.inj H
          have hnb22 := NB212_213.out
          have hnc22 := NB213_212.out
          have hcz23_0 : wr.cell? ⟨gb212, 0, none⟩ = some (.slice A0_0 l0_0.length c0_0) := (blk_cell BK212.out 0).trans rfl
          have hcz23_1 : wr.cell? ⟨gb212, 1, none⟩ = some (.int .i64 a0_1) := (blk_cell BK212.out 1).trans rfl
          have hcz23_2 : wr.cell? ⟨gb212, 2, none⟩ = some (.int .i64 a0_2) := (blk_cell BK212.out 2).trans rfl
          have hfz23_0 := blk_frozen BK212.out 0
          have hfz23_1 := blk_frozen BK212.out 1
          have hfz23_2 := blk_frozen BK212.out 2
          go_wp2
          go_ret
          exact ⟨_, by first | rfl | (simp [errW_none, errW_some] <;> rfl) | (simp [*, errW_none, errW_some] <;> rfl), by (with_reducible repeat (first | apply Kd.R_alloc | apply Kd.R_drewN | apply Kd.R_drew)); exact HO_7.out, by repeat (first | (with_reducible first | exact HB.out | apply below_alloc | apply pw_below_drewN | apply below_drew1 | refine below_set ?_ GE212.out | refine below_set ?_ GE213.out) | exact HB.out)⟩
  · replace c5 := Bool.eq_false_iff.mpr c5
    subst c5
    have H1 : (some y214) = some r := by rw [if_neg (show ¬ (false = true) by decide)] at H; exact H
    clear H
    have H := H1
    clear H1
    obtain rfl := Option.some.inj H
    go_enter Try.func48, Try.ntmps48
    go_wp2_with (first | ((with_reducible refine gate_dst (N := 3) rfl ?_); refine box_event ?hg (N := 3) ?hd (cs := #[.slice A0_0 l0_0.length c0_0, .int .i64 a0_1, .int .i64 a0_2]) (t := 26) ?hr ?_; (case hd => rfl); (case hg => rfl); (case hr => first | (go_simp; done) | (go_simp; rfl)); intro gb212 hg w24 hbox hb; have n0_ := Aside0.mk (below_step (by repeat (first | (with_reducible first | exact HB.out | apply below_alloc | apply pw_below_drewN | apply below_drew1) | exact HB.out)) hb); have n1_ := Aside0.mk (hbox); have n2_ := Aside0.mk ((by rw [hg]; exact (below_size (by repeat (first | (with_reducible first | exact HB.out | apply below_alloc | apply pw_below_drewN | apply below_drew1) | exact HB.out))) : w.heap.size ≤ gb212)); have n3_ := Aside0.mk ((by rw [hg]; exact (below_size (by repeat (first | (with_reducible first | exact HB.out | apply below_alloc | apply pw_below_drewN | apply below_drew1) | exact HB.out))) : w.heap.size ≤ gb212)); clear HB; have HB := n0_; have BK212 := n1_; have GW212 := n2_; have GE212 := n3_; clear n0_ n1_ n2_ n3_; clear hb hbox hg) | ((with_reducible refine gate_dst (N := 4) rfl ?_); refine box_event ?hg (N := 4) ?hd (cs := #[.slice A1_0 l1_0.length c1_0, .int .i64 a1_1]) (t := 29) ?hr ?_; (case hd => rfl); (case hg => rfl); (case hr => first | (go_simp; done) | (go_simp; rfl)); intro gb213 hg w25 hbox hb; have n0_ := Aside0.mk (blk_below (g := gb212) (o := .cells #[.slice A0_0 l0_0.length c0_0, .int .i64 a0_1, .int .i64 a0_2] 26 (0, 0)) (by (with_reducible repeat (first | refine blk_drewN ?_ _ | refine blk_drew ?_ | refine blk_alloc ?_ _)); exact BK212.out) hb); have n1_ := Aside0.mk (below_step (by repeat (first | (with_reducible first | exact HB.out | apply below_alloc | apply pw_below_drewN | apply below_drew1 | refine below_set ?_ GE212.out) | exact HB.out)) hb); have n2_ := Aside0.mk (hbox); have n3_ := Aside0.mk ((by rw [hg]; exact (below_size (by repeat (first | (with_reducible first | exact HB.out | apply below_alloc | apply pw_below_drewN | apply below_drew1 | refine below_set ?_ GE212.out) | exact HB.out))) : w.heap.size ≤ gb213)); have n4_ := Aside0.mk ((by rw [hg]; exact (below_size (by repeat (first | (with_reducible first | exact HB.out | apply below_alloc | apply pw_below_drewN | apply below_drew1 | refine below_set ?_ GE212.out) | exact HB.out))) : w.heap.size ≤ gb213)); have n5_ := Aside0.mk ((by rw [hg]; exact Nat.ne_of_lt (blk_lt (g := gb212) (o := .cells #[.slice A0_0 l0_0.length c0_0, .int .i64 a0_1, .int .i64 a0_2] 26 (0, 0)) (by (with_reducible repeat (first | refine blk_drewN ?_ _ | refine blk_drew ?_ | refine blk_alloc ?_ _)); exact BK212.out)) : gb212 ≠ gb213)); have n6_ := Aside0.mk ((by rw [hg]; exact Nat.ne_of_gt (blk_lt (g := gb212) (o := .cells #[.slice A0_0 l0_0.length c0_0, .int .i64 a0_1, .int .i64 a0_2] 26 (0, 0)) (by (with_reducible repeat (first | refine blk_drewN ?_ _ | refine blk_drew ?_ | refine blk_alloc ?_ _)); exact BK212.out)) : gb213 ≠ gb212)); clear BK212; clear HB; have BK212 := n0_; have HB := n1_; have BK213 := n2_; have GW213 := n3_; have GE213 := n4_; have NB212_213 := n5_; have NB213_212 := n6_; clear n0_ n1_ n2_ n3_ n4_ n5_ n6_; clear hb hbox hg) | ((with_reducible refine gate_dst (N := 11) rfl ?_); refine Kd.R_lit (Kd.int .i64) _ 3 ?hg (N := 11) ?hd (xs := ([] : List Int)) (inner := []) (ok := fun _ => True) (okp := fun _ => True) ?hr ?hp (fun _ hk => hk) trivial (Below.refl _ _) (Nat.le_refl _) (by simp) ?_; (case hd => rfl); (case hg => rfl); (case hr => first | (go_simp; done) | (go_simp; rfl)); (case hp => exact (Reps.none _ _)); intro v215 w26 ho27 hb hg_ hnew_; clear hg_ hnew_; (first | rw [← Ny214.out] at ho27 | (simp only [Int.reduceToNat] at ho27; rw [← Ny214.out] at ho27)); have n0_ := Aside0.mk (Kd.R_lower ho27 (below_size (by repeat (first | (with_reducible first | exact HB.out | apply below_alloc | apply pw_below_drewN | apply below_drew1 | refine below_set ?_ GE212.out | refine below_set ?_ GE213.out) | exact HB.out)))); have n1_ := Aside0.mk (blk_below (g := gb212) (o := .cells #[.slice A0_0 l0_0.length c0_0, .int .i64 a0_1, .int .i64 a0_2] 26 (0, 0)) (by (with_reducible repeat (first | refine blk_drewN ?_ _ | refine blk_drew ?_ | refine blk_alloc ?_ _)); exact BK212.out) hb); have n2_ := Aside0.mk (blk_below (g := gb213) (o := .cells #[.slice A1_0 l1_0.length c1_0, .int .i64 a1_1] 29 (0, 0)) (by (with_reducible repeat (first | refine blk_drewN ?_ _ | refine blk_drew ?_ | refine blk_alloc ?_ _)); exact BK213.out) hb); have n3_ := Aside0.mk (below_step (by repeat (first | (with_reducible first | exact HB.out | apply below_alloc | apply pw_below_drewN | apply below_drew1 | refine below_set ?_ GE212.out | refine below_set ?_ GE213.out) | exact HB.out)) hb); clear BK212; clear BK213; clear HB; have HO216 := n0_; have BK212 := n1_; have BK213 := n2_; have HB := n3_; clear n0_ n1_ n2_ n3_; clear hb ho27; have hnb28 := NB212_213.out; have hnc28 := NB213_212.out; have hcz29_0 : w26.cell? ⟨gb212, 0, none⟩ = some (.slice A0_0 l0_0.length c0_0) := (blk_cell BK212.out 0).trans rfl; have hcz29_1 : w26.cell? ⟨gb212, 1, none⟩ = some (.int .i64 a0_1) := (blk_cell BK212.out 1).trans rfl; have hcz29_2 : w26.cell? ⟨gb212, 2, none⟩ = some (.int .i64 a0_2) := (blk_cell BK212.out 2).trans rfl; have hfz29_0 := blk_frozen BK212.out 0; have hfz29_1 := blk_frozen BK212.out 1; have hfz29_2 := blk_frozen BK212.out 2; have hcz30_0 : w26.cell? ⟨gb213, 0, none⟩ = some (.slice A1_0 l1_0.length c1_0) := (blk_cell BK213.out 0).trans rfl; have hcz30_1 : w26.cell? ⟨gb213, 1, none⟩ = some (.int .i64 a1_1) := (blk_cell BK213.out 1).trans rfl; have hfz30_0 := blk_frozen BK213.out 0; have hfz30_1 := blk_frozen BK213.out 1) | ((with_reducible refine gate_callee (f := 78) rfl ?_); refine goesL_ (some 14) rfl rfl Try.func78 (by kernel_rfl) rfl #[.agg #[.slice A0_0 l0_0.length c0_0, .int .i64 a0_1, .int .i64 a0_2], .agg #[.slice A1_0 l1_0.length c1_0, .int .i64 a1_1]] rfl (by (try simp only [List.map_toArray, List.map_cons, List.map_nil]); first | done | rfl | (simp only [List.length_drop, List.length_take]; rfl)) ?_; (with_reducible refine (spec_LedgerOk.calls _ _ l0_0 a0_1 a0_2 _ _ l1_0 a1_1 false _ ?side1 ?side2 ?side3 ?side4 A4.out).mono ?_); (case side1 => repeat (first | exact (Kd.C_below HR0_0.out HB.out) | (with_reducible refine Kd.C_alloc ?_ _) | (with_reducible refine Kd.C_drewN ?_ _) | (with_reducible refine Kd.C_drew ?_))); (case side2 => exact HC0_0.out); (case side3 => repeat (first | exact (Kd.C_below HR1_0.out HB.out) | (with_reducible refine Kd.C_alloc ?_ _) | (with_reducible refine Kd.C_drewN ?_ _) | (with_reducible refine Kd.C_drew ?_))); (case side4 => exact HC1_0.out); rintro e w31 ⟨rfl, hb⟩; refine ⟨_, rfl, ?_⟩; have n0_ := Aside0.mk (Kd.R_below (by (with_reducible repeat (first | apply Kd.R_alloc | apply Kd.R_drewN | apply Kd.R_drew)); exact HO216.out) hb); have n1_ := Aside0.mk (blk_below (g := gb212) (o := .cells #[.slice A0_0 l0_0.length c0_0, .int .i64 a0_1, .int .i64 a0_2] 26 (0, 0)) (by (with_reducible repeat (first | refine blk_drewN ?_ _ | refine blk_drew ?_ | refine blk_alloc ?_ _)); exact BK212.out) hb); have n2_ := Aside0.mk (blk_below (g := gb213) (o := .cells #[.slice A1_0 l1_0.length c1_0, .int .i64 a1_1] 29 (0, 0)) (by (with_reducible repeat (first | refine blk_drewN ?_ _ | refine blk_drew ?_ | refine blk_alloc ?_ _)); exact BK213.out) hb); have n3_ := Aside0.mk (below_step (by repeat (first | (with_reducible first | exact HB.out | apply below_alloc | apply pw_below_drewN | apply below_drew1 | refine below_set ?_ GE212.out | refine below_set ?_ GE213.out) | exact HB.out)) hb); clear HO216; clear BK212; clear BK213; clear HB; have HO216 := n0_; have BK212 := n1_; have BK213 := n2_; have HB := n3_; clear n0_ n1_ n2_ n3_; (try clear hb); (try clear hb2); (try clear hk); (try clear hi)))
    go_ret
    exact ⟨_, by first | rfl | (simp [errW_none, errW_some] <;> rfl) | (simp [*, errW_none, errW_some] <;> rfl), by (with_reducible repeat (first | apply Kd.R_alloc | apply Kd.R_drewN | apply Kd.R_drew)); exact HO216.out, by repeat (first | (with_reducible first | exact HB.out | apply below_alloc | apply pw_below_drewN | apply below_drew1 | refine below_set ?_ GE212.out | refine below_set ?_ GE213.out) | exact HB.out)⟩

end Go.Proofs.Ytphmnkcfjgallaa.Q
namespace Go.Proofs.Ytphmnkcfjgallaa.Q
open Go.RowKit Go.Proofs.YtphmnkcfjgallaaW.PrintWords Go.Proofs.YtphmnkcfjgallaaW.PrintLast Go.Proofs.YtphmnkcfjgallaaW.PrintMore
set_option linter.unusedVariables false
set_option linter.unusedSimpArgs false
theorem ledger_fine {chart : List Acc} {d c : Int} {es : List Ent} {h : Int} (q : ledgerB chart d c es h = true) : es.length ≤ 1000 ∧ chart.length ≤ 120 ∧ (∀ e ∈ es, entFine e) ∧ (∀ e ∈ es, ∀ x ∈ e.f3, 0 ≤ x.f0 ∧ x.f0 < (chart.length : Int)) ∧ (∀ e ∈ es, 0 ≤ e.f0 ∧ e.f0 ≤ 40000) := by
  obtain ⟨h1, h2, h3, _⟩ := ledgerB_true.1 q
  obtain ⟨hc, _, _⟩ := frame_parts h1
  refine ⟨h2, (chartOk_iff.1 hc).2.1, fun e he => ⟨(h3 e he).2.2.2.1.2, fun x hx => ?_⟩, fun e he x hx => ?_, fun e he => (h3 e he).1⟩
  · have := (h3 e he).2.2.2.2.2.1 x hx
    exact ⟨this.2.2.2.1, this.2.2.2.2.1⟩
  · have := (h3 e he).2.2.2.2.2.1 x hx
    exact ⟨this.1.1, this.1.2.1⟩
theorem basV_from {a d c fr fr' tt : Int} {es : List Ent} (h : ∀ e ∈ es, fr ≤ e.f0 ∧ fr' ≤ e.f0) : basV a d c fr tt es = basV a d c fr' tt es := by
  induction es with
  | nil => rfl
  | cons e l ih =>
    have h1 := h e List.mem_cons_self
    simp only [basV]
    rw [ih (fun x hx => h x (List.mem_cons_of_mem _ hx))]
    have : inB e.f0 fr tt = inB e.f0 fr' tt := by unfold inB; rw [decide_eq_true h1.1, decide_eq_true h1.2]
    rw [this]
theorem mapN_snoc (n : Nat) (g : Nat → Int) : mapN n g ++ [g n] = mapN (n + 1) g := by unfold mapN; rw [List.range_succ, List.map_append]; rfl
open Classical in
noncomputable def trialR (chart : List Acc) (d c : Int) (es : List Ent) (h tt : Int) : List Int := if ledgerB chart d c es h = true then mapN chart.length (fun a => basV a (-1) (-1) 0 tt es) else []
theorem impl_Trial_is (chart : List Acc) (d c : Int) (es : List Ent) (h tt : Int) (h1 : ∀ x ∈ chart, x.f0.size ≤ maxLen) (h2 : ∀ e ∈ es, e.f2.size ≤ maxLen) : impl_Trial.f chart d c es h tt = some (trialR chart d c es h tt) := by
  unfold impl_Trial.f impl_LedgerOk.f trialR
  rw [if_pos ⟨h1, h2⟩]
  simp only [Option.bind_some]
  by_cases q : ledgerB chart d c es h = true
  · rw [if_pos q, if_pos q]
    obtain ⟨a1, a2, a3, a4, a5⟩ := ledger_fine q
    have hc := (chartOk_iff.1 (frame_parts (ledgerB_true.1 q).1).1).1
    unfold impl_bases.f
    rw [if_pos ⟨by omega, by rw [Int.toNat_natCast]; exact ⟨hc, by omega, a1, a3, a4⟩⟩]
    simp only [Option.bind_some, Int.toNat_natCast]
    congr 1
    exact mapN_congr (fun a _ => basV_from (fun e he => ⟨by have := a5 e he; omega, (a5 e he).1⟩))
  · rw [if_neg q, if_neg q]
theorem spec_Trial_l0 (chart : List Acc) (d c : Int) (es : List Ent) (h tt : Int) (hc : chart.length ≤ 120) (hf : ∀ e ∈ es, entFine e) (hlen : es.length ≤ 1000) :
    ∀ (m K i : Nat), i + m = chart.length → m + 200 * 1000 + 1 < K → spec_Trial.l0 K tt (mapN i (fun a => basV a (-1) (-1) 0 tt es)) (i : Int) chart d c es h = some (mapN chart.length (fun a => basV a (-1) (-1) 0 tt es)) := by
  intro m
  induction m with
  | zero =>
    intro K i hi hK
    obtain ⟨K, rfl⟩ : ∃ j, K = j + 1 := ⟨K - 1, by omega⟩
    simp only [spec_Trial.l0]
    rw [if_neg (by omega), show i = chart.length by omega]
  | succ m ihm =>
    intro K i hi hK
    obtain ⟨K, rfl⟩ : ∃ j, K = j + 1 := ⟨K - 1, by omega⟩
    simp only [spec_Trial.l0]
    rw [if_pos (by omega), show spec_Balance.f es h (i : Int) (-1) (-1) 0 tt = some (amtV i (-1) (-1) 0 tt es, basV i (-1) (-1) 0 tt es) from if_pos ⟨hlen, hf⟩]
    simp only [Option.bind_some]
    rw [if_pos (by rw [mapN_len]; omega), mapN_snoc i (fun a => basV a (-1) (-1) 0 tt es), wrin (by omega) (by omega), show (i : Int) + 1 = ((i + 1 : Nat) : Int) by omega]
    exact ihm K (i + 1) (by omega) (by omega)
theorem spec_Trial_is (chart : List Acc) (d c : Int) (es : List Ent) (h tt : Int) (h1 : ∀ x ∈ chart, x.f0.size ≤ maxLen) (h2 : ∀ e ∈ es, e.f2.size ≤ maxLen) (K : Nat) (hK : 210 * 1000 < K) : spec_Trial.f K chart d c es h tt = some (trialR chart d c es h tt) := by
  unfold spec_Trial.f spec_LedgerOk.f trialR
  rw [if_pos ⟨h1, h2⟩]
  simp only [Option.bind_some]
  by_cases q : ledgerB chart d c es h = true
  · rw [if_pos q, if_pos q]
    obtain ⟨a1, a2, a3, a4, a5⟩ := ledger_fine q
    exact spec_Trial_l0 chart d c es h tt a2 a3 a1 chart.length K 0 (by omega) (by omega)
  · rw [if_neg q, if_neg q]

end Go.Proofs.Ytphmnkcfjgallaa.Q
namespace Go.Proofs.Ytphmnkcfjgallaa.Q
open Go.RowKit Go.Proofs.YtphmnkcfjgallaaW.PrintWords Go.Proofs.YtphmnkcfjgallaaW.PrintLast Go.Proofs.YtphmnkcfjgallaaW.PrintMore
set_option linter.unusedVariables false
set_option linter.unusedSimpArgs false
set_option maxHeartbeats 32000000 in
set_option maxRecDepth 100000 in
theorem laws_FnExactTrial.to (A0 : Option Addr) (c0 : Nat) (l0 : List S176) (d c : Int) (A1 : Option Addr) (c1 : Nat) (l1 : List S93) (h : Int) (tt : Int) (w : World)
    (hr0 : Kd.C k176 w A0 l0.length l0) (hc0 : l0.length ≤ c0) (hr1 : Kd.C k93 w A1 l1.length l1) (hc1 : l1.length ≤ c1) (hw0 : wf59 (⟨l0, d, c⟩ : S59)) (hw1 : wf62 (⟨l1, h⟩ : S62)) (hwt : (Lit.int .i64 tt).wf = true) :
    Calls Try.prog 8 #[.agg #[.slice A0 l0.length c0, .int .i64 d, .int .i64 c], .agg #[.slice A1 l1.length c1, .int .i64 h], .int .i64 tt] w fun e w' => e = .returned (.bool true) ∧ Below w.heap.size w w' := by
  have H0 := Aside0.mk hr0
  have H1 := Aside0.mk hr1
  have C0 := Aside0.mk hc0
  have C1 := Aside0.mk hc1
  have HW0 := Aside0.mk hw0
  have HW1 := Aside0.mk hw1
  have HT0 := Aside0.mk (text_cvAccount hw0.1.2)
  have HT1 := Aside0.mk (text_cvEntry hw1.1.2)
  have HB := Aside0.mk (below_two w (.cells #[.slice A0 l0.length c0, .int .i64 d, .int .i64 c] 59) (.cells #[.slice A1 l1.length c1, .int .i64 h] 62))
  clear hr0 hr1 hw0 hw1 hc0 hc1 hwt
  go_enter Try.func8, Try.ntmps8
  go_wp2_with fail
  refine (laws_szFrame.calls A0 c0 l0 d c 1048576 _ (Kd.C_below H0.out HB.out) (by omega) (by omega) HW0.out).mono ?_
  rintro x w1 ⟨r, rfl, q1, q2, q3, hb⟩
  have f0 : w1.cell? ⟨w.heap.size, 0, none⟩ = some (.slice A0 l0.length c0) := pw_cell_below hb (by go_simp)
  have f1 : w1.cell? ⟨w.heap.size, 1, none⟩ = some (.int .i64 d) := pw_cell_below hb (by go_simp)
  have f2 : w1.cell? ⟨w.heap.size, 2, none⟩ = some (.int .i64 c) := pw_cell_below hb (by go_simp)
  have f3 : w1.cell? ⟨w.heap.size + 1, 0, none⟩ = some (.slice A1 l1.length c1) := pw_cell_below hb (by go_simp)
  have f4 : w1.cell? ⟨w.heap.size + 1, 1, none⟩ = some (.int .i64 h) := pw_cell_below hb (by go_simp)
  replace HB := Aside0.mk (below_into (w := w) hb HB.out)
  have HS := Aside0.mk q3
  clear hb q3
  by_cases hr : r < 0
  case pos =>
    go_wp2_with fail
    go_ret
    exact ⟨rfl, HB.out⟩
  have HS0 := Aside0.mk (show l0.length ≤ 1048576 from HS.out (by omega))
  clear HS
  go_wp2_with fail
  refine (laws_szLedger.calls A1 c1 l1 h r _ (Kd.C_below H1.out HB.out) (by omega) (by omega) HW1.out).mono ?_
  rintro x w2 ⟨r', rfl, q1', q2', q3, hb⟩
  replace f0 := pw_cell_below hb f0
  replace f1 := pw_cell_below hb f1
  replace f2 := pw_cell_below hb f2
  replace f3 := pw_cell_below hb f3
  replace f4 := pw_cell_below hb f4
  replace HB := Aside0.mk (below_into (w := w) hb HB.out)
  have HS := Aside0.mk q3
  clear hb q3
  by_cases hr' : r' < 0
  case pos =>
    go_wp2_with fail
    go_ret
    exact ⟨rfl, HB.out⟩
  have HS1 := Aside0.mk (show l1.length ≤ 1048576 ∧ ∀ y ∈ l1, small93 y from HS.out (by omega))
  clear HS
  have TF := Aside0.mk (laws_toFrame_is l0 d c kBig HS0.out kBig_le)
  have TL := Aside0.mk (laws_toLedger_is l1 h kBig HS1.out kBig_le)
  have ML0 := Aside0.mk (show (l0.map cvAccount).length ≤ 1048576 by rw [List.length_map]; exact HS0.out)
  have ML1 := Aside0.mk (show (l1.map cvEntry).length ≤ 1048576 ∧ ∀ x ∈ l1.map cvEntry, x.f3.length ≤ 1048576 from ⟨by rw [List.length_map]; exact HS1.out.1, fun x hx => by
    obtain ⟨y, hy, rfl⟩ := List.mem_map.1 hx
    show (y.f3.map cvLine).length ≤ 1048576
    rw [List.length_map]
    exact HS1.out.2 y hy⟩)
  generalize l0.map cvAccount = m0 at *
  generalize l1.map cvEntry = m1 at *
  obtain ⟨tr, htr⟩ : ∃ t, t = trialR m0 d c m1 h tt := ⟨_, rfl⟩
  have IT := Aside0.mk (impl_Trial_is m0 d c m1 h tt HT0.out HT1.out)
  have ST := Aside0.mk (spec_Trial_is m0 d c m1 h tt HT0.out HT1.out kBig (Nat.lt_of_lt_of_le (by omega) kBig_le))
  rw [← htr] at IT ST
  have TRL := Aside0.mk (show tr.length ≤ 1048576 by
    rw [htr]
    unfold trialR
    split
    · rw [mapN_len]; exact ML0.out
    · simp)
  clear htr
  have HV := Aside0.mk (Below.refl w2.heap.size w2)
  go_wp2_with fail
  go_region_held3 (fun w' => w'.cell? ⟨w.heap.size, 0, none⟩ = some (.slice A0 l0.length c0) ∧ w'.cell? ⟨w.heap.size, 1, none⟩ = some (.int .i64 d) ∧ w'.cell? ⟨w.heap.size, 2, none⟩ = some (.int .i64 c) ∧ w'.cell? ⟨w.heap.size + 1, 0, none⟩ = some (.slice A1 l1.length c1) ∧ w'.cell? ⟨w.heap.size + 1, 1, none⟩ = some (.int .i64 h)) ((first | go_keep | exact ⟨pw_cell_below hb (by assumption), pw_cell_below hb (by assumption), pw_cell_below hb (by assumption), pw_cell_below hb (by assumption), pw_cell_below hb (by assumption)⟩ | (have hH := ‹_ ∧ _›; obtain ⟨t0, t1, t2, t3, t4⟩ := hH; exact ⟨pw_cell_below hb t0, pw_cell_below hb t1, pw_cell_below hb t2, pw_cell_below hb t3, pw_cell_below hb t4⟩)))
    ((first | (go_at_call 37; refine (laws_toFrame.calls kBig A0 c0 l0 d c m0 d c _ (Kd.C_below H0.out (by repeat (first | exact HB.out | exact below_into HVA.out HB.out | exact below_into HVB.out HB.out | refine below_drew1 ?_ | refine pw_below_drewN ?_ _))) C0.out TF.out).mono ?_; rintro x wA ⟨v0, rfl, hR, hb⟩; have GF := Aside0.mk hR; obtain ⟨B0, e0, rfl, n0, g0⟩ := Kd.R_reads hR; have KF := Aside0.mk g0; have NF := Aside0.mk n0; have HVA := Aside0.mk (below_into (w := w2) hb (by repeat (first | exact HVB.out | exact HV.out | refine below_drew1 ?_ | refine pw_below_drewN ?_ _))); (try replace KL := Aside0.mk (Kd.C_below KL.out (below_into hb (by repeat (first | exact Below.refl _ _ | refine below_drew1 ?_ | refine pw_below_drewN ?_ _))))); clear hR g0 n0) | (go_at_call 49; refine (laws_toLedger.calls kBig A1 c1 l1 h m1 h _ (Kd.C_below H1.out (by repeat (first | exact HB.out | exact below_into HVA.out HB.out | exact below_into HVB.out HB.out | refine below_drew1 ?_ | refine pw_below_drewN ?_ _))) C1.out TL.out).mono ?_; rintro x wB ⟨v1, rfl, hR, hb⟩; have GL := Aside0.mk hR; obtain ⟨B1, e1, rfl, n1, g1⟩ := Kd.S_reads hR; have KL := Aside0.mk g1; have NL := Aside0.mk n1; have HVB := Aside0.mk (below_into (w := w2) hb (by repeat (first | exact HVA.out | exact HV.out | refine below_drew1 ?_ | refine pw_below_drewN ?_ _))); (try replace KF := Aside0.mk (Kd.C_below KF.out (below_into hb (by repeat (first | exact Below.refl _ _ | refine below_drew1 ?_ | refine pw_below_drewN ?_ _))))); clear hR g1 n1) | (go_at_call 48; refine (spec_Trial.calls kBig B0 e0 m0 d c B1 e1 m1 h tt tr _ (Kd.C_below KF.out (by repeat (first | exact Below.refl _ _ | refine below_drew1 ?_ | refine pw_below_drewN ?_ _))) NF.out (Kd.C_below KL.out (by repeat (first | exact Below.refl _ _ | refine below_drew1 ?_ | refine pw_below_drewN ?_ _))) NL.out ST.out).mono ?_; rintro x w3 ⟨vs, rfl, hR, hb⟩; obtain ⟨BS, es, hvs, nS, gS⟩ := Kd.R_reads hR; subst hvs; have HVS := Aside0.mk (below_into (w := w2) hb (by repeat (first | exact HVA.out | exact HVB.out | refine below_drew1 ?_ | refine pw_below_drewN ?_ _))); have RS := Aside0.mk (R_iv_lower (R_iv hR) (a' := w2.heap.size) (b' := w3.heap.size) (by first | exact HVA.out.size | exact HVB.out.size) (Nat.le_refl _)); have NS := Aside0.mk nS; clear hR nS gS)))
  clear f0 f1 f2 f3 f4
  have hH := ‹_ ∧ _›
  obtain ⟨f0, f1, f2, f3, f4⟩ := hH
  have s23 : w2.heap.size ≤ w3.heap.size := HVS.out.size
  replace HB := Aside0.mk (below_into (w := w) HVS.out HB.out)
  have z_f3 := World.block_lt_of_cell? _ _ f3
  have z_f0 := World.block_lt_of_cell? _ _ f0
  have HBW := HB
  go_wp2_with fail
  refine (laws_toFrame.calls kBig A0 c0 l0 d c m0 d c _ (Kd.C_below H0.out HB.out) C0.out TF.out).mono ?_
  rintro x w4 ⟨u0, rfl, hR, hb⟩
  obtain ⟨X0, ex0, rfl, nx0, _⟩ := Kd.R_reads hR
  have RX0 := Aside0.mk (R_iv hR)
  have NX0 := Aside0.mk nx0
  have B3 := Aside0.mk (Below.refl w3.heap.size w3)
  replace f0 := pw_cell_below hb f0
  replace f1 := pw_cell_below hb f1
  replace f2 := pw_cell_below hb f2
  replace f3 := pw_cell_below hb f3
  replace f4 := pw_cell_below hb f4
  replace RS := Aside0.mk (Kd.R_below RS.out hb)
  replace HB := Aside0.mk (below_into (w := w) hb HB.out)
  replace B3 := Aside0.mk (below_into (w := w3) hb B3.out)
  have s34 := hb.size
  clear hR nx0 hb
  have zz_f0 := World.block_lt_of_cell? _ _ f0
  have zz_f3 := World.block_lt_of_cell? _ _ f3
  go_wp2_with fail
  have y0 : (w4.alloc (.cells #[.slice X0 m0.length ex0, .int .i64 d, .int .i64 c] 26)).cell? ⟨w4.heap.size, 0, none⟩ = some (.slice X0 m0.length ex0) := by go_simp
  have y1 : (w4.alloc (.cells #[.slice X0 m0.length ex0, .int .i64 d, .int .i64 c] 26)).cell? ⟨w4.heap.size, 1, none⟩ = some (.int .i64 d) := by go_simp
  have y2 : (w4.alloc (.cells #[.slice X0 m0.length ex0, .int .i64 d, .int .i64 c] 26)).cell? ⟨w4.heap.size, 2, none⟩ = some (.int .i64 c) := by go_simp
  have hb := below_alloc (Below.refl w4.heap.size w4) (.cells #[.slice X0 m0.length ex0, .int .i64 d, .int .i64 c] 26)
  replace f0 := pw_cell_below hb f0
  replace f1 := pw_cell_below hb f1
  replace f2 := pw_cell_below hb f2
  replace f3 := pw_cell_below hb f3
  replace f4 := pw_cell_below hb f4
  replace RS := Aside0.mk (Kd.R_below RS.out hb)
  replace RX0 := Aside0.mk (Kd.R_below RX0.out hb)
  replace HB := Aside0.mk (below_into (w := w) hb HB.out)
  replace B3 := Aside0.mk (below_into (w := w3) hb B3.out)
  have s_w5 : w4.heap.size < (w4.alloc (.cells #[.slice X0 m0.length ex0, .int .i64 d, .int .i64 c] 26)).heap.size := by simp
  clear hb
  generalize w4.alloc (.cells #[.slice X0 m0.length ex0, .int .i64 d, .int .i64 c] 26) = w5 at *
  have z_y0 := World.block_lt_of_cell? _ _ y0
  refine (laws_toLedger.calls kBig A1 c1 l1 h m1 h _ (Kd.C_below H1.out HB.out) C1.out TL.out).mono ?_
  rintro x w6 ⟨u1, rfl, hR, hb⟩
  obtain ⟨X1, ex1, rfl, nx1, _⟩ := Kd.S_reads hR
  have s56 := hb.size
  have RX1 := Aside0.mk (Kd.S_lower (S_iv hR) (show w3.heap.size ≤ w5.heap.size by omega))
  have NX1 := Aside0.mk nx1
  replace f0 := pw_cell_below hb f0
  replace f1 := pw_cell_below hb f1
  replace f2 := pw_cell_below hb f2
  replace f3 := pw_cell_below hb f3
  replace f4 := pw_cell_below hb f4
  replace y0 := pw_cell_below hb y0
  replace y1 := pw_cell_below hb y1
  replace y2 := pw_cell_below hb y2
  replace RS := Aside0.mk (Kd.R_below RS.out hb)
  replace RX0 := Aside0.mk (Kd.R_below RX0.out hb)
  replace HB := Aside0.mk (below_into (w := w) hb HB.out)
  replace B3 := Aside0.mk (below_into (w := w3) hb B3.out)
  clear hR nx1 hb
  have zz_f0 := World.block_lt_of_cell? _ _ f0
  have zz_f3 := World.block_lt_of_cell? _ _ f3
  have zz_y0 := World.block_lt_of_cell? _ _ y0
  go_wp2_with fail
  have z0 : (w6.alloc (.cells #[.slice X1 m1.length ex1, .int .i64 h] 29)).cell? ⟨w6.heap.size, 0, none⟩ = some (.slice X1 m1.length ex1) := by go_simp
  have z1 : (w6.alloc (.cells #[.slice X1 m1.length ex1, .int .i64 h] 29)).cell? ⟨w6.heap.size, 1, none⟩ = some (.int .i64 h) := by go_simp
  have hb := below_alloc (Below.refl w6.heap.size w6) (.cells #[.slice X1 m1.length ex1, .int .i64 h] 29)
  replace f0 := pw_cell_below hb f0
  replace f1 := pw_cell_below hb f1
  replace f2 := pw_cell_below hb f2
  replace f3 := pw_cell_below hb f3
  replace f4 := pw_cell_below hb f4
  replace y0 := pw_cell_below hb y0
  replace y1 := pw_cell_below hb y1
  replace y2 := pw_cell_below hb y2
  replace RS := Aside0.mk (Kd.R_below RS.out hb)
  replace RX0 := Aside0.mk (Kd.R_below RX0.out hb)
  replace RX1 := Aside0.mk (Kd.S_below RX1.out hb)
  replace HB := Aside0.mk (below_into (w := w) hb HB.out)
  replace B3 := Aside0.mk (below_into (w := w3) hb B3.out)
  have s_w7 : w6.heap.size < (w6.alloc (.cells #[.slice X1 m1.length ex1, .int .i64 h] 29)).heap.size := by simp
  clear hb
  generalize w6.alloc (.cells #[.slice X1 m1.length ex1, .int .i64 h] 29) = w7 at *
  have z_z0 := World.block_lt_of_cell? _ _ z0
  refine (impl_Trial.calls X0 ex0 m0 d c X1 ex1 m1 h tt tr _ ((Kd.R_reads' RX0.out).2.2) NX0.out ((Kd.S_reads' RX1.out).2.2) NX1.out IT.out).mono ?_
  rintro x w8 ⟨u2, rfl, hR, hb⟩
  obtain ⟨G, eg, rfl, ng, _⟩ := Kd.R_reads hR
  have s78 := hb.size
  have RG := Aside0.mk (Kd.R_lower (R_iv hR) (show w3.heap.size ≤ w7.heap.size by omega))
  have NG := Aside0.mk ng
  replace f0 := pw_cell_below hb f0
  replace f1 := pw_cell_below hb f1
  replace f2 := pw_cell_below hb f2
  replace f3 := pw_cell_below hb f3
  replace f4 := pw_cell_below hb f4
  replace y0 := pw_cell_below hb y0
  replace y1 := pw_cell_below hb y1
  replace y2 := pw_cell_below hb y2
  replace z0 := pw_cell_below hb z0
  replace z1 := pw_cell_below hb z1
  replace RS := Aside0.mk (Kd.R_below RS.out hb)
  replace RX0 := Aside0.mk (Kd.R_below RX0.out hb)
  replace RX1 := Aside0.mk (Kd.S_below RX1.out hb)
  replace HB := Aside0.mk (below_into (w := w) hb HB.out)
  replace B3 := Aside0.mk (below_into (w := w3) hb B3.out)
  clear hR ng hb
  go_wp2_with fail
  refine (laws_eqIntS.calls kBig G eg tr BS es tr true _ ((Kd.R_reads' RG.out).2.2) NG.out ((Kd.R_reads' RS.out).2.2) NS.out (laws_eqIntS_same tr TRL.out kBig (Nat.lt_of_le_of_lt TRL.out (Nat.lt_of_lt_of_le (by omega) kBig_le)))).mono ?_
  rintro x w9 ⟨rfl, hd⟩
  have hb := hd.below
  replace f0 := pw_cell_below hb f0
  replace f1 := pw_cell_below hb f1
  replace f2 := pw_cell_below hb f2
  replace f3 := pw_cell_below hb f3
  replace f4 := pw_cell_below hb f4
  replace y0 := pw_cell_below hb y0
  replace y1 := pw_cell_below hb y1
  replace y2 := pw_cell_below hb y2
  replace z0 := pw_cell_below hb z0
  replace z1 := pw_cell_below hb z1
  replace RS := Aside0.mk (Kd.R_below RS.out hb)
  replace RX0 := Aside0.mk (Kd.R_below RX0.out hb)
  replace RX1 := Aside0.mk (Kd.S_below RX1.out hb)
  replace RG := Aside0.mk (Kd.R_below RG.out hb)
  replace HB := Aside0.mk (below_into (w := w) hb HB.out)
  replace B3 := Aside0.mk (below_into (w := w3) hb B3.out)
  have s_w9 := hb.size
  clear hd hb
  go_wp2_with fail
  have HV := Aside0.mk (Below.refl w9.heap.size w9)
  go_region_held3 (fun w' => w'.cell? ⟨w.heap.size, 0, none⟩ = some (.slice A0 l0.length c0) ∧ w'.cell? ⟨w.heap.size, 1, none⟩ = some (.int .i64 d) ∧ w'.cell? ⟨w.heap.size, 2, none⟩ = some (.int .i64 c) ∧ w'.cell? ⟨w.heap.size + 1, 0, none⟩ = some (.slice A1 l1.length c1) ∧ w'.cell? ⟨w.heap.size + 1, 1, none⟩ = some (.int .i64 h) ∧ w'.cell? ⟨w4.heap.size, 0, none⟩ = some (.slice X0 m0.length ex0) ∧ w'.cell? ⟨w4.heap.size, 1, none⟩ = some (.int .i64 d) ∧ w'.cell? ⟨w4.heap.size, 2, none⟩ = some (.int .i64 c) ∧ w'.cell? ⟨w6.heap.size, 0, none⟩ = some (.slice X1 m1.length ex1) ∧ w'.cell? ⟨w6.heap.size, 1, none⟩ = some (.int .i64 h)) ((first | go_keep | exact ⟨pw_cell_below hb (by assumption), pw_cell_below hb (by assumption), pw_cell_below hb (by assumption), pw_cell_below hb (by assumption), pw_cell_below hb (by assumption), pw_cell_below hb (by assumption), pw_cell_below hb (by assumption), pw_cell_below hb (by assumption), pw_cell_below hb (by assumption), pw_cell_below hb (by assumption)⟩ | (have hH := ‹_ ∧ _›; obtain ⟨t0, t1, t2, t3, t4, t5, t6, t7, t8, t9⟩ := hH; exact ⟨pw_cell_below hb t0, pw_cell_below hb t1, pw_cell_below hb t2, pw_cell_below hb t3, pw_cell_below hb t4, pw_cell_below hb t5, pw_cell_below hb t6, pw_cell_below hb t7, pw_cell_below hb t8, pw_cell_below hb t9⟩)))
    ((first | (go_at_call 37; refine (laws_toFrame.calls kBig A0 c0 l0 d c m0 d c _ (Kd.C_below H0.out (by repeat (first | exact HB.out | exact below_into HVB1.out HB.out | refine below_drew1 ?_ | refine pw_below_drewN ?_ _))) C0.out TF.out).mono ?_; rintro x wA ⟨v0, rfl, hR, hb⟩; obtain ⟨P0, p0, rfl, n0, g0⟩ := Kd.R_reads hR; have KF1 := Aside0.mk g0; have NF1 := Aside0.mk n0; have HVA1 := Aside0.mk (below_into (w := w9) hb (by repeat (first | exact HV.out | exact HVB1.out | refine below_drew1 ?_ | refine pw_below_drewN ?_ _))); (try replace KL1 := Aside0.mk (Kd.C_below KL1.out (below_into hb (by repeat (first | exact Below.refl _ _ | refine below_drew1 ?_ | refine pw_below_drewN ?_ _))))); clear hR g0 n0) | (go_at_call 41; refine (laws_eqFrame.calls X0 ex0 m0 d c P0 p0 m0 d c _ (Kd.C_below ((Kd.R_reads' RX0.out).2.2) (by repeat (first | exact HV.out | exact HVA1.out | refine below_drew1 ?_ | refine pw_below_drewN ?_ _))) (Kd.C_below KF1.out (by repeat (first | exact Below.refl _ _ | refine below_drew1 ?_ | refine pw_below_drewN ?_ _)))).mono ?_; rintro x w10 ⟨rfl, hb⟩; have HVE1 := Aside0.mk (below_into (w := w9) hb (by repeat (first | exact HV.out | exact HVA1.out | refine below_drew1 ?_ | refine pw_below_drewN ?_ _))))))
  clear f0 f1 f2 f3 f4 y0 y1 y2 z0 z1
  have hH := ‹_ ∧ _›
  obtain ⟨f0, f1, f2, f3, f4, y0, y1, y2, z0, z1⟩ := hH
  have hb := HVE1.out
  replace RS := Aside0.mk (Kd.R_below RS.out hb)
  replace RX0 := Aside0.mk (Kd.R_below RX0.out hb)
  replace RX1 := Aside0.mk (Kd.S_below RX1.out hb)
  replace RG := Aside0.mk (Kd.R_below RG.out hb)
  replace HB := Aside0.mk (below_into (w := w) hb HB.out)
  replace B3 := Aside0.mk (below_into (w := w3) hb B3.out)
  have s_w10 := hb.size
  clear hb HV
  rw [← same_true rfl]
  go_wp2_with fail
  have HV := Aside0.mk (Below.refl w10.heap.size w10)
  go_region_held3 (fun w' => w'.cell? ⟨w.heap.size, 0, none⟩ = some (.slice A0 l0.length c0) ∧ w'.cell? ⟨w.heap.size, 1, none⟩ = some (.int .i64 d) ∧ w'.cell? ⟨w.heap.size, 2, none⟩ = some (.int .i64 c) ∧ w'.cell? ⟨w.heap.size + 1, 0, none⟩ = some (.slice A1 l1.length c1) ∧ w'.cell? ⟨w.heap.size + 1, 1, none⟩ = some (.int .i64 h) ∧ w'.cell? ⟨w4.heap.size, 0, none⟩ = some (.slice X0 m0.length ex0) ∧ w'.cell? ⟨w4.heap.size, 1, none⟩ = some (.int .i64 d) ∧ w'.cell? ⟨w4.heap.size, 2, none⟩ = some (.int .i64 c) ∧ w'.cell? ⟨w6.heap.size, 0, none⟩ = some (.slice X1 m1.length ex1) ∧ w'.cell? ⟨w6.heap.size, 1, none⟩ = some (.int .i64 h)) ((first | go_keep | exact ⟨pw_cell_below hb (by assumption), pw_cell_below hb (by assumption), pw_cell_below hb (by assumption), pw_cell_below hb (by assumption), pw_cell_below hb (by assumption), pw_cell_below hb (by assumption), pw_cell_below hb (by assumption), pw_cell_below hb (by assumption), pw_cell_below hb (by assumption), pw_cell_below hb (by assumption)⟩ | (have hH := ‹_ ∧ _›; obtain ⟨t0, t1, t2, t3, t4, t5, t6, t7, t8, t9⟩ := hH; exact ⟨pw_cell_below hb t0, pw_cell_below hb t1, pw_cell_below hb t2, pw_cell_below hb t3, pw_cell_below hb t4, pw_cell_below hb t5, pw_cell_below hb t6, pw_cell_below hb t7, pw_cell_below hb t8, pw_cell_below hb t9⟩)))
    ((first | (go_at_call 49; refine (laws_toLedger.calls kBig A1 c1 l1 h m1 h _ (Kd.C_below H1.out (by repeat (first | exact HB.out | exact below_into HVA2.out HB.out | refine below_drew1 ?_ | refine pw_below_drewN ?_ _))) C1.out TL.out).mono ?_; rintro x wB ⟨v1, rfl, hR, hb⟩; obtain ⟨P1, p1, rfl, n1, g1⟩ := Kd.S_reads hR; have KL2 := Aside0.mk g1; have NL2 := Aside0.mk n1; have HVB2 := Aside0.mk (below_into (w := w10) hb (by repeat (first | exact HV.out | exact HVA2.out | refine below_drew1 ?_ | refine pw_below_drewN ?_ _))); (try replace KF2 := Aside0.mk (Kd.C_below KF2.out (below_into hb (by repeat (first | exact Below.refl _ _ | refine below_drew1 ?_ | refine pw_below_drewN ?_ _))))); clear hR g1 n1) | (go_at_call 51; refine (laws_eqLedger.calls X1 ex1 m1 h P1 p1 m1 h _ (Kd.C_below ((Kd.S_reads' RX1.out).2.2) (by repeat (first | exact HV.out | exact HVB2.out | refine below_drew1 ?_ | refine pw_below_drewN ?_ _))) (Kd.C_below KL2.out (by repeat (first | exact Below.refl _ _ | refine below_drew1 ?_ | refine pw_below_drewN ?_ _)))).mono ?_; rintro x w11 ⟨rfl, hb⟩; have HVE2 := Aside0.mk (below_into (w := w10) hb (by repeat (first | exact HV.out | exact HVB2.out | refine below_drew1 ?_ | refine pw_below_drewN ?_ _))))))
  clear f0 f1 f2 f3 f4 y0 y1 y2 z0 z1
  have hH := ‹_ ∧ _›
  obtain ⟨f0, f1, f2, f3, f4, y0, y1, y2, z0, z1⟩ := hH
  have hb := HVE2.out
  replace RS := Aside0.mk (Kd.R_below RS.out hb)
  replace RX0 := Aside0.mk (Kd.R_below RX0.out hb)
  replace RX1 := Aside0.mk (Kd.S_below RX1.out hb)
  replace RG := Aside0.mk (Kd.R_below RG.out hb)
  replace HB := Aside0.mk (below_into (w := w) hb HB.out)
  replace B3 := Aside0.mk (below_into (w := w3) hb B3.out)
  have s_w11 := hb.size
  clear hb HV
  rw [← same_true rfl]
  go_wp2_with fail
  refine (laws_markFrame.calls kBig (Iv w3.heap.size w4.heap.size) (.slice X0 m0.length ex0) m0 d c 1 _ _ w3 _ B3.out RX0.out (laws_markFrame_is m0 d c kBig 1 (Nat.lt_of_lt_of_le (by have := ML0.out; omega) kBig_le) ML0.out (by omega) (by omega))).mono ?_
  rintro x w12 ⟨rfl, hR, hB3, hK⟩
  replace f0 := cell_iv_kept f0 hK (by first | exact Or.inl (show w.heap.size < w3.heap.size by omega) | exact Or.inr (show w4.heap.size ≤ w.heap.size by omega))
  replace f1 := cell_iv_kept f1 hK (by first | exact Or.inl (show w.heap.size < w3.heap.size by omega) | exact Or.inr (show w4.heap.size ≤ w.heap.size by omega))
  replace f2 := cell_iv_kept f2 hK (by first | exact Or.inl (show w.heap.size < w3.heap.size by omega) | exact Or.inr (show w4.heap.size ≤ w.heap.size by omega))
  replace f3 := cell_iv_kept f3 hK (by first | exact Or.inl (show w.heap.size + 1 < w3.heap.size by omega) | exact Or.inr (show w4.heap.size ≤ w.heap.size + 1 by omega))
  replace f4 := cell_iv_kept f4 hK (by first | exact Or.inl (show w.heap.size + 1 < w3.heap.size by omega) | exact Or.inr (show w4.heap.size ≤ w.heap.size + 1 by omega))
  replace y0 := cell_iv_kept y0 hK (by first | exact Or.inl (show w4.heap.size < w3.heap.size by omega) | exact Or.inr (show w4.heap.size ≤ w4.heap.size by omega))
  replace y1 := cell_iv_kept y1 hK (by first | exact Or.inl (show w4.heap.size < w3.heap.size by omega) | exact Or.inr (show w4.heap.size ≤ w4.heap.size by omega))
  replace y2 := cell_iv_kept y2 hK (by first | exact Or.inl (show w4.heap.size < w3.heap.size by omega) | exact Or.inr (show w4.heap.size ≤ w4.heap.size by omega))
  replace z0 := cell_iv_kept z0 hK (by first | exact Or.inl (show w6.heap.size < w3.heap.size by omega) | exact Or.inr (show w4.heap.size ≤ w6.heap.size by omega))
  replace z1 := cell_iv_kept z1 hK (by first | exact Or.inl (show w6.heap.size < w3.heap.size by omega) | exact Or.inr (show w4.heap.size ≤ w6.heap.size by omega))
  replace RS := Aside0.mk (R_iv_kept RS.out hK (by omega))
  replace RX1 := Aside0.mk (S_iv_kept RX1.out hK (by omega))
  replace RG := Aside0.mk (R_iv_kept RG.out hK (by omega))
  replace B3 := Aside0.mk hB3
  replace HB := Aside0.mk (below_into (w := w) hB3 HBW.out)
  have s_w12 := hK.1
  clear hR hB3 hK RX0
  have nb0 := nAcc_b m0 1
  have nbl := ML0.out
  generalize nAll nAcc 1 m0 = K0 at *
  go_wp2_with fail
  refine (laws_markLedger.to (Iv w5.heap.size w6.heap.size) X1 ex1 m1 h K0 w3 _ B3.out RX1.out (by omega) (by omega) ML1.out.1 ML1.out.2).mono ?_
  rintro x w13 ⟨rfl, hS, hB3, hK⟩
  replace f0 := cell_iv_kept f0 hK (by first | exact Or.inl (show w.heap.size < w5.heap.size by omega) | exact Or.inr (show w6.heap.size ≤ w.heap.size by omega))
  replace f1 := cell_iv_kept f1 hK (by first | exact Or.inl (show w.heap.size < w5.heap.size by omega) | exact Or.inr (show w6.heap.size ≤ w.heap.size by omega))
  replace f2 := cell_iv_kept f2 hK (by first | exact Or.inl (show w.heap.size < w5.heap.size by omega) | exact Or.inr (show w6.heap.size ≤ w.heap.size by omega))
  replace f3 := cell_iv_kept f3 hK (by first | exact Or.inl (show w.heap.size + 1 < w5.heap.size by omega) | exact Or.inr (show w6.heap.size ≤ w.heap.size + 1 by omega))
  replace f4 := cell_iv_kept f4 hK (by first | exact Or.inl (show w.heap.size + 1 < w5.heap.size by omega) | exact Or.inr (show w6.heap.size ≤ w.heap.size + 1 by omega))
  replace y0 := cell_iv_kept y0 hK (by first | exact Or.inl (show w4.heap.size < w5.heap.size by omega) | exact Or.inr (show w6.heap.size ≤ w4.heap.size by omega))
  replace y1 := cell_iv_kept y1 hK (by first | exact Or.inl (show w4.heap.size < w5.heap.size by omega) | exact Or.inr (show w6.heap.size ≤ w4.heap.size by omega))
  replace y2 := cell_iv_kept y2 hK (by first | exact Or.inl (show w4.heap.size < w5.heap.size by omega) | exact Or.inr (show w6.heap.size ≤ w4.heap.size by omega))
  replace z0 := cell_iv_kept z0 hK (by first | exact Or.inl (show w6.heap.size < w5.heap.size by omega) | exact Or.inr (show w6.heap.size ≤ w6.heap.size by omega))
  replace z1 := cell_iv_kept z1 hK (by first | exact Or.inl (show w6.heap.size < w5.heap.size by omega) | exact Or.inr (show w6.heap.size ≤ w6.heap.size by omega))
  replace RS := Aside0.mk (R_iv_kept RS.out hK (by omega))
  replace RG := Aside0.mk (R_iv_kept RG.out hK (by omega))
  replace B3 := Aside0.mk hB3
  replace HB := Aside0.mk (below_into (w := w) hB3 HBW.out)
  have s_w13 := hK.1
  clear hS hB3 hK RX1
  have nb1 := (nEnt_b m1 ML1.out.2 K0).1
  generalize nAll nEnt K0 m1 = K1 at *
  have nb2 : decide (K1 < 0) = false := decide_eq_false (by omega)
  have nb3 : ¬ K1 < 0 := by omega
  go_wp2_with fail
  refine (laws_eqIntS.calls kBig G eg tr BS es tr true _ ((Kd.R_reads' RG.out).2.2) NG.out ((Kd.R_reads' RS.out).2.2) NS.out (laws_eqIntS_same tr TRL.out kBig (Nat.lt_of_le_of_lt TRL.out (Nat.lt_of_lt_of_le (by omega) kBig_le)))).mono ?_
  rintro x w14 ⟨rfl, hd⟩
  have hb := hd.below
  replace f0 := pw_cell_below hb f0
  replace f1 := pw_cell_below hb f1
  replace f2 := pw_cell_below hb f2
  replace f3 := pw_cell_below hb f3
  replace f4 := pw_cell_below hb f4
  replace y0 := pw_cell_below hb y0
  replace y1 := pw_cell_below hb y1
  replace y2 := pw_cell_below hb y2
  replace z0 := pw_cell_below hb z0
  replace z1 := pw_cell_below hb z1
  replace RS := Aside0.mk (Kd.R_below RS.out hb)
  replace RG := Aside0.mk (Kd.R_below RG.out hb)
  replace HB := Aside0.mk (below_into (w := w) hb HB.out)
  replace B3 := Aside0.mk (below_into (w := w3) hb B3.out)
  have s_w14 := hb.size
  clear hd hb
  clear nb2
  go_wp2_with fail
  refine (laws_markIntS.calls kBig (Iv w7.heap.size w8.heap.size) (.slice G tr.length eg) tr 1 _ _ w3 _ B3.out RG.out (laws_markIntS_is tr kBig 1 (Nat.lt_of_le_of_lt TRL.out (Nat.lt_of_lt_of_le (by omega) kBig_le)) TRL.out (by omega) (by omega))).mono ?_
  rintro x w15 ⟨rfl, hR, hB3, hK⟩
  have RM := Aside0.mk (R_iv_mark rfl RG.out hR)
  replace f0 := cell_iv_kept f0 hK (by first | exact Or.inl (show w.heap.size < w7.heap.size by omega) | exact Or.inr (show w8.heap.size ≤ w.heap.size by omega))
  replace f1 := cell_iv_kept f1 hK (by first | exact Or.inl (show w.heap.size < w7.heap.size by omega) | exact Or.inr (show w8.heap.size ≤ w.heap.size by omega))
  replace f2 := cell_iv_kept f2 hK (by first | exact Or.inl (show w.heap.size < w7.heap.size by omega) | exact Or.inr (show w8.heap.size ≤ w.heap.size by omega))
  replace f3 := cell_iv_kept f3 hK (by first | exact Or.inl (show w.heap.size + 1 < w7.heap.size by omega) | exact Or.inr (show w8.heap.size ≤ w.heap.size + 1 by omega))
  replace f4 := cell_iv_kept f4 hK (by first | exact Or.inl (show w.heap.size + 1 < w7.heap.size by omega) | exact Or.inr (show w8.heap.size ≤ w.heap.size + 1 by omega))
  replace y0 := cell_iv_kept y0 hK (by first | exact Or.inl (show w4.heap.size < w7.heap.size by omega) | exact Or.inr (show w8.heap.size ≤ w4.heap.size by omega))
  replace y1 := cell_iv_kept y1 hK (by first | exact Or.inl (show w4.heap.size < w7.heap.size by omega) | exact Or.inr (show w8.heap.size ≤ w4.heap.size by omega))
  replace y2 := cell_iv_kept y2 hK (by first | exact Or.inl (show w4.heap.size < w7.heap.size by omega) | exact Or.inr (show w8.heap.size ≤ w4.heap.size by omega))
  replace z0 := cell_iv_kept z0 hK (by first | exact Or.inl (show w6.heap.size < w7.heap.size by omega) | exact Or.inr (show w8.heap.size ≤ w6.heap.size by omega))
  replace z1 := cell_iv_kept z1 hK (by first | exact Or.inl (show w6.heap.size < w7.heap.size by omega) | exact Or.inr (show w8.heap.size ≤ w6.heap.size by omega))
  replace RS := Aside0.mk (R_iv_kept RS.out hK (by omega))
  replace B3 := Aside0.mk hB3
  replace HB := Aside0.mk (below_into (w := w) hB3 HBW.out)
  have s_w15 := hK.1
  clear hR hB3 hK RG
  have nb4 := nNum_b tr 1
  have nb5 := TRL.out
  have HLD := Aside0.mk (fun W (hW : Kd.C (Kd.int .i64) W G tr.length (mAll mNum nNum 1 tr)) => heldIntS_at G eg tr W hW NG.out TRL.out)
  generalize nAll nNum 1 tr = Q at *
  have nb6 : decide (Q < 0) = false := decide_eq_false (by omega)
  go_wp2_with fail
  refine (HLD.out _ (by have hC := (Kd.R_reads' RM.out).2.2; rw [mAll_length] at hC; exact hC)).mono ?_
  rintro x w16 ⟨rfl, hd⟩
  have hb := hd.below
  replace f0 := pw_cell_below hb f0
  replace f1 := pw_cell_below hb f1
  replace f2 := pw_cell_below hb f2
  replace f3 := pw_cell_below hb f3
  replace f4 := pw_cell_below hb f4
  replace y0 := pw_cell_below hb y0
  replace y1 := pw_cell_below hb y1
  replace y2 := pw_cell_below hb y2
  replace z0 := pw_cell_below hb z0
  replace z1 := pw_cell_below hb z1
  replace RS := Aside0.mk (Kd.R_below RS.out hb)
  replace RM := Aside0.mk (Kd.R_below RM.out hb)
  replace HB := Aside0.mk (below_into (w := w) hb HB.out)
  replace B3 := Aside0.mk (below_into (w := w3) hb B3.out)
  have s_w16 := hb.size
  clear hd hb
  go_wp2_with fail
  have HV := Aside0.mk (Below.refl w16.heap.size w16)
  go_region_held3 (fun w' => w'.cell? ⟨w.heap.size, 0, none⟩ = some (.slice A0 l0.length c0) ∧ w'.cell? ⟨w.heap.size, 1, none⟩ = some (.int .i64 d) ∧ w'.cell? ⟨w.heap.size, 2, none⟩ = some (.int .i64 c) ∧ w'.cell? ⟨w.heap.size + 1, 0, none⟩ = some (.slice A1 l1.length c1) ∧ w'.cell? ⟨w.heap.size + 1, 1, none⟩ = some (.int .i64 h) ∧ w'.cell? ⟨w4.heap.size, 0, none⟩ = some (.slice X0 m0.length ex0) ∧ w'.cell? ⟨w4.heap.size, 1, none⟩ = some (.int .i64 d) ∧ w'.cell? ⟨w4.heap.size, 2, none⟩ = some (.int .i64 c) ∧ w'.cell? ⟨w6.heap.size, 0, none⟩ = some (.slice X1 m1.length ex1) ∧ w'.cell? ⟨w6.heap.size, 1, none⟩ = some (.int .i64 h)) ((first | go_keep | exact ⟨pw_cell_below hb (by assumption), pw_cell_below hb (by assumption), pw_cell_below hb (by assumption), pw_cell_below hb (by assumption), pw_cell_below hb (by assumption), pw_cell_below hb (by assumption), pw_cell_below hb (by assumption), pw_cell_below hb (by assumption), pw_cell_below hb (by assumption), pw_cell_below hb (by assumption)⟩ | (have hH := ‹_ ∧ _›; obtain ⟨t0, t1, t2, t3, t4, t5, t6, t7, t8, t9⟩ := hH; exact ⟨pw_cell_below hb t0, pw_cell_below hb t1, pw_cell_below hb t2, pw_cell_below hb t3, pw_cell_below hb t4, pw_cell_below hb t5, pw_cell_below hb t6, pw_cell_below hb t7, pw_cell_below hb t8, pw_cell_below hb t9⟩)))
    ((first | (go_at_call 37; refine (laws_toFrame.calls kBig A0 c0 l0 d c m0 d c _ (Kd.C_below H0.out (by repeat (first | exact HB.out | exact below_into HVB3.out HB.out | refine below_drew1 ?_ | refine pw_below_drewN ?_ _))) C0.out TF.out).mono ?_; rintro x wA ⟨v0, rfl, hR, hb⟩; obtain ⟨P0, p0, rfl, n0, g0⟩ := Kd.R_reads hR; have KF3 := Aside0.mk g0; have NF3 := Aside0.mk n0; have HVA3 := Aside0.mk (below_into (w := w16) hb (by repeat (first | exact HV.out | exact HVB3.out | refine below_drew1 ?_ | refine pw_below_drewN ?_ _))); (try replace KL3 := Aside0.mk (Kd.C_below KL3.out (below_into hb (by repeat (first | exact Below.refl _ _ | refine below_drew1 ?_ | refine pw_below_drewN ?_ _))))); clear hR g0 n0) | (go_at_call 49; refine (laws_toLedger.calls kBig A1 c1 l1 h m1 h _ (Kd.C_below H1.out (by repeat (first | exact HB.out | exact below_into HVA3.out HB.out | refine below_drew1 ?_ | refine pw_below_drewN ?_ _))) C1.out TL.out).mono ?_; rintro x wB ⟨v1, rfl, hR, hb⟩; obtain ⟨P1, p1, rfl, n1, g1⟩ := Kd.S_reads hR; have KL3 := Aside0.mk g1; have NL3 := Aside0.mk n1; have HVB3 := Aside0.mk (below_into (w := w16) hb (by repeat (first | exact HV.out | exact HVA3.out | refine below_drew1 ?_ | refine pw_below_drewN ?_ _))); (try replace KF3 := Aside0.mk (Kd.C_below KF3.out (below_into hb (by repeat (first | exact Below.refl _ _ | refine below_drew1 ?_ | refine pw_below_drewN ?_ _))))); clear hR g1 n1) | (go_at_call 25; refine (impl_Trial.calls P0 p0 m0 d c P1 p1 m1 h tt tr _ (Kd.C_below KF3.out (by repeat (first | exact Below.refl _ _ | refine below_drew1 ?_ | refine pw_below_drewN ?_ _))) NF3.out (Kd.C_below KL3.out (by repeat (first | exact Below.refl _ _ | refine below_drew1 ?_ | refine pw_below_drewN ?_ _))) NL3.out IT.out).mono ?_; rintro x w17 ⟨vh, rfl, hR, hb⟩; obtain ⟨BH, eh, rfl, nH, gH⟩ := Kd.R_reads hR; have KH := Aside0.mk gH; have NH := Aside0.mk nH; have HVE3 := Aside0.mk (below_into (w := w16) hb (by repeat (first | exact HV.out | exact HVA3.out | exact HVB3.out | refine below_drew1 ?_ | refine pw_below_drewN ?_ _))); clear hR nH gH)))
  clear f0 f1 f2 f3 f4 y0 y1 y2 z0 z1
  have hH := ‹_ ∧ _›
  obtain ⟨f0, f1, f2, f3, f4, y0, y1, y2, z0, z1⟩ := hH
  have hb := HVE3.out
  replace RS := Aside0.mk (Kd.R_below RS.out hb)
  replace RM := Aside0.mk (Kd.R_below RM.out hb)
  replace HB := Aside0.mk (below_into (w := w) hb HB.out)
  replace B3 := Aside0.mk (below_into (w := w3) hb B3.out)
  have s_w17 := hb.size
  clear hb HV
  go_wp2_with fail
  refine (laws_eqIntS.calls kBig BH eh tr BS es tr true _ KH.out NH.out ((Kd.R_reads' RS.out).2.2) NS.out (laws_eqIntS_same tr TRL.out kBig (Nat.lt_of_le_of_lt TRL.out (Nat.lt_of_lt_of_le (by omega) kBig_le)))).mono ?_
  rintro x w18 ⟨rfl, hd⟩
  have hb := hd.below
  replace f0 := pw_cell_below hb f0
  replace f1 := pw_cell_below hb f1
  replace f2 := pw_cell_below hb f2
  replace f3 := pw_cell_below hb f3
  replace f4 := pw_cell_below hb f4
  replace y0 := pw_cell_below hb y0
  replace y1 := pw_cell_below hb y1
  replace y2 := pw_cell_below hb y2
  replace z0 := pw_cell_below hb z0
  replace z1 := pw_cell_below hb z1
  replace RS := Aside0.mk (Kd.R_below RS.out hb)
  replace RM := Aside0.mk (Kd.R_below RM.out hb)
  replace HB := Aside0.mk (below_into (w := w) hb HB.out)
  replace B3 := Aside0.mk (below_into (w := w3) hb B3.out)
  clear hd hb
  go_wp2_with fail
  refine (HLD.out _ (by have hC := (Kd.R_reads' RM.out).2.2; rw [mAll_length] at hC; exact hC)).mono ?_
  rintro x w19 ⟨rfl, hd⟩
  have hb := hd.below
  replace f0 := pw_cell_below hb f0
  replace f1 := pw_cell_below hb f1
  replace f2 := pw_cell_below hb f2
  replace f3 := pw_cell_below hb f3
  replace f4 := pw_cell_below hb f4
  replace y0 := pw_cell_below hb y0
  replace y1 := pw_cell_below hb y1
  replace y2 := pw_cell_below hb y2
  replace z0 := pw_cell_below hb z0
  replace z1 := pw_cell_below hb z1
  replace RS := Aside0.mk (Kd.R_below RS.out hb)
  replace RM := Aside0.mk (Kd.R_below RM.out hb)
  replace HB := Aside0.mk (below_into (w := w) hb HB.out)
  replace B3 := Aside0.mk (below_into (w := w3) hb B3.out)
  have s_w19 := hb.size
  clear hd hb
  go_wp2_with fail
  go_ret
  exact ⟨rfl, HB.out⟩

end Go.Proofs.Ytphmnkcfjgallaa.Q
