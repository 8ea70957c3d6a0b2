/- Parts of the proof: what functions of the program and of the reference answer.
   No condition. -/
import Derived.Test.YtphmnkcfjgallaaZSpread1
namespace Go.Proofs.Ytphmnkcfjgallaa.Q
open Go.RowKit Go.Proofs.YtphmnkcfjgallaaW.PrintWords Go.Proofs.YtphmnkcfjgallaaW.PrintLast Go.Proofs.YtphmnkcfjgallaaW.PrintMore
attribute [local go_sem] max2_int min2_int max_two min_two max_three min_three max_four min_four   -- for this text's walks alone
set_option linter.unusedVariables false
set_option linter.unusedSimpArgs false
noncomputable def laws_toPeriod.f (a0_0 : Int) (a0_1 : Int) : Option (Int × Int) := some (a0_0, a0_1)
set_option maxHeartbeats 8000000 in
set_option maxRecDepth 100000 in
theorem laws_toPeriod.calls (a0_0 : Int) (a0_1 : Int) (r1 : Int) (r2 : Int) (w : World) (h : laws_toPeriod.f a0_0 a0_1 = some (r1, r2)) :
    Calls Try.prog 105 #[.agg #[.int .i64 a0_0, .int .i64 a0_1]] w fun e w' => e = .returned (.agg #[.int .i64 r1, .int .i64 r2]) ∧ Below w.heap.size w w' := by
  have hu138 := Try.underlying138
  have hu133 := Try.underlying133
  have HB := Aside0.mk (Below.refl w.heap.size w)
  have H : (some (a0_0, a0_1)) = some (r1, r2) := h
  clear h
  simp only [Option.some.injEq, Prod.mk.injEq] at H
  obtain ⟨rfl, rfl⟩ := H
  go_enter Try.func105, Try.ntmps105
  go_wp2_with (first | ((with_reducible refine gate_dst (N := 1) rfl ?_); refine box_event ?hg (N := 1) ?hd (cs := #[.int .i64 a0_0, .int .i64 a0_1]) (t := 138) ?hr ?_; (case hd => rfl); (case hg => rfl); (case hr => first | (go_simp; done) | (go_simp; rfl)); intro gb106001 hg w2 hbox hb; have n0_ := Aside0.mk (below_step (by repeat (first | (with_reducible first | exact HB.out | apply below_alloc | apply pw_below_drewN | apply below_drew1) | exact HB.out)) hb); have n1_ := Aside0.mk (hbox); have n2_ := Aside0.mk ((by rw [hg]; exact (below_size (by repeat (first | (with_reducible first | exact HB.out | apply below_alloc | apply pw_below_drewN | apply below_drew1) | exact HB.out))) : w.heap.size ≤ gb106001)); have n3_ := Aside0.mk ((by rw [hg]; exact (below_size (by repeat (first | (with_reducible first | exact HB.out | apply below_alloc | apply pw_below_drewN | apply below_drew1) | exact HB.out))) : w.heap.size ≤ gb106001)); clear HB; have HB := n0_; have BK106001 := n1_; have GW106001 := n2_; have GE106001 := n3_; clear n0_ n1_ n2_ n3_; clear hb hbox hg) | ((with_reducible refine gate_dst (N := 2) rfl ?_); refine box_event ?hg (N := 2) ?hd (cs := #[.int .i64 0, .int .i64 0]) (t := 133) ?hr ?_; (case hd => rfl); (case hg => rfl); (case hr => first | (go_simp; done) | (go_simp; rfl)); intro gb106002 hg w3 hbox hb; have n0_ := Aside0.mk (blk_below (g := gb106001) (o := .cells #[.int .i64 a0_0, .int .i64 a0_1] 138 (0, 0)) (by (with_reducible repeat (first | refine blk_drewN ?_ _ | refine blk_drew ?_ | refine blk_alloc ?_ _)); exact BK106001.out) hb); have n1_ := Aside0.mk (below_step (by repeat (first | (with_reducible first | exact HB.out | apply below_alloc | apply pw_below_drewN | apply below_drew1 | refine below_set ?_ GE106001.out) | exact HB.out)) hb); have n2_ := Aside0.mk (hbox); have n3_ := Aside0.mk ((by rw [hg]; exact (below_size (by repeat (first | (with_reducible first | exact HB.out | apply below_alloc | apply pw_below_drewN | apply below_drew1 | refine below_set ?_ GE106001.out) | exact HB.out))) : w.heap.size ≤ gb106002)); have n4_ := Aside0.mk ((by rw [hg]; exact (below_size (by repeat (first | (with_reducible first | exact HB.out | apply below_alloc | apply pw_below_drewN | apply below_drew1 | refine below_set ?_ GE106001.out) | exact HB.out))) : w.heap.size ≤ gb106002)); have n5_ := Aside0.mk ((by rw [hg]; exact Nat.ne_of_lt (blk_lt (g := gb106001) (o := .cells #[.int .i64 a0_0, .int .i64 a0_1] 138 (0, 0)) (by (with_reducible repeat (first | refine blk_drewN ?_ _ | refine blk_drew ?_ | refine blk_alloc ?_ _)); exact BK106001.out)) : gb106001 ≠ gb106002)); have n6_ := Aside0.mk ((by rw [hg]; exact Nat.ne_of_gt (blk_lt (g := gb106001) (o := .cells #[.int .i64 a0_0, .int .i64 a0_1] 138 (0, 0)) (by (with_reducible repeat (first | refine blk_drewN ?_ _ | refine blk_drew ?_ | refine blk_alloc ?_ _)); exact BK106001.out)) : gb106002 ≠ gb106001)); clear BK106001; clear HB; have BK106001 := n0_; have HB := n1_; have BK106002 := n2_; have GW106002 := n3_; have GE106002 := n4_; have NB106001_106002 := n5_; have NB106002_106001 := n6_; clear n0_ n1_ n2_ n3_ n4_ n5_ n6_; clear hb hbox hg) | ((with_reducible refine gate_dst (N := 3) rfl ?_); refine box_event ?hg (N := 3) ?hd (cs := #[.int .i64 0, .int .i64 0]) (t := 133) ?hr ?_; (case hd => rfl); (case hg => rfl); (case hr => first | (go_simp; done) | (go_simp; rfl)); intro gb106003 hg w4 hbox hb; have n0_ := Aside0.mk (blk_below (g := gb106001) (o := .cells #[.int .i64 a0_0, .int .i64 a0_1] 138 (0, 0)) (by (with_reducible repeat (first | refine blk_drewN ?_ _ | refine blk_drew ?_ | refine blk_alloc ?_ _)); exact BK106001.out) hb); have n1_ := Aside0.mk (blk_below (g := gb106002) (o := .cells #[.int .i64 0, .int .i64 0] 133 (0, 0)) (by (with_reducible repeat (first | refine blk_drewN ?_ _ | refine blk_drew ?_ | refine blk_alloc ?_ _)); exact BK106002.out) hb); have n2_ := Aside0.mk (below_step (by repeat (first | (with_reducible first | exact HB.out | apply below_alloc | apply pw_below_drewN | apply below_drew1 | refine below_set ?_ GE106001.out | refine below_set ?_ GE106002.out) | exact HB.out)) hb); have n3_ := Aside0.mk (hbox); have n4_ := Aside0.mk ((by rw [hg]; exact (below_size (by repeat (first | (with_reducible first | exact HB.out | apply below_alloc | apply pw_below_drewN | apply below_drew1 | refine below_set ?_ GE106001.out | refine below_set ?_ GE106002.out) | exact HB.out))) : w.heap.size ≤ gb106003)); have n5_ := Aside0.mk ((by rw [hg]; exact (below_size (by repeat (first | (with_reducible first | exact HB.out | apply below_alloc | apply pw_below_drewN | apply below_drew1 | refine below_set ?_ GE106001.out | refine below_set ?_ GE106002.out) | exact HB.out))) : w.heap.size ≤ gb106003)); have n6_ := Aside0.mk ((by rw [hg]; exact Nat.ne_of_lt (blk_lt (g := gb106001) (o := .cells #[.int .i64 a0_0, .int .i64 a0_1] 138 (0, 0)) (by (with_reducible repeat (first | refine blk_drewN ?_ _ | refine blk_drew ?_ | refine blk_alloc ?_ _)); exact BK106001.out)) : gb106001 ≠ gb106003)); have n7_ := Aside0.mk ((by rw [hg]; exact Nat.ne_of_gt (blk_lt (g := gb106001) (o := .cells #[.int .i64 a0_0, .int .i64 a0_1] 138 (0, 0)) (by (with_reducible repeat (first | refine blk_drewN ?_ _ | refine blk_drew ?_ | refine blk_alloc ?_ _)); exact BK106001.out)) : gb106003 ≠ gb106001)); have n8_ := Aside0.mk ((by rw [hg]; exact Nat.ne_of_lt (blk_lt (g := gb106002) (o := .cells #[.int .i64 0, .int .i64 0] 133 (0, 0)) (by (with_reducible repeat (first | refine blk_drewN ?_ _ | refine blk_drew ?_ | refine blk_alloc ?_ _)); exact BK106002.out)) : gb106002 ≠ gb106003)); have n9_ := Aside0.mk ((by rw [hg]; exact Nat.ne_of_gt (blk_lt (g := gb106002) (o := .cells #[.int .i64 0, .int .i64 0] 133 (0, 0)) (by (with_reducible repeat (first | refine blk_drewN ?_ _ | refine blk_drew ?_ | refine blk_alloc ?_ _)); exact BK106002.out)) : gb106003 ≠ gb106002)); clear BK106001; clear BK106002; clear HB; have BK106001 := n0_; have BK106002 := n1_; have HB := n2_; have BK106003 := n3_; have GW106003 := n4_; have GE106003 := n5_; have NB106001_106003 := n6_; have NB106003_106001 := n7_; have NB106002_106003 := n8_; have NB106003_106002 := n9_; clear n0_ n1_ n2_ n3_ n4_ n5_ n6_ n7_ n8_ n9_; clear hb hbox hg; have hnb5 := NB106001_106002.out; have hnc5 := NB106002_106001.out; have hnb6 := NB106001_106003.out; have hnc6 := NB106003_106001.out; have hcz7_0 : w4.cell? ⟨gb106001, 0, none⟩ = some (.int .i64 a0_0) := (blk_cell BK106001.out 0).trans rfl; have hcz7_1 : w4.cell? ⟨gb106001, 1, none⟩ = some (.int .i64 a0_1) := (blk_cell BK106001.out 1).trans rfl; have hfz7_0 := blk_frozen BK106001.out 0; have hfz7_1 := blk_frozen BK106001.out 1; have hnb8 := NB106003_106002.out; have hnc8 := NB106002_106003.out; have hcz9_0 : w4.cell? ⟨gb106003, 0, none⟩ = some (.int .i64 0) := (blk_cell BK106003.out 0).trans rfl; have hcz9_1 : w4.cell? ⟨gb106003, 1, none⟩ = some (.int .i64 0) := (blk_cell BK106003.out 1).trans rfl; have hfz9_0 := blk_frozen BK106003.out 0; have hfz9_1 := blk_frozen BK106003.out 1; have hcz10_0 : w4.cell? ⟨gb106002, 0, none⟩ = some (.int .i64 0) := (blk_cell BK106002.out 0).trans rfl; have hcz10_1 : w4.cell? ⟨gb106002, 1, none⟩ = some (.int .i64 0) := (blk_cell BK106002.out 1).trans rfl; have hfz10_0 := blk_frozen BK106002.out 0; have hfz10_1 := blk_frozen BK106002.out 1))
  refine bodyPost_ret (results_cell_row rfl _ _ gb106002 133 #[.int .i64 a0_0, .int .i64 a0_1] (0, 0) _ rfl (by (with_reducible repeat (first | refine blk_drewN ?_ _ | refine blk_drew ?_ | refine blk_alloc ?_ _)); refine blk_put (cs := #[.int .i64 a0_0, .int .i64 0]) ?_ 1 _ rfl; (with_reducible repeat (first | refine blk_drewN ?_ _ | refine blk_drew ?_ | refine blk_alloc ?_ _)); refine blk_put (cs := #[.int .i64 0, .int .i64 0]) ?_ 0 _ rfl; (with_reducible repeat (first | refine blk_drewN ?_ _ | refine blk_drew ?_ | refine blk_alloc ?_ _)); refine blk_far ?_ NB106002_106003.out _; (with_reducible repeat (first | refine blk_drewN ?_ _ | refine blk_drew ?_ | refine blk_alloc ?_ _)); refine blk_far ?_ NB106002_106003.out _; (with_reducible repeat (first | refine blk_drewN ?_ _ | refine blk_drew ?_ | refine blk_alloc ?_ _)); exact BK106002.out) Try.underlying133 rfl (by kernel_rfl)) rfl ?_
  exact ⟨by first | rfl | (simp [errW_none, errW_some] <;> rfl) | (simp [*, errW_none, errW_some] <;> rfl), by repeat (first | (with_reducible first | exact HB.out | apply below_alloc | apply pw_below_drewN | apply below_drew1 | refine below_set ?_ GE106001.out | refine below_set ?_ GE106002.out | refine below_set ?_ GE106003.out) | exact HB.out)⟩
end Go.Proofs.Ytphmnkcfjgallaa.Q
namespace Go.Proofs.Ytphmnkcfjgallaa.Q
open Go.RowKit Go.Proofs.YtphmnkcfjgallaaW.PrintWords Go.Proofs.YtphmnkcfjgallaaW.PrintLast Go.Proofs.YtphmnkcfjgallaaW.PrintMore
attribute [local go_sem] max2_int min2_int max_two min_two max_three min_three max_four min_four   -- for this text's walks alone
set_option linter.unusedVariables false
set_option linter.unusedSimpArgs false
theorem deep_step {chart : List Acc} {a p : Int} (h : ∀ j : Int, 0 ≤ j → j ≤ a → par chart j < j) (h0 : 0 ≤ p) (h1 : p ≤ a) (hp : 0 ≤ par chart p) : deepAt chart p = deepAt chart (par chart p) + 1 := by
  have hlt := h p h0 h1
  show anc chart (p.toNat + 1) p = _
  unfold anc
  rw [if_pos hp]
  unfold deepAt
  rw [anc_more chart (a + 1) (fun j j0 j1 => h j j0 (by omega)) p.toNat ((par chart p).toNat + 1) (par chart p) hp (by omega) (by omega) (by omega)]
set_option maxHeartbeats 4000000 in
set_option maxRecDepth 100000 in
theorem spec_l4Deep.to (A0 : Option Addr) (c0 : Nat) (l0 : List Acc) (a : Int) (w : World) (hr0 : Kd.C k131 w A0 l0.length l0) (h0 : 0 ≤ a) (ha : a < (l0.length : Int)) (hn : l0.length ≤ 120) (hrows : ∀ j : Int, 0 ≤ j → j ≤ a → par l0 j < j) :
    Calls Try.prog 155 #[.slice A0 l0.length c0, .int .i64 a] w fun e w' => e = .returned (.int .i64 (deepAt l0 a)) ∧ w' = w := by
  have H0 := Aside0.mk hr0
  have HR := Aside0.mk hrows
  clear hr0 hrows
  go_enter Try.func155, Try.ntmps155
  go_wp2_with fail
  go_loop [1, 5] (fun v u => ∃ p n : Int, 0 ≤ p ∧ p ≤ a ∧ v = .int .i64 p ∧ 0 ≤ n ∧ n + p ≤ a ∧ u = .int .i64 n ∧ Aside0 (n + deepAt l0 p = deepAt l0 a)) (fun v _ => (intOf v).toNat)
  case atStart => exact ⟨a, 0, h0, by omega, rfl, by omega, by omega, rfl, ⟨by omega⟩⟩
  case round =>
    obtain ⟨p, n, hp0, hp1, rfl, hn0, hn1, rfl, HD⟩ := hrel
    have hlt : p < (l0.length : Int) := by omega
    obtain ⟨ad, e0, x0, x1, x2⟩ := at_T131 H0.out p hp0 hlt
    cases e0
    by_cases hp : 0 ≤ (rd_T131 l0 p).f1
    · have hs := Aside0.mk (deep_step HR.out hp0 hp1 hp)
      have hlo := HR.out p hp0 hp1
      have HLO := Aside0.mk hlo
      have hlo' : (rd_T131 l0 p).f1 < p := hlo
      clear hlo
      go_wp2_with fail
      go_round
      case rel => exact ⟨(rd_T131 l0 p).f1, n + 1, hp, by omega, rfl, by omega, by omega, rfl, ⟨by have h1 := HD.out; have h2 := hs.out; show n + 1 + deepAt l0 (par l0 p) = _; omega⟩⟩
      case measure => show (par l0 p).toNat < p.toNat; have := HLO.out; have h9 : 0 ≤ par l0 p := hp; omega
    · have hz : deepAt l0 p = 0 := by
        unfold deepAt anc
        exact if_neg hp
      have HZ := Aside0.mk hz
      clear hz
      have hp' : (rd_T131 l0 p).f1 < 0 := by omega
      go_wp2_with fail
      go_ret
      exact ⟨ret_i (by have h1 := HD.out; have h2 := HZ.out; omega), rfl⟩
end Go.Proofs.Ytphmnkcfjgallaa.Q
namespace Go.Proofs.Ytphmnkcfjgallaa.Q
open Go.RowKit Go.Proofs.YtphmnkcfjgallaaW.PrintWords Go.Proofs.YtphmnkcfjgallaaW.PrintLast Go.Proofs.YtphmnkcfjgallaaW.PrintMore
attribute [local go_sem] max2_int min2_int max_two min_two max_three min_three max_four min_four   -- for this text's walks alone
set_option linter.unusedVariables false
set_option linter.unusedSimpArgs false
noncomputable def spec_l1Abs.f (a0 : Int) : Option (Int) := if a0 < 0 then (some (wrap64 (-a0))) else (some a0)
set_option maxHeartbeats 8000000 in
set_option maxRecDepth 100000 in
theorem spec_l1Abs.calls (a0 : Int) (r : Int) (w : World) (h : spec_l1Abs.f a0 = some r) :
    Calls Try.prog 144 #[.int .i64 a0] w fun e w' => e = .returned (.int .i64 r) ∧ Drawn0 w w' := by
  have H : (if a0 < 0 then (some (wrap64 (-a0))) else (some a0)) = some r := h
  clear h
  by_cases c2 : a0 < 0
  · rw [if_pos c2] at H
    have c2b0 : decide (a0 < 0) = true := decide_eq_true c2
    clear c2
    obtain rfl := Option.some.inj H
    go_enter Try.func144, Try.ntmps144
    go_wp2
    go_ret
    exact ⟨by first | rfl | (simp; done) | (simp [*]; done), by repeat (first | exact Drawn0.refl _ | apply Drawn0.step)⟩
  · rw [if_neg c2] at H
    have c2b0 : decide (a0 < 0) = false := decide_eq_false c2
    clear c2
    obtain rfl := Option.some.inj H
    go_enter Try.func144, Try.ntmps144
    go_wp2
    go_ret
    exact ⟨by first | rfl | (simp; done) | (simp [*]; done), by repeat (first | exact Drawn0.refl _ | apply Drawn0.step)⟩
end Go.Proofs.Ytphmnkcfjgallaa.Q
namespace Go.Proofs.Ytphmnkcfjgallaa.Q
open Go.RowKit Go.Proofs.YtphmnkcfjgallaaW.PrintWords Go.Proofs.YtphmnkcfjgallaaW.PrintLast Go.Proofs.YtphmnkcfjgallaaW.PrintMore
attribute [local go_sem] max2_int min2_int max_two min_two max_three min_three max_four min_four   -- for this text's walks alone
set_option linter.unusedVariables false
set_option linter.unusedSimpArgs false
def wf138 (x : S138) : Prop := (Lit.int .i64 x.f0).wf = true ∧ (Lit.int .i64 x.f1).wf = true
set_option maxHeartbeats 4000000 in
set_option maxRecDepth 100000 in
theorem laws_szPeriodS.calls (A0 : Option Addr) (c0 : Nat) (l0 : List (S138)) (a1 : Int) (w : World) (hr0 : Kd.C k138 w A0 l0.length l0) (h0 : 0 ≤ a1) (h1 : a1 ≤ 1048576) (hw : ∀ y ∈ l0, wf138 y) :
    Calls Try.prog 35 #[.slice A0 l0.length c0, .int .i64 a1] w (SzPost w a1 (l0.length ≤ 1048576)) := by
  have hl := hr0.2.1
  have H0 := Aside0.mk hr0
  have HW := Aside0.mk hw
  clear hr0 hw
  by_cases hn : a1 - (l0.length : Int) < 0
  · go_enter Try.func35, Try.ntmps35
    go_wp2_with fail
    go_ret
    exact ⟨-1, rfl, by omega, by omega, fun h => absurd h (by omega), Below.refl _ _⟩
  · go_enter Try.func35, Try.ntmps35
    go_wp2_with fail
    go_ret
    exact ⟨_, rfl, by omega, by omega, fun _ => by omega, Below.refl _ _⟩
end Go.Proofs.Ytphmnkcfjgallaa.Q
namespace Go.Proofs.Ytphmnkcfjgallaa.Q
open Go.RowKit Go.Proofs.YtphmnkcfjgallaaW.PrintWords Go.Proofs.YtphmnkcfjgallaaW.PrintLast Go.Proofs.YtphmnkcfjgallaaW.PrintMore
attribute [local go_sem] max2_int min2_int max_two min_two max_three min_three max_four min_four   -- for this text's walks alone
set_option linter.unusedVariables false
set_option linter.unusedSimpArgs false
def wf176 (x : S176) : Prop := x.f0.size ≤ maxLen ∧ (Lit.int .i64 x.f1).wf = true ∧ (Lit.int .i64 x.f2).wf = true
set_option maxHeartbeats 4000000 in
set_option maxRecDepth 100000 in
theorem laws_szAccount.calls (a0_0 : ByteArray) (a0_1 : Int) (a0_2 : Int) (a1 : Int) (w : World) (h0 : 0 ≤ a1) (h1 : a1 ≤ 1048576) (hw : wf176 ((⟨a0_0, a0_1, a0_2⟩ : S176) : S176)) :
    Calls Try.prog 141 #[.agg #[.string a0_0, .int .i64 a0_1, .int .i64 a0_2], .int .i64 a1] w (SzPost w a1 (True)) := by
  unfold wf176 at hw
  obtain ⟨g0, g1, g2⟩ := hw
  replace g0 : a0_0.size ≤ 9223372036854775807 := g0
  by_cases q0 : a1 - (a0_0.size : Int) < 0
  · go_enter Try.func141, Try.ntmps141
    go_wp2_with fail
    go_ret
    exact ⟨-1, rfl, by omega, by omega, fun h => absurd h (by omega), below_alloc (Below.refl _ _) _⟩
  · skip
    go_enter Try.func141, Try.ntmps141
    go_wp2_with fail
    go_ret
    exact ⟨_, rfl, by omega, by omega, fun _ => trivial, below_alloc (Below.refl _ _) _⟩
end Go.Proofs.Ytphmnkcfjgallaa.Q
namespace Go.Proofs.Ytphmnkcfjgallaa.Q
open Go.RowKit Go.Proofs.YtphmnkcfjgallaaW.PrintWords Go.Proofs.YtphmnkcfjgallaaW.PrintLast Go.Proofs.YtphmnkcfjgallaaW.PrintMore
attribute [local go_sem] max2_int min2_int max_two min_two max_three min_three max_four min_four   -- for this text's walks alone
set_option linter.unusedVariables false
set_option linter.unusedSimpArgs false
noncomputable def laws_heldLineS.l0 : Nat → List (S112) → Int → Int → Option (Int)
  | 0, _, _, _ => none
  | k + 1, x0, x1, x5 => if x5 < (x0.length : Int) then (if 0 ≤ x5 then (if ((rd_T112 x0 x5).f0) = x1 then (if ((rd_T112 x0 x5).f1) = (wrap64 (x1 + 1)) then (if ((rd_T112 x0 x5).f2) = (wrap64 ((wrap64 (x1 + 1)) + 1)) then (if ((rd_T112 x0 x5).f3) = (wrap64 ((wrap64 ((wrap64 (x1 + 1)) + 1)) + 1)) then (if ((rd_T112 x0 x5).f4) = (wrap64 ((wrap64 ((wrap64 ((wrap64 (x1 + 1)) + 1)) + 1)) + 1)) then (laws_heldLineS.l0 k x0 (wrap64 ((wrap64 ((wrap64 ((wrap64 ((wrap64 (x1 + 1)) + 1)) + 1)) + 1)) + 1)) (wrap64 (x5 + 1))) else (some (-1))) else (some (-1))) else (some (-1))) else (some (-1))) else (some (-1))) else (none)) else (some x1)
noncomputable def laws_heldLineS.f (k : Nat) (l0 : List (S112)) (a1 : Int) : Option (Int) := laws_heldLineS.l0 k l0 a1 0
set_option maxHeartbeats 8000000 in
set_option maxRecDepth 100000 in
theorem laws_heldLineS.calls (k : Nat) (A0 : Option Addr) (c0 : Nat) (l0 : List (S112)) (a1 : Int) (r : Int) (w : World) (hr0 : Kd.C k112 w A0 l0.length l0) (hc0 : l0.length ≤ c0) (h : laws_heldLineS.f k l0 a1 = some r) :
    Calls Try.prog 113 #[.slice A0 l0.length c0, .int .i64 a1] w fun e w' => e = .returned (.int .i64 r) ∧ Drawn0 w w' := by
  have HR0 := Aside0.mk hr0
  have HC0 := Aside0.mk hc0
  clear hr0 hc0
  have H : (laws_heldLineS.l0 k l0 a1 0) = some r := h
  clear h
  have H' := Aside0.mk H
  clear H
  go_enter Try.func113, Try.ntmps113
  go_wp2
  go_loopg [1, 5] k (fun kq v1 v5 w' => ∃ (x1_1 : Int) (x5_1 : Int), v1 = .int .i64 x1_1 ∧ v5 = .int .i64 x5_1 ∧ Aside0 (laws_heldLineS.l0 kq l0 x1_1 x5_1 = some r) ∧ Aside0 (kq ≤ k) ∧ Drawn0 w w')
  case atStart => exact ⟨(a1), (0), (by first | rfl | (simp; done) | (simp [*]; done)), (by first | rfl | (simp; done) | (simp [*]; done)), H', ⟨Nat.le_refl _⟩, by repeat (first | exact Drawn0.refl _ | apply Drawn0.step)⟩
  case round =>
    clear H'
    try clear c1
    try clear p2
    obtain ⟨x1_1, x5_1, rfl, rfl, HA, HK1, ⟨m1, rfl⟩⟩ := hrel
    cases gk with
    | zero => exact absurd HA.out (by simp [laws_heldLineS.l0])
    | succ k1 =>
      have H := HA.out
      clear HA
      simp only [laws_heldLineS.l0] at H
      by_cases c3 : x5_1 < (l0.length : Int)
      · rw [if_pos c3] at H
        have c3b0 : decide (x5_1 < (l0.length : Int)) = true := decide_eq_true c3
        clear c3
        by_cases c4 : 0 ≤ x5_1
        · rw [if_pos c4] at H
          have c4b0 : decide (0 ≤ x5_1) = true := decide_eq_true c4
          clear c4
          by_cases c5 : ((rd_T112 l0 x5_1).f0) = x1_1
          · rw [if_pos c5] at H
            have c5b0 : (((rd_T112 l0 x5_1).f0) == x1_1) = true := beq_iff_eq.mpr c5
            have c5b1 : (((rd_T112 l0 x5_1).f0) != x1_1) = false := bne_eq_false_iff_eq.mpr c5
            clear c5
            by_cases c6 : ((rd_T112 l0 x5_1).f1) = (wrap64 (x1_1 + 1))
            · rw [if_pos c6] at H
              have c6b0 : (((rd_T112 l0 x5_1).f1) == (wrap64 (x1_1 + 1))) = true := beq_iff_eq.mpr c6
              have c6b1 : (((rd_T112 l0 x5_1).f1) != (wrap64 (x1_1 + 1))) = false := bne_eq_false_iff_eq.mpr c6
              clear c6
              by_cases c7 : ((rd_T112 l0 x5_1).f2) = (wrap64 ((wrap64 (x1_1 + 1)) + 1))
              · rw [if_pos c7] at H
                have c7b0 : (((rd_T112 l0 x5_1).f2) == (wrap64 ((wrap64 (x1_1 + 1)) + 1))) = true := beq_iff_eq.mpr c7
                have c7b1 : (((rd_T112 l0 x5_1).f2) != (wrap64 ((wrap64 (x1_1 + 1)) + 1))) = false := bne_eq_false_iff_eq.mpr c7
                clear c7
                by_cases c8 : ((rd_T112 l0 x5_1).f3) = (wrap64 ((wrap64 ((wrap64 (x1_1 + 1)) + 1)) + 1))
                · rw [if_pos c8] at H
                  have c8b0 : (((rd_T112 l0 x5_1).f3) == (wrap64 ((wrap64 ((wrap64 (x1_1 + 1)) + 1)) + 1))) = true := beq_iff_eq.mpr c8
                  have c8b1 : (((rd_T112 l0 x5_1).f3) != (wrap64 ((wrap64 ((wrap64 (x1_1 + 1)) + 1)) + 1))) = false := bne_eq_false_iff_eq.mpr c8
                  clear c8
                  by_cases c9 : ((rd_T112 l0 x5_1).f4) = (wrap64 ((wrap64 ((wrap64 ((wrap64 (x1_1 + 1)) + 1)) + 1)) + 1))
                  · rw [if_pos c9] at H
                    have c9b0 : (((rd_T112 l0 x5_1).f4) == (wrap64 ((wrap64 ((wrap64 ((wrap64 (x1_1 + 1)) + 1)) + 1)) + 1))) = true := beq_iff_eq.mpr c9
                    have c9b1 : (((rd_T112 l0 x5_1).f4) != (wrap64 ((wrap64 ((wrap64 ((wrap64 (x1_1 + 1)) + 1)) + 1)) + 1))) = false := bne_eq_false_iff_eq.mpr c9
                    clear c9
                    have H' := Aside0.mk H
                    clear H
                    have p114001 : 0 ≤ (x5_1 : Int) := of_decide_eq_true (by first | (with_reducible assumption) | assumption)
                    have q114001 : x5_1 < (l0.length : Int) := of_decide_eq_true (by first | (with_reducible assumption) | assumption)
                    obtain ⟨ad114001, e114001, hx114001_0, hx114001_1, hx114001_2, hx114001_3, hx114001_4⟩ := at_T112 HR0.out x5_1 p114001 q114001
                    cases e114001
                    replace p114001 := eq_true p114001
                    replace q114001 := eq_true q114001
                    have p114002 : 0 ≤ (x5_1 : Int) := of_decide_eq_true (by first | (with_reducible assumption) | assumption)
                    have q114002 : x5_1 < (l0.length : Int) := of_decide_eq_true (by first | (with_reducible assumption) | assumption)
                    obtain ⟨ad114002, e114002, hx114002_0, hx114002_1, hx114002_2, hx114002_3, hx114002_4⟩ := at_T112 HR0.out x5_1 p114002 q114002
                    obtain rfl : ad114001 = ad114002 := (by injection e114002)
                    replace p114002 := eq_true p114002
                    replace q114002 := eq_true q114002
                    have p114003 : 0 ≤ (x5_1 : Int) := of_decide_eq_true (by first | (with_reducible assumption) | assumption)
                    have q114003 : x5_1 < (l0.length : Int) := of_decide_eq_true (by first | (with_reducible assumption) | assumption)
                    obtain ⟨ad114003, e114003, hx114003_0, hx114003_1, hx114003_2, hx114003_3, hx114003_4⟩ := at_T112 HR0.out x5_1 p114003 q114003
                    obtain rfl : ad114001 = ad114003 := (by injection e114003)
                    replace p114003 := eq_true p114003
                    replace q114003 := eq_true q114003
                    have p114004 : 0 ≤ (x5_1 : Int) := of_decide_eq_true (by first | (with_reducible assumption) | assumption)
                    have q114004 : x5_1 < (l0.length : Int) := of_decide_eq_true (by first | (with_reducible assumption) | assumption)
                    obtain ⟨ad114004, e114004, hx114004_0, hx114004_1, hx114004_2, hx114004_3, hx114004_4⟩ := at_T112 HR0.out x5_1 p114004 q114004
                    obtain rfl : ad114001 = ad114004 := (by injection e114004)
                    replace p114004 := eq_true p114004
                    replace q114004 := eq_true q114004
                    have p114005 : 0 ≤ (x5_1 : Int) := of_decide_eq_true (by first | (with_reducible assumption) | assumption)
                    have q114005 : x5_1 < (l0.length : Int) := of_decide_eq_true (by first | (with_reducible assumption) | assumption)
                    obtain ⟨ad114005, e114005, hx114005_0, hx114005_1, hx114005_2, hx114005_3, hx114005_4⟩ := at_T112 HR0.out x5_1 p114005 q114005
                    obtain rfl : ad114001 = ad114005 := (by injection e114005)
                    replace p114005 := eq_true p114005
                    replace q114005 := eq_true q114005
                    go_wp2
                    go_roundg k1
                    case measure => have := HK1.out; omega
                    case rel => exact ⟨(wrap64 ((wrap64 ((wrap64 ((wrap64 ((wrap64 (x1_1 + 1)) + 1)) + 1)) + 1)) + 1)), (wrap64 (x5_1 + 1)), (by first | rfl | (simp; done) | (simp [*]; done)), (by first | rfl | (simp; done) | (simp [*]; done)), H', ⟨by have := HK1.out; omega⟩, by repeat (first | exact Drawn0.refl _ | apply Drawn0.step)⟩
                  · rw [if_neg c9] at H
                    have c9b0 : (((rd_T112 l0 x5_1).f4) == (wrap64 ((wrap64 ((wrap64 ((wrap64 (x1_1 + 1)) + 1)) + 1)) + 1))) = false := beq_eq_false_iff_ne.mpr c9
                    have c9b1 : (((rd_T112 l0 x5_1).f4) != (wrap64 ((wrap64 ((wrap64 ((wrap64 (x1_1 + 1)) + 1)) + 1)) + 1))) = true := bne_iff_ne.mpr c9
                    obtain rfl := Option.some.inj H
                    have p114001 : 0 ≤ (x5_1 : Int) := of_decide_eq_true (by first | (with_reducible assumption) | assumption)
                    have q114001 : x5_1 < (l0.length : Int) := of_decide_eq_true (by first | (with_reducible assumption) | assumption)
                    obtain ⟨ad114001, e114001, hx114001_0, hx114001_1, hx114001_2, hx114001_3, hx114001_4⟩ := at_T112 HR0.out x5_1 p114001 q114001
                    cases e114001
                    replace p114001 := eq_true p114001
                    replace q114001 := eq_true q114001
                    have p114002 : 0 ≤ (x5_1 : Int) := of_decide_eq_true (by first | (with_reducible assumption) | assumption)
                    have q114002 : x5_1 < (l0.length : Int) := of_decide_eq_true (by first | (with_reducible assumption) | assumption)
                    obtain ⟨ad114002, e114002, hx114002_0, hx114002_1, hx114002_2, hx114002_3, hx114002_4⟩ := at_T112 HR0.out x5_1 p114002 q114002
                    obtain rfl : ad114001 = ad114002 := (by injection e114002)
                    replace p114002 := eq_true p114002
                    replace q114002 := eq_true q114002
                    have p114003 : 0 ≤ (x5_1 : Int) := of_decide_eq_true (by first | (with_reducible assumption) | assumption)
                    have q114003 : x5_1 < (l0.length : Int) := of_decide_eq_true (by first | (with_reducible assumption) | assumption)
                    obtain ⟨ad114003, e114003, hx114003_0, hx114003_1, hx114003_2, hx114003_3, hx114003_4⟩ := at_T112 HR0.out x5_1 p114003 q114003
                    obtain rfl : ad114001 = ad114003 := (by injection e114003)
                    replace p114003 := eq_true p114003
                    replace q114003 := eq_true q114003
                    have p114004 : 0 ≤ (x5_1 : Int) := of_decide_eq_true (by first | (with_reducible assumption) | assumption)
                    have q114004 : x5_1 < (l0.length : Int) := of_decide_eq_true (by first | (with_reducible assumption) | assumption)
                    obtain ⟨ad114004, e114004, hx114004_0, hx114004_1, hx114004_2, hx114004_3, hx114004_4⟩ := at_T112 HR0.out x5_1 p114004 q114004
                    obtain rfl : ad114001 = ad114004 := (by injection e114004)
                    replace p114004 := eq_true p114004
                    replace q114004 := eq_true q114004
                    have p114005 : 0 ≤ (x5_1 : Int) := of_decide_eq_true (by first | (with_reducible assumption) | assumption)
                    have q114005 : x5_1 < (l0.length : Int) := of_decide_eq_true (by first | (with_reducible assumption) | assumption)
                    obtain ⟨ad114005, e114005, hx114005_0, hx114005_1, hx114005_2, hx114005_3, hx114005_4⟩ := at_T112 HR0.out x5_1 p114005 q114005
                    obtain rfl : ad114001 = ad114005 := (by injection e114005)
                    replace p114005 := eq_true p114005
                    replace q114005 := eq_true q114005
                    go_wp2
                    go_ret
                    exact ⟨by first | rfl | (simp; done) | (simp [*]; done), by repeat (first | exact Drawn0.refl _ | apply Drawn0.step)⟩
                · rw [if_neg c8] at H
                  have c8b0 : (((rd_T112 l0 x5_1).f3) == (wrap64 ((wrap64 ((wrap64 (x1_1 + 1)) + 1)) + 1))) = false := beq_eq_false_iff_ne.mpr c8
                  have c8b1 : (((rd_T112 l0 x5_1).f3) != (wrap64 ((wrap64 ((wrap64 (x1_1 + 1)) + 1)) + 1))) = true := bne_iff_ne.mpr c8
                  obtain rfl := Option.some.inj H
                  have p114001 : 0 ≤ (x5_1 : Int) := of_decide_eq_true (by first | (with_reducible assumption) | assumption)
                  have q114001 : x5_1 < (l0.length : Int) := of_decide_eq_true (by first | (with_reducible assumption) | assumption)
                  obtain ⟨ad114001, e114001, hx114001_0, hx114001_1, hx114001_2, hx114001_3, hx114001_4⟩ := at_T112 HR0.out x5_1 p114001 q114001
                  cases e114001
                  replace p114001 := eq_true p114001
                  replace q114001 := eq_true q114001
                  have p114002 : 0 ≤ (x5_1 : Int) := of_decide_eq_true (by first | (with_reducible assumption) | assumption)
                  have q114002 : x5_1 < (l0.length : Int) := of_decide_eq_true (by first | (with_reducible assumption) | assumption)
                  obtain ⟨ad114002, e114002, hx114002_0, hx114002_1, hx114002_2, hx114002_3, hx114002_4⟩ := at_T112 HR0.out x5_1 p114002 q114002
                  obtain rfl : ad114001 = ad114002 := (by injection e114002)
                  replace p114002 := eq_true p114002
                  replace q114002 := eq_true q114002
                  have p114003 : 0 ≤ (x5_1 : Int) := of_decide_eq_true (by first | (with_reducible assumption) | assumption)
                  have q114003 : x5_1 < (l0.length : Int) := of_decide_eq_true (by first | (with_reducible assumption) | assumption)
                  obtain ⟨ad114003, e114003, hx114003_0, hx114003_1, hx114003_2, hx114003_3, hx114003_4⟩ := at_T112 HR0.out x5_1 p114003 q114003
                  obtain rfl : ad114001 = ad114003 := (by injection e114003)
                  replace p114003 := eq_true p114003
                  replace q114003 := eq_true q114003
                  have p114004 : 0 ≤ (x5_1 : Int) := of_decide_eq_true (by first | (with_reducible assumption) | assumption)
                  have q114004 : x5_1 < (l0.length : Int) := of_decide_eq_true (by first | (with_reducible assumption) | assumption)
                  obtain ⟨ad114004, e114004, hx114004_0, hx114004_1, hx114004_2, hx114004_3, hx114004_4⟩ := at_T112 HR0.out x5_1 p114004 q114004
                  obtain rfl : ad114001 = ad114004 := (by injection e114004)
                  replace p114004 := eq_true p114004
                  replace q114004 := eq_true q114004
                  go_wp2
                  go_ret
                  exact ⟨by first | rfl | (simp; done) | (simp [*]; done), by repeat (first | exact Drawn0.refl _ | apply Drawn0.step)⟩
              · rw [if_neg c7] at H
                have c7b0 : (((rd_T112 l0 x5_1).f2) == (wrap64 ((wrap64 (x1_1 + 1)) + 1))) = false := beq_eq_false_iff_ne.mpr c7
                have c7b1 : (((rd_T112 l0 x5_1).f2) != (wrap64 ((wrap64 (x1_1 + 1)) + 1))) = true := bne_iff_ne.mpr c7
                obtain rfl := Option.some.inj H
                have p114001 : 0 ≤ (x5_1 : Int) := of_decide_eq_true (by first | (with_reducible assumption) | assumption)
                have q114001 : x5_1 < (l0.length : Int) := of_decide_eq_true (by first | (with_reducible assumption) | assumption)
                obtain ⟨ad114001, e114001, hx114001_0, hx114001_1, hx114001_2, hx114001_3, hx114001_4⟩ := at_T112 HR0.out x5_1 p114001 q114001
                cases e114001
                replace p114001 := eq_true p114001
                replace q114001 := eq_true q114001
                have p114002 : 0 ≤ (x5_1 : Int) := of_decide_eq_true (by first | (with_reducible assumption) | assumption)
                have q114002 : x5_1 < (l0.length : Int) := of_decide_eq_true (by first | (with_reducible assumption) | assumption)
                obtain ⟨ad114002, e114002, hx114002_0, hx114002_1, hx114002_2, hx114002_3, hx114002_4⟩ := at_T112 HR0.out x5_1 p114002 q114002
                obtain rfl : ad114001 = ad114002 := (by injection e114002)
                replace p114002 := eq_true p114002
                replace q114002 := eq_true q114002
                have p114003 : 0 ≤ (x5_1 : Int) := of_decide_eq_true (by first | (with_reducible assumption) | assumption)
                have q114003 : x5_1 < (l0.length : Int) := of_decide_eq_true (by first | (with_reducible assumption) | assumption)
                obtain ⟨ad114003, e114003, hx114003_0, hx114003_1, hx114003_2, hx114003_3, hx114003_4⟩ := at_T112 HR0.out x5_1 p114003 q114003
                obtain rfl : ad114001 = ad114003 := (by injection e114003)
                replace p114003 := eq_true p114003
                replace q114003 := eq_true q114003
                go_wp2
                go_ret
                exact ⟨by first | rfl | (simp; done) | (simp [*]; done), by repeat (first | exact Drawn0.refl _ | apply Drawn0.step)⟩
            · rw [if_neg c6] at H
              have c6b0 : (((rd_T112 l0 x5_1).f1) == (wrap64 (x1_1 + 1))) = false := beq_eq_false_iff_ne.mpr c6
              have c6b1 : (((rd_T112 l0 x5_1).f1) != (wrap64 (x1_1 + 1))) = true := bne_iff_ne.mpr c6
              obtain rfl := Option.some.inj H
              have p114001 : 0 ≤ (x5_1 : Int) := of_decide_eq_true (by first | (with_reducible assumption) | assumption)
              have q114001 : x5_1 < (l0.length : Int) := of_decide_eq_true (by first | (with_reducible assumption) | assumption)
              obtain ⟨ad114001, e114001, hx114001_0, hx114001_1, hx114001_2, hx114001_3, hx114001_4⟩ := at_T112 HR0.out x5_1 p114001 q114001
              cases e114001
              replace p114001 := eq_true p114001
              replace q114001 := eq_true q114001
              have p114002 : 0 ≤ (x5_1 : Int) := of_decide_eq_true (by first | (with_reducible assumption) | assumption)
              have q114002 : x5_1 < (l0.length : Int) := of_decide_eq_true (by first | (with_reducible assumption) | assumption)
              obtain ⟨ad114002, e114002, hx114002_0, hx114002_1, hx114002_2, hx114002_3, hx114002_4⟩ := at_T112 HR0.out x5_1 p114002 q114002
              obtain rfl : ad114001 = ad114002 := (by injection e114002)
              replace p114002 := eq_true p114002
              replace q114002 := eq_true q114002
              go_wp2
              go_ret
              exact ⟨by first | rfl | (simp; done) | (simp [*]; done), by repeat (first | exact Drawn0.refl _ | apply Drawn0.step)⟩
          · rw [if_neg c5] at H
            have c5b0 : (((rd_T112 l0 x5_1).f0) == x1_1) = false := beq_eq_false_iff_ne.mpr c5
            have c5b1 : (((rd_T112 l0 x5_1).f0) != x1_1) = true := bne_iff_ne.mpr c5
            obtain rfl := Option.some.inj H
            have p114001 : 0 ≤ (x5_1 : Int) := of_decide_eq_true (by first | (with_reducible assumption) | assumption)
            have q114001 : x5_1 < (l0.length : Int) := of_decide_eq_true (by first | (with_reducible assumption) | assumption)
            obtain ⟨ad114001, e114001, hx114001_0, hx114001_1, hx114001_2, hx114001_3, hx114001_4⟩ := at_T112 HR0.out x5_1 p114001 q114001
            cases e114001
            replace p114001 := eq_true p114001
            replace q114001 := eq_true q114001
            go_wp2
            go_ret
            exact ⟨by first | rfl | (simp; done) | (simp [*]; done), by repeat (first | exact Drawn0.refl _ | apply Drawn0.step)⟩
        · rw [if_neg c4] at H
          exact absurd H (by simp)
      · rw [if_neg c3] at H
        have c3b0 : decide (x5_1 < (l0.length : Int)) = false := decide_eq_false c3
        clear c3
        obtain rfl := Option.some.inj H
        go_wp2
        go_ret
        exact ⟨by first | rfl | (simp; done) | (simp [*]; done), by repeat (first | exact Drawn0.refl _ | apply Drawn0.step)⟩
end Go.Proofs.Ytphmnkcfjgallaa.Q
namespace Go.Proofs.Ytphmnkcfjgallaa.Q
open Go.RowKit Go.Proofs.YtphmnkcfjgallaaW.PrintWords Go.Proofs.YtphmnkcfjgallaaW.PrintLast Go.Proofs.YtphmnkcfjgallaaW.PrintMore
attribute [local go_sem] max2_int min2_int max_two min_two max_three min_three max_four min_four   -- for this text's walks alone
set_option linter.unusedVariables false
set_option linter.unusedSimpArgs false
end Go.Proofs.Ytphmnkcfjgallaa.Q
namespace Go.Proofs.Ytphmnkcfjgallaa.Q
open Go.RowKit Go.Proofs.YtphmnkcfjgallaaW.PrintWords Go.Proofs.YtphmnkcfjgallaaW.PrintLast Go.Proofs.YtphmnkcfjgallaaW.PrintMore
attribute [local go_sem] max2_int min2_int max_two min_two max_three min_three max_four min_four   -- for this text's walks alone
set_option linter.unusedVariables false
set_option linter.unusedSimpArgs false
end Go.Proofs.Ytphmnkcfjgallaa.Q
