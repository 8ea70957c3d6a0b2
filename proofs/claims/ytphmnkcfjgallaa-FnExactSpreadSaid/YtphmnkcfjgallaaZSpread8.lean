/- Parts of the proof: what functions of the program and of the reference answer.
   No condition. -/
import Derived.Test.YtphmnkcfjgallaaZSpread1
import Derived.Test.YtphmnkcfjgallaaZSpread6
import Derived.Test.YtphmnkcfjgallaaZSpread3
namespace Go.Proofs.Ytphmnkcfjgallaa.Q
open Go.RowKit Go.Proofs.YtphmnkcfjgallaaW.PrintWords Go.Proofs.YtphmnkcfjgallaaW.PrintLast Go.Proofs.YtphmnkcfjgallaaW.PrintMore
attribute [local go_sem] max2_int min2_int max_two min_two max_three min_three max_four min_four   -- for this text's walks alone
set_option linter.unusedVariables false
set_option linter.unusedSimpArgs false
noncomputable def laws_toFrame.f (k : Nat) (l0_0 : List (S176)) (a0_1 : Int) (a0_2 : Int) : Option ((List (S131)) × Int × Int) := (laws_toAccountS.f k l0_0).bind fun t38004 => (some (t38004, a0_1, a0_2))
set_option maxHeartbeats 8000000 in
set_option maxRecDepth 100000 in
theorem laws_toFrame.calls (k : Nat) (A0_0 : Option Addr) (c0_0 : Nat) (l0_0 : List (S176)) (a0_1 : Int) (a0_2 : Int) (r1 : List (S131)) (r2 : Int) (r3 : Int) (w : World) (hr0_0 : Kd.C k176 w A0_0 l0_0.length l0_0) (hc0_0 : l0_0.length ≤ c0_0) (h : laws_toFrame.f k l0_0 a0_1 a0_2 = some (r1, r2, r3)) :
    Calls Try.prog 37 #[.agg #[.slice A0_0 l0_0.length c0_0, .int .i64 a0_1, .int .i64 a0_2]] w fun e w' => ∃ v0_ : Value, e = .returned (.agg #[v0_, .int .i64 r2, .int .i64 r3]) ∧ Kd.R k131 131 w' w.heap.size (fun _ => True) v0_ r1 ∧ Below w.heap.size w w' := by
  have hu59 := Try.underlying59
  have hu26 := Try.underlying26
  have HR0_0 := Aside0.mk hr0_0
  have HC0_0 := Aside0.mk hc0_0
  clear hr0_0 hc0_0
  have HB := Aside0.mk (Below.refl w.heap.size w)
  have H : ((laws_toAccountS.f k l0_0).bind fun t38004 => (some (t38004, a0_1, a0_2))) = some (r1, r2, r3) := h
  clear h
  replace H := Option.bind_eq_some_iff.mp H
  obtain ⟨t38004, A20, H⟩ := H
  replace H : (some (t38004, a0_1, a0_2)) = some (r1, r2, r3) := H
  have A2 := Aside0.mk A20
  clear A20
  simp only [Option.some.injEq, Prod.mk.injEq] at H
  obtain ⟨rfl, rfl, rfl⟩ := H
  go_enter Try.func37, Try.ntmps37
  go_wp2_with (first | ((with_reducible refine gate_dst (N := 1) rfl ?_); refine box_event ?hg (N := 1) ?hd (cs := #[.slice A0_0 l0_0.length c0_0, .int .i64 a0_1, .int .i64 a0_2]) (t := 59) ?hr ?_; (case hd => rfl); (case hg => rfl); (case hr => first | (go_simp; done) | (go_simp; rfl)); intro gb38001 hg w3 hbox hb; have n0_ := Aside0.mk (below_step (by repeat (first | (with_reducible first | exact HB.out | apply below_alloc | apply pw_below_drewN | apply below_drew1) | exact HB.out)) hb); have n1_ := Aside0.mk (hbox); have n2_ := Aside0.mk ((by rw [hg]; exact (below_size (by repeat (first | (with_reducible first | exact HB.out | apply below_alloc | apply pw_below_drewN | apply below_drew1) | exact HB.out))) : w.heap.size ≤ gb38001)); have n3_ := Aside0.mk ((by rw [hg]; exact (below_size (by repeat (first | (with_reducible first | exact HB.out | apply below_alloc | apply pw_below_drewN | apply below_drew1) | exact HB.out))) : w.heap.size ≤ gb38001)); clear HB; have HB := n0_; have BK38001 := n1_; have GW38001 := n2_; have GE38001 := n3_; clear n0_ n1_ n2_ n3_; clear hb hbox hg) | ((with_reducible refine gate_dst (N := 2) rfl ?_); refine box_event ?hg (N := 2) ?hd (cs := #[.slice none 0 0, .int .i64 0, .int .i64 0]) (t := 26) ?hr ?_; (case hd => rfl); (case hg => rfl); (case hr => first | (go_simp; done) | (go_simp; rfl)); intro gb38002 hg w4 hbox hb; have n0_ := Aside0.mk (blk_below (g := gb38001) (o := .cells #[.slice A0_0 l0_0.length c0_0, .int .i64 a0_1, .int .i64 a0_2] 59 (0, 0)) (by (with_reducible repeat (first | refine blk_drewN ?_ _ | refine blk_drew ?_ | refine blk_alloc ?_ _)); exact BK38001.out) hb); have n1_ := Aside0.mk (below_step (by repeat (first | (with_reducible first | exact HB.out | apply below_alloc | apply pw_below_drewN | apply below_drew1 | refine below_set ?_ GE38001.out) | exact HB.out)) hb); have n2_ := Aside0.mk (hbox); have n3_ := Aside0.mk ((by rw [hg]; exact (below_size (by repeat (first | (with_reducible first | exact HB.out | apply below_alloc | apply pw_below_drewN | apply below_drew1 | refine below_set ?_ GE38001.out) | exact HB.out))) : w.heap.size ≤ gb38002)); have n4_ := Aside0.mk ((by rw [hg]; exact (below_size (by repeat (first | (with_reducible first | exact HB.out | apply below_alloc | apply pw_below_drewN | apply below_drew1 | refine below_set ?_ GE38001.out) | exact HB.out))) : w.heap.size ≤ gb38002)); have n5_ := Aside0.mk ((by rw [hg]; exact Nat.ne_of_lt (blk_lt (g := gb38001) (o := .cells #[.slice A0_0 l0_0.length c0_0, .int .i64 a0_1, .int .i64 a0_2] 59 (0, 0)) (by (with_reducible repeat (first | refine blk_drewN ?_ _ | refine blk_drew ?_ | refine blk_alloc ?_ _)); exact BK38001.out)) : gb38001 ≠ gb38002)); have n6_ := Aside0.mk ((by rw [hg]; exact Nat.ne_of_gt (blk_lt (g := gb38001) (o := .cells #[.slice A0_0 l0_0.length c0_0, .int .i64 a0_1, .int .i64 a0_2] 59 (0, 0)) (by (with_reducible repeat (first | refine blk_drewN ?_ _ | refine blk_drew ?_ | refine blk_alloc ?_ _)); exact BK38001.out)) : gb38002 ≠ gb38001)); clear BK38001; clear HB; have BK38001 := n0_; have HB := n1_; have BK38002 := n2_; have GW38002 := n3_; have GE38002 := n4_; have NB38001_38002 := n5_; have NB38002_38001 := n6_; clear n0_ n1_ n2_ n3_ n4_ n5_ n6_; clear hb hbox hg) | ((with_reducible refine gate_dst (N := 3) rfl ?_); refine box_event ?hg (N := 3) ?hd (cs := #[.slice none 0 0, .int .i64 0, .int .i64 0]) (t := 26) ?hr ?_; (case hd => rfl); (case hg => rfl); (case hr => first | (go_simp; done) | (go_simp; rfl)); intro gb38003 hg w5 hbox hb; have n0_ := Aside0.mk (blk_below (g := gb38001) (o := .cells #[.slice A0_0 l0_0.length c0_0, .int .i64 a0_1, .int .i64 a0_2] 59 (0, 0)) (by (with_reducible repeat (first | refine blk_drewN ?_ _ | refine blk_drew ?_ | refine blk_alloc ?_ _)); exact BK38001.out) hb); have n1_ := Aside0.mk (blk_below (g := gb38002) (o := .cells #[.slice none 0 0, .int .i64 0, .int .i64 0] 26 (0, 0)) (by (with_reducible repeat (first | refine blk_drewN ?_ _ | refine blk_drew ?_ | refine blk_alloc ?_ _)); exact BK38002.out) hb); have n2_ := Aside0.mk (below_step (by repeat (first | (with_reducible first | exact HB.out | apply below_alloc | apply pw_below_drewN | apply below_drew1 | refine below_set ?_ GE38001.out | refine below_set ?_ GE38002.out) | exact HB.out)) hb); have n3_ := Aside0.mk (hbox); have n4_ := Aside0.mk ((by rw [hg]; exact (below_size (by repeat (first | (with_reducible first | exact HB.out | apply below_alloc | apply pw_below_drewN | apply below_drew1 | refine below_set ?_ GE38001.out | refine below_set ?_ GE38002.out) | exact HB.out))) : w.heap.size ≤ gb38003)); have n5_ := Aside0.mk ((by rw [hg]; exact (below_size (by repeat (first | (with_reducible first | exact HB.out | apply below_alloc | apply pw_below_drewN | apply below_drew1 | refine below_set ?_ GE38001.out | refine below_set ?_ GE38002.out) | exact HB.out))) : w.heap.size ≤ gb38003)); have n6_ := Aside0.mk ((by rw [hg]; exact Nat.ne_of_lt (blk_lt (g := gb38001) (o := .cells #[.slice A0_0 l0_0.length c0_0, .int .i64 a0_1, .int .i64 a0_2] 59 (0, 0)) (by (with_reducible repeat (first | refine blk_drewN ?_ _ | refine blk_drew ?_ | refine blk_alloc ?_ _)); exact BK38001.out)) : gb38001 ≠ gb38003)); have n7_ := Aside0.mk ((by rw [hg]; exact Nat.ne_of_gt (blk_lt (g := gb38001) (o := .cells #[.slice A0_0 l0_0.length c0_0, .int .i64 a0_1, .int .i64 a0_2] 59 (0, 0)) (by (with_reducible repeat (first | refine blk_drewN ?_ _ | refine blk_drew ?_ | refine blk_alloc ?_ _)); exact BK38001.out)) : gb38003 ≠ gb38001)); have n8_ := Aside0.mk ((by rw [hg]; exact Nat.ne_of_lt (blk_lt (g := gb38002) (o := .cells #[.slice none 0 0, .int .i64 0, .int .i64 0] 26 (0, 0)) (by (with_reducible repeat (first | refine blk_drewN ?_ _ | refine blk_drew ?_ | refine blk_alloc ?_ _)); exact BK38002.out)) : gb38002 ≠ gb38003)); have n9_ := Aside0.mk ((by rw [hg]; exact Nat.ne_of_gt (blk_lt (g := gb38002) (o := .cells #[.slice none 0 0, .int .i64 0, .int .i64 0] 26 (0, 0)) (by (with_reducible repeat (first | refine blk_drewN ?_ _ | refine blk_drew ?_ | refine blk_alloc ?_ _)); exact BK38002.out)) : gb38003 ≠ gb38002)); clear BK38001; clear BK38002; clear HB; have BK38001 := n0_; have BK38002 := n1_; have HB := n2_; have BK38003 := n3_; have GW38003 := n4_; have GE38003 := n5_; have NB38001_38003 := n6_; have NB38003_38001 := n7_; have NB38002_38003 := n8_; have NB38003_38002 := n9_; clear n0_ n1_ n2_ n3_ n4_ n5_ n6_ n7_ n8_ n9_; clear hb hbox hg; have hnb6 := NB38001_38002.out; have hnc6 := NB38002_38001.out; have hnb7 := NB38001_38003.out; have hnc7 := NB38003_38001.out; have hcz8_0 : w5.cell? ⟨gb38001, 0, none⟩ = some (.slice A0_0 l0_0.length c0_0) := (blk_cell BK38001.out 0).trans rfl; have hcz8_1 : w5.cell? ⟨gb38001, 1, none⟩ = some (.int .i64 a0_1) := (blk_cell BK38001.out 1).trans rfl; have hcz8_2 : w5.cell? ⟨gb38001, 2, none⟩ = some (.int .i64 a0_2) := (blk_cell BK38001.out 2).trans rfl; have hfz8_0 := blk_frozen BK38001.out 0; have hfz8_1 := blk_frozen BK38001.out 1; have hfz8_2 := blk_frozen BK38001.out 2) | ((with_reducible refine gate_callee (f := 104) rfl ?_); refine goesL_ (some 6) rfl rfl Try.func104 (by kernel_rfl) rfl #[.slice A0_0 l0_0.length c0_0] rfl (by (try simp only [List.map_toArray, List.map_cons, List.map_nil]); first | done | rfl | (simp only [List.length_drop, List.length_take]; rfl)) ?_; (with_reducible refine (laws_toAccountS.calls k _ _ l0_0 t38004 _ ?side1 ?side2 A2.out).mono ?_); (case side1 => repeat (first | exact (Kd.C_below HR0_0.out HB.out) | (with_reducible refine Kd.C_alloc ?_ _) | (with_reducible refine Kd.C_drewN ?_ _) | (with_reducible refine Kd.C_drew ?_))); (case side2 => exact HC0_0.out); rintro e w9 ⟨v38005, rfl, ho0, hb⟩; refine ⟨_, rfl, ?_⟩; have n0_ := Aside0.mk (Kd.R_lower ho0 (below_size (by repeat (first | (with_reducible first | exact HB.out | apply below_alloc | apply pw_below_drewN | apply below_drew1 | refine below_set ?_ GE38001.out | refine below_set ?_ GE38002.out | refine below_set ?_ GE38003.out) | exact HB.out)))); have n1_ := Aside0.mk (blk_below (g := gb38001) (o := .cells #[.slice A0_0 l0_0.length c0_0, .int .i64 a0_1, .int .i64 a0_2] 59 (0, 0)) (by (with_reducible repeat (first | refine blk_drewN ?_ _ | refine blk_drew ?_ | refine blk_alloc ?_ _)); exact BK38001.out) hb); have n2_ := Aside0.mk (blk_below (g := gb38002) (o := .cells #[.slice none 0 0, .int .i64 0, .int .i64 0] 26 (0, 0)) (by (with_reducible repeat (first | refine blk_drewN ?_ _ | refine blk_drew ?_ | refine blk_alloc ?_ _)); exact BK38002.out) hb); have n3_ := Aside0.mk (blk_below (g := gb38003) (o := .cells #[.slice none 0 0, .int .i64 0, .int .i64 0] 26 (0, 0)) (by (with_reducible repeat (first | refine blk_drewN ?_ _ | refine blk_drew ?_ | refine blk_alloc ?_ _)); exact BK38003.out) hb); have n4_ := Aside0.mk (below_step (by repeat (first | (with_reducible first | exact HB.out | apply below_alloc | apply pw_below_drewN | apply below_drew1 | refine below_set ?_ GE38001.out | refine below_set ?_ GE38002.out | refine below_set ?_ GE38003.out) | exact HB.out)) hb); clear BK38001; clear BK38002; clear BK38003; clear HB; have HO38006 := n0_; have BK38001 := n1_; have BK38002 := n2_; have BK38003 := n3_; have HB := n4_; clear n0_ n1_ n2_ n3_ n4_; (try clear hb); (try clear hb2); (try clear hk); (try clear hi); (try clear ho0); obtain ⟨Ao10, co10, eo10⟩ := Kd.R_slice HO38006.out; subst eo10; have hnb11 := NB38003_38002.out; have hnc11 := NB38002_38003.out; have hcz12_0 : w9.cell? ⟨gb38003, 0, none⟩ = some (.slice none 0 0) := (blk_cell BK38003.out 0).trans rfl; have hcz12_1 : w9.cell? ⟨gb38003, 1, none⟩ = some (.int .i64 0) := (blk_cell BK38003.out 1).trans rfl; have hcz12_2 : w9.cell? ⟨gb38003, 2, none⟩ = some (.int .i64 0) := (blk_cell BK38003.out 2).trans rfl; have hfz12_0 := blk_frozen BK38003.out 0; have hfz12_1 := blk_frozen BK38003.out 1; have hfz12_2 := blk_frozen BK38003.out 2; have hcz13_0 : w9.cell? ⟨gb38001, 0, none⟩ = some (.slice A0_0 l0_0.length c0_0) := (blk_cell BK38001.out 0).trans rfl; have hcz13_1 : w9.cell? ⟨gb38001, 1, none⟩ = some (.int .i64 a0_1) := (blk_cell BK38001.out 1).trans rfl; have hcz13_2 : w9.cell? ⟨gb38001, 2, none⟩ = some (.int .i64 a0_2) := (blk_cell BK38001.out 2).trans rfl; have hfz13_0 := blk_frozen BK38001.out 0; have hfz13_1 := blk_frozen BK38001.out 1; have hfz13_2 := blk_frozen BK38001.out 2; have hcz14_0 : w9.cell? ⟨gb38002, 0, none⟩ = some (.slice none 0 0) := (blk_cell BK38002.out 0).trans rfl; have hcz14_1 : w9.cell? ⟨gb38002, 1, none⟩ = some (.int .i64 0) := (blk_cell BK38002.out 1).trans rfl; have hcz14_2 : w9.cell? ⟨gb38002, 2, none⟩ = some (.int .i64 0) := (blk_cell BK38002.out 2).trans rfl; have hfz14_0 := blk_frozen BK38002.out 0; have hfz14_1 := blk_frozen BK38002.out 1; have hfz14_2 := blk_frozen BK38002.out 2))
  refine bodyPost_ret (results_cell_row rfl _ _ gb38002 26 #[.slice Ao10 t38004.length co10, .int .i64 a0_1, .int .i64 a0_2] (0, 0) _ rfl (by (with_reducible repeat (first | refine blk_drewN ?_ _ | refine blk_drew ?_ | refine blk_alloc ?_ _)); refine blk_put (cs := #[.slice Ao10 t38004.length co10, .int .i64 a0_1, .int .i64 0]) ?_ 2 _ rfl; (with_reducible repeat (first | refine blk_drewN ?_ _ | refine blk_drew ?_ | refine blk_alloc ?_ _)); refine blk_put (cs := #[.slice Ao10 t38004.length co10, .int .i64 0, .int .i64 0]) ?_ 1 _ rfl; (with_reducible repeat (first | refine blk_drewN ?_ _ | refine blk_drew ?_ | refine blk_alloc ?_ _)); refine blk_put (cs := #[.slice none 0 0, .int .i64 0, .int .i64 0]) ?_ 0 _ rfl; (with_reducible repeat (first | refine blk_drewN ?_ _ | refine blk_drew ?_ | refine blk_alloc ?_ _)); refine blk_far ?_ NB38002_38003.out _; (with_reducible repeat (first | refine blk_drewN ?_ _ | refine blk_drew ?_ | refine blk_alloc ?_ _)); refine blk_far ?_ NB38002_38003.out _; (with_reducible repeat (first | refine blk_drewN ?_ _ | refine blk_drew ?_ | refine blk_alloc ?_ _)); refine blk_far ?_ NB38002_38003.out _; (with_reducible repeat (first | refine blk_drewN ?_ _ | refine blk_drew ?_ | refine blk_alloc ?_ _)); exact BK38002.out) Try.underlying26 rfl (by kernel_rfl)) rfl ?_
  exact ⟨_, by first | rfl | (simp [errW_none, errW_some] <;> rfl) | (simp [*, errW_none, errW_some] <;> rfl), by (with_reducible repeat (first | apply Kd.R_alloc | apply Kd.R_drewN | apply Kd.R_drew)); exact Kd.R_mono (Kd.R_far (p := ⟨gb38002, 2, none⟩) (Kd.R_far (p := ⟨gb38002, 1, none⟩) (Kd.R_far (p := ⟨gb38002, 0, none⟩) (Kd.R_far (p := ⟨gb38003, 2, none⟩) (Kd.R_far (p := ⟨gb38003, 1, none⟩) (Kd.R_far (p := ⟨gb38003, 0, none⟩) (Kd.R_types (Kd.R_types HO38006.out BK38003.out (by decide)) BK38002.out (by decide)) (fun _ hk => hk.1.2) (.slice Ao10 t38004.length co10)) (fun _ hk => hk.1.2) (.int .i64 a0_1)) (fun _ hk => hk.1.2) (.int .i64 a0_2)) (fun _ hk => hk.2) (.slice Ao10 t38004.length co10)) (fun _ hk => hk.2) (.int .i64 a0_1)) (fun _ hk => hk.2) (.int .i64 a0_2)) (fun _ hk => trivial), by repeat (first | (with_reducible first | exact HB.out | apply below_alloc | apply pw_below_drewN | apply below_drew1 | refine below_set ?_ GE38001.out | refine below_set ?_ GE38002.out | refine below_set ?_ GE38003.out) | exact HB.out)⟩
end Go.Proofs.Ytphmnkcfjgallaa.Q
namespace Go.Proofs.Ytphmnkcfjgallaa.Q
open Go.RowKit Go.Proofs.YtphmnkcfjgallaaW.PrintWords Go.Proofs.YtphmnkcfjgallaaW.PrintLast Go.Proofs.YtphmnkcfjgallaaW.PrintMore
attribute [local go_sem] max2_int min2_int max_two min_two max_three min_three max_four min_four   -- for this text's walks alone
set_option linter.unusedVariables false
set_option linter.unusedSimpArgs false
theorem rowOk_par {chart : List Acc} {i : Int} (h : rowsOk chart i) (h0 : 0 ≤ i) (hr : rowOk chart i) : -1 ≤ par chart i ∧ par chart i ≤ i - 1 := by
  rcases hr.2.2.2 with q | ⟨q, _⟩
  · omega
  · have := up_is h h0 q
    omega
theorem no_dup {chart : List Acc} {k i : Int} (h : code chart k = code chart i) (h0 : 0 ≤ k) (h1 : k < i) : ¬ rowOk chart i := fun q => q.1 k h0 h1 h
set_option maxHeartbeats 8000000 in
set_option maxRecDepth 100000 in
theorem spec_ChartOk.to (A0 : Option Addr) (c0 : Nat) (l0 : List Acc) (w : World) (hr0 : Kd.C k131 w A0 l0.length l0) (hs : ∀ x ∈ l0, x.f0.size ≤ maxLen) :
    Calls Try.prog 140 #[.slice A0 l0.length c0] w fun e w' => e = .returned (.bool (chartOk l0)) ∧ Below w.heap.size w w' := by
  have hl := hr0.2.1
  have H0 := Aside0.mk hr0
  have HS := Aside0.mk hs
  clear hr0 hs
  by_cases hn : 1 ≤ l0.length ∧ l0.length ≤ 120
  · obtain ⟨h1, h2⟩ := hn
    have hin : inB (l0.length : Int) 1 120 = true := inB_of (by omega)
    go_enter Try.func140, Try.ntmps140
    go_wp2_with fail
    refine (spec_l1In.to _ _ _ _).mono ?_
    rintro e w' ⟨rfl, rfl⟩
    go_wp2_with fail
    go_loopw [3] (fun v wr => ∃ i : Int, 0 ≤ i ∧ i ≤ (l0.length : Int) ∧ v = .int .i64 i ∧ Aside0 (Below w'.heap.size w' wr) ∧ Aside0 (rowsOk l0 i)) (fun v _ => (l0.length - (intOf v).toNat))
    case atStart => exact ⟨0, by omega, by omega, rfl, ⟨Below.refl _ _⟩, ⟨fun j h0 h1 => by omega⟩⟩
    case round =>
      obtain ⟨i, hi0, hi1, rfl, HB, HR⟩ := hrel
      by_cases hlt : i < (l0.length : Int)
      · obtain ⟨ad, e0, x0, x1, x2⟩ := at_T131 (Kd.C_below H0.out HB.out) i hi0 hlt
        cases e0
        have hsz : (code l0 i).size ≤ 9223372036854775807 := all_at (z := z131) (p := fun x => x.f0.size ≤ maxLen) hi0 hlt HS.out
        go_wp2_with fail
        refine (spec_NameOk.to (code l0 i) _ hsz).mono ?_
        rintro e w1 ⟨rfl, rfl⟩
        cases hnm : nameOk (code l0 i) with
        | false =>
          go_wp2_with fail
          go_ret
          exact ⟨ret_bool (chartOk_row hi0 hlt (fun q => by have := q.2.1; rw [hnm] at this; cases this)).symm, below_alloc HB.out _⟩
        | true =>
          have HNM := Aside0.mk hnm
          clear hnm
          go_wp2_with fail
          refine (spec_l1In.to (knd l0 i) _ _ _).mono ?_
          rintro e w1 ⟨rfl, rfl⟩
          cases hkd : inB (knd l0 i) 1 5 with
          | false =>
            go_wp2_with fail
            go_ret
            exact ⟨ret_bool (chartOk_row hi0 hlt (fun q => inB_false.1 hkd q.2.2.1)).symm, below_alloc HB.out _⟩
          | true =>
            have HKD := Aside0.mk hkd
            clear hkd
            go_wp2_with fail
            refine (spec_l1In.to (par l0 i) _ _ _).mono ?_
            rintro e w1 ⟨rfl, rfl⟩
            cases hpr : inB (par l0 i) (-1) (i - 1) with
            | false =>
              go_wp2_with fail
              go_ret
              exact ⟨ret_bool (chartOk_row hi0 hlt (fun q => inB_false.1 hpr (rowOk_par HR.out hi0 q))).symm, below_alloc HB.out _⟩
            | true =>
              have HPR := Aside0.mk (inB_true.1 hpr)
              clear hpr
              go_wp2_with fail
              go_loopw [5] (fun v wd => ∃ k : Int, 0 ≤ k ∧ k ≤ i ∧ v = .int .i64 k ∧ Aside0 (Below w'.heap.size w' wd) ∧ Aside0 (wd.heap[wr.heap.size]? = some (.cells #[.string (rd_T131 l0 i).f0, .int .i64 (rd_T131 l0 i).f1, .int .i64 (rd_T131 l0 i).f2] 131 (0, 0))) ∧ Aside0 (∀ j : Int, 0 ≤ j → j < k → code l0 j ≠ code l0 i)) (fun v _ => (i - intOf v).toNat)
              case atStart => exact ⟨0, by omega, by omega, rfl, ⟨below_alloc HB.out _⟩, ⟨blk_new _ _⟩, ⟨fun j h0 h1 => by omega⟩⟩
              case round =>
                obtain ⟨k, hk0, hk1, rfl, HBd, HV, HT⟩ := hrel
                have v0 := blk_cell HV.out 0
                have v1 := blk_cell HV.out 1
                have v2 := blk_cell HV.out 2
                by_cases hki : k < i
                · have hkl : k < (l0.length : Int) := by omega
                  obtain ⟨ad', e0, z0, z1, z2⟩ := at_T131 (Kd.C_below H0.out HBd.out) k hk0 hkl
                  obtain rfl : ad = ad' := by injection e0
                  by_cases hc : code l0 k = code l0 i
                  · have hcb : ((rd_T131 l0 k).f0.toList == (rd_T131 l0 i).f0.toList) = true := beq_bytes hc
                    have HC := Aside0.mk hc
                    clear hc
                    go_wp2_with fail
                    go_quiet (fail)
                    go_wp2_with fail
                    go_ret
                    exact ⟨ret_bool (chartOk_row hi0 hlt (no_dup HC.out hk0 hki)).symm, pw_below_drewN HBd.out _⟩
                  · have hcb : ((rd_T131 l0 k).f0.toList == (rd_T131 l0 i).f0.toList) = false := nbeq_bytes hc
                    have HC := Aside0.mk hc
                    clear hc
                    go_wp2_with fail
                    go_quiet (fail)
                    go_wp2_with fail
                    go_roundw
                    case rel => exact ⟨k + 1, by omega, by omega, rfl, ⟨pw_below_drewN HBd.out _⟩, ⟨blk_drewN HV.out _⟩, ⟨fun j j0 j1 => by
                      by_cases e : j = k
                      · subst e; exact HC.out
                      · exact HT.out j j0 (by omega)⟩⟩
                    case measure => simp [intOf]; omega
                · obtain rfl : k = i := by omega
                  have hk1' := hk1
                  by_cases hp : (rd_T131 l0 k).f1 < 0
                  · have HP := Aside0.mk hp
                    go_wp2_with fail
                    go_roundw
                    case rel => exact ⟨k + 1, by omega, by omega, rfl, HBd, ⟨rows_step hi0 HR.out ⟨HT.out, HNM.out, inB_true.1 HKD.out, Or.inl (by have := HPR.out.1; have h9 : par l0 k < 0 := HP.out; omega)⟩⟩⟩
                    case measure => simp [intOf]; omega
                  · have HPN := Aside0.mk (show 0 ≤ par l0 k from by have h8 : ¬ (rd_T131 l0 k).f1 < 0 := hp; show 0 ≤ (rd_T131 l0 k).f1; omega)
                    have hlo := Aside0.mk (rows_lo HR.out)
                    have hpar := Aside0.mk (rows_par HR.out)
                    have hpa := Aside0.mk (show ∀ j : Int, 0 ≤ j → j ≤ k → par l0 j < j from fun j j0 j1 => by
                      by_cases e : j = k
                      · subst e; have := HPR.out.2; omega
                      · exact hpar.out j j0 (by omega))
                    go_wp2_with fail
                    go_loop [6] (fun v => ∃ m : Int, -1 ≤ m ∧ m < k ∧ v = .int .i64 m ∧ Aside0 (∀ n : Nat, m + 1 ≤ n → climb l0 (par l0 k) n m = up l0 k)) (fun v => (intOf v + 1).toNat)
                    case atStart => exact ⟨k - 1, by omega, by omega, rfl, ⟨fun n hn => climb_more l0 (par l0 k) k hpar.out _ _ _ (by omega) hn (by omega)⟩⟩
                    case round =>
                      obtain ⟨m, hm0, hm1, rfl, HCL⟩ := hrel
                      by_cases hm : 0 ≤ m
                      · have hml : m < (l0.length : Int) := by omega
                        obtain ⟨ad', e0, z0, z1, z2⟩ := at_T131 (Kd.C_below H0.out HBd.out) m hm hml
                        obtain rfl : ad = ad' := by injection e0
                        by_cases hmp : m = par l0 k
                        · have hmb : (m != (rd_T131 l0 k).f1) = false := by rw [hmp]; exact bne_self_eq_false' _
                          have HU := Aside0.mk (climb_at (fun q => q.2 hmp) HCL.out)
                          clear hmp
                          by_cases hkd : knd l0 m = knd l0 k
                          · have hkdb : ((rd_T131 l0 m).f2 != (rd_T131 l0 k).f2) = false := by rw [show (rd_T131 l0 m).f2 = (rd_T131 l0 k).f2 from hkd]; exact bne_self_eq_false' _
                            have HKE := Aside0.mk hkd
                            clear hkd
                            have HDE := Aside0.mk (deep_up HR.out hi0 (by rw [HU.out]; exact hm))
                            by_cases hde : 8 < deepAt l0 k
                            · go_wp2_with fail
                              go_quiet ((go_at_call 155; exact Calls.quiet_of_same (spec_l4Deep.to (some ad) c0 l0 k _ (Kd.C_drewN (Kd.C_below H0.out HBd.out) _) hi0 (by omega) h2 hpa.out)))
                              go_wp2_with fail
                              go_ret
                              exact ⟨ret_bool (chartOk_row hi0 hlt (fun q => by rcases q.2.2.2 with q | ⟨q0, _, q⟩; (have h7 := HPN.out; omega); have h8 := HDE.out; omega)).symm, pw_below_drewN HBd.out _⟩
                            · go_wp2_with fail
                              go_quiet ((go_at_call 155; exact Calls.quiet_of_same (spec_l4Deep.to (some ad) c0 l0 k _ (Kd.C_drewN (Kd.C_below H0.out HBd.out) _) hi0 (by omega) h2 hpa.out)))
                              go_wp2_with fail
                              go_roundw
                              case rel => exact ⟨k + 1, by omega, by omega, rfl, ⟨pw_below_drewN HBd.out _⟩, ⟨rows_step hi0 HR.out ⟨HT.out, HNM.out, inB_true.1 HKD.out, Or.inr ⟨by rw [HU.out]; exact hm, by rw [HU.out]; exact HKE.out, by have := HDE.out; omega⟩⟩⟩⟩
                              case measure => simp [intOf]; omega
                          · have hkdb : ((rd_T131 l0 m).f2 != (rd_T131 l0 k).f2) = true := bne_iff_ne.2 hkd
                            have HKE := Aside0.mk hkd
                            clear hkd
                            go_wp2_with fail
                            go_quiet (fail)
                            go_wp2_with fail
                            go_ret
                            exact ⟨ret_bool (chartOk_row hi0 hlt (fun q => by rcases q.2.2.2 with q | ⟨_, q, _⟩; (have h7 := HPN.out; omega); rw [HU.out] at q; exact HKE.out q)).symm, pw_below_drewN HBd.out _⟩
                        · have hmb : (m != (rd_T131 l0 k).f1) = true := bne_iff_ne.2 hmp
                          have HKP := Aside0.mk hmp
                          clear hmp
                          have b1 := hlo.out m hm (by omega)
                          have b2 := hpar.out m hm (by omega)
                          go_wp2_with fail
                          go_round
                          case rel => exact ⟨par l0 m, b1, by omega, rfl, ⟨climb_go hpar.out hm hm1 HKP.out HCL.out⟩⟩
                          case measure => show (par l0 m + 1).toNat < (m + 1).toNat; omega
                      · have HU := Aside0.mk (climb_at (fun q => hm q.1) HCL.out)
                        go_wp2_with fail
                        go_quiet (fail)
                        go_wp2_with fail
                        go_ret
                        exact ⟨ret_bool (chartOk_row hi0 hlt (fun q => by rcases q.2.2.2 with q | ⟨q, _⟩; (have h7 := HPN.out; omega); rw [HU.out] at q; omega)).symm, pw_below_drewN HBd.out _⟩
      · go_wp2_with fail
        go_ret
        exact ⟨ret_bool (chartOk_all h1 h2 (by omega) HR.out).symm, HB.out⟩
  · have hin : inB (l0.length : Int) 1 120 = false := inB_not (by omega)
    go_enter Try.func140, Try.ntmps140
    go_wp2_with fail
    refine (spec_l1In.to _ _ _ _).mono ?_
    rintro e w' ⟨rfl, rfl⟩
    go_wp2_with fail
    go_ret
    exact ⟨ret_bool (chartOk_len hn).symm, Below.refl _ _⟩
end Go.Proofs.Ytphmnkcfjgallaa.Q
