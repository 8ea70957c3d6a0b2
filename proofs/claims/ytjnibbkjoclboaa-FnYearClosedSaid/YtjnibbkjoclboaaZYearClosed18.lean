/- Parts of the proof: what functions of the program and of the reference answer.
   No condition. -/
import Derived.Test.YtjnibbkjoclboaaZYearClosed1
import Derived.Test.YtjnibbkjoclboaaZYearClosed7
import Derived.Test.YtjnibbkjoclboaaZYearClosed16
import Derived.Test.YtjnibbkjoclboaaZYearClosed14
import Derived.Test.YtjnibbkjoclboaaZYearClosed11
import Derived.Test.YtjnibbkjoclboaaZYearClosed4
import Derived.Test.YtjnibbkjoclboaaZYearClosed2
import Derived.Test.YtjnibbkjoclboaaZYearClosed3
namespace Go.Proofs.Ytjnibbkjoclboaa.Q
open Go.RowKit Go.Proofs.YtjnibbkjoclboaaW.PrintWords Go.Proofs.YtjnibbkjoclboaaW.PrintLast Go.Proofs.YtjnibbkjoclboaaW.PrintMore
attribute [local go_sem] max2_int min2_int max_two min_two max_three min_three max_four min_four   -- for this text's walks alone
set_option linter.unusedVariables false
set_option linter.unusedSimpArgs false
noncomputable def impl_Trial.f (l0_0 : List (S43)) (a0_1 : Int) (a0_2 : Int) (l1_0 : List (S37)) (a1_1 : Int) (a2 : Int) : Option (List Int) := (impl_LedgerOk.f l0_0 a0_1 a0_2 l1_0 a1_1).bind fun t12003 => (if t12003 = true then ((impl_bases.f (l0_0.length : Int) l1_0 a1_1 (-1) (-4611686018427387904) a2).bind fun t12004 => (some t12004)) else (some ([] : List Int)))
set_option maxHeartbeats 8000000 in
set_option maxRecDepth 100000 in
theorem impl_Trial.calls (A0_0 : Option Addr) (c0_0 : Nat) (l0_0 : List (S43)) (a0_1 : Int) (a0_2 : Int) (A1_0 : Option Addr) (c1_0 : Nat) (l1_0 : List (S37)) (a1_1 : Int) (a2 : Int) (r : List Int) (w : World) (hr0_0 : Kd.C k43 w A0_0 l0_0.length l0_0) (hc0_0 : l0_0.length ≤ c0_0) (hr1_0 : Kd.C k37 w A1_0 l1_0.length l1_0) (hc1_0 : l1_0.length ≤ c1_0) (h : impl_Trial.f l0_0 a0_1 a0_2 l1_0 a1_1 a2 = some r) :
    Calls Try.prog 11 #[.agg #[.slice A0_0 l0_0.length c0_0, .int .i64 a0_1, .int .i64 a0_2], .agg #[.slice A1_0 l1_0.length c1_0, .int .i64 a1_1], .int .i64 a2] w fun e w' => ∃ v0_ : Value, e = .returned (v0_) ∧ Kd.R (Kd.int .i64) 3 w' w.heap.size (fun _ => True) v0_ r ∧ Below w.heap.size w w' := by
  have hu26 := Try.underlying26
  have hu29 := Try.underlying29
  have HR0_0 := Aside0.mk hr0_0
  have HC0_0 := Aside0.mk hc0_0
  clear hr0_0 hc0_0
  have HR1_0 := Aside0.mk hr1_0
  have HC1_0 := Aside0.mk hc1_0
  clear hr1_0 hc1_0
  have HB := Aside0.mk (Below.refl w.heap.size w)
  have H : ((impl_LedgerOk.f l0_0 a0_1 a0_2 l1_0 a1_1).bind fun t12003 => (if t12003 = true then ((impl_bases.f (l0_0.length : Int) l1_0 a1_1 (-1) (-4611686018427387904) a2).bind fun t12004 => (some t12004)) else (some ([] : List Int)))) = some r := h
  clear h
  replace H := Option.bind_eq_some_iff.mp H
  obtain ⟨t12003, A40, H⟩ := H
  replace H : (if t12003 = true then ((impl_bases.f (l0_0.length : Int) l1_0 a1_1 (-1) (-4611686018427387904) a2).bind fun t12004 => (some t12004)) else (some ([] : List Int))) = some r := H
  have A4 := Aside0.mk A40
  clear A40
  by_cases c5 : t12003 = true
  · subst c5
    have H1 : ((impl_bases.f (l0_0.length : Int) l1_0 a1_1 (-1) (-4611686018427387904) a2).bind fun t12004 => (some t12004)) = some r := by rw [if_pos rfl] at H; exact H
    clear H
    have H := H1
    clear H1
    replace H := Option.bind_eq_some_iff.mp H
    obtain ⟨t12004, A60, H⟩ := H
    replace H : (some t12004) = some r := H
    have A6 := Aside0.mk A60
    clear A60
    obtain rfl := Option.some.inj H
    go_enter Try.func11, Try.ntmps11
    go_wp2_with (first | ((with_reducible refine gate_dst (N := 3) rfl ?_); refine box_event ?hg (N := 3) ?hd (cs := #[.slice A0_0 l0_0.length c0_0, .int .i64 a0_1, .int .i64 a0_2]) (t := 26) ?hr ?_; (case hd => rfl); (case hg => rfl); (case hr => first | (go_simp; done) | (go_simp; rfl)); intro gb12001 hg w7 hbox hb; have n0_ := Aside0.mk (below_step (by repeat (first | (with_reducible first | exact HB.out | apply below_alloc | apply pw_below_drewN | apply below_drew1) | exact HB.out)) hb); have n1_ := Aside0.mk (hbox); have n2_ := Aside0.mk ((by rw [hg]; exact (below_size (by repeat (first | (with_reducible first | exact HB.out | apply below_alloc | apply pw_below_drewN | apply below_drew1) | exact HB.out))) : w.heap.size ≤ gb12001)); have n3_ := Aside0.mk ((by rw [hg]; exact (below_size (by repeat (first | (with_reducible first | exact HB.out | apply below_alloc | apply pw_below_drewN | apply below_drew1) | exact HB.out))) : w.heap.size ≤ gb12001)); clear HB; have HB := n0_; have BK12001 := n1_; have GW12001 := n2_; have GE12001 := n3_; clear n0_ n1_ n2_ n3_; clear hb hbox hg) | ((with_reducible refine gate_dst (N := 4) rfl ?_); refine box_event ?hg (N := 4) ?hd (cs := #[.slice A1_0 l1_0.length c1_0, .int .i64 a1_1]) (t := 29) ?hr ?_; (case hd => rfl); (case hg => rfl); (case hr => first | (go_simp; done) | (go_simp; rfl)); intro gb12002 hg w8 hbox hb; have n0_ := Aside0.mk (blk_below (g := gb12001) (o := .cells #[.slice A0_0 l0_0.length c0_0, .int .i64 a0_1, .int .i64 a0_2] 26 (0, 0)) (by (with_reducible repeat (first | refine blk_drewN ?_ _ | refine blk_drew ?_ | refine blk_alloc ?_ _)); exact BK12001.out) hb); have n1_ := Aside0.mk (below_step (by repeat (first | (with_reducible first | exact HB.out | apply below_alloc | apply pw_below_drewN | apply below_drew1 | refine below_set ?_ GE12001.out) | exact HB.out)) hb); have n2_ := Aside0.mk (hbox); have n3_ := Aside0.mk ((by rw [hg]; exact (below_size (by repeat (first | (with_reducible first | exact HB.out | apply below_alloc | apply pw_below_drewN | apply below_drew1 | refine below_set ?_ GE12001.out) | exact HB.out))) : w.heap.size ≤ gb12002)); have n4_ := Aside0.mk ((by rw [hg]; exact (below_size (by repeat (first | (with_reducible first | exact HB.out | apply below_alloc | apply pw_below_drewN | apply below_drew1 | refine below_set ?_ GE12001.out) | exact HB.out))) : w.heap.size ≤ gb12002)); have n5_ := Aside0.mk ((by rw [hg]; exact Nat.ne_of_lt (blk_lt (g := gb12001) (o := .cells #[.slice A0_0 l0_0.length c0_0, .int .i64 a0_1, .int .i64 a0_2] 26 (0, 0)) (by (with_reducible repeat (first | refine blk_drewN ?_ _ | refine blk_drew ?_ | refine blk_alloc ?_ _)); exact BK12001.out)) : gb12001 ≠ gb12002)); have n6_ := Aside0.mk ((by rw [hg]; exact Nat.ne_of_gt (blk_lt (g := gb12001) (o := .cells #[.slice A0_0 l0_0.length c0_0, .int .i64 a0_1, .int .i64 a0_2] 26 (0, 0)) (by (with_reducible repeat (first | refine blk_drewN ?_ _ | refine blk_drew ?_ | refine blk_alloc ?_ _)); exact BK12001.out)) : gb12002 ≠ gb12001)); clear BK12001; clear HB; have BK12001 := n0_; have HB := n1_; have BK12002 := n2_; have GW12002 := n3_; have GE12002 := n4_; have NB12001_12002 := n5_; have NB12002_12001 := n6_; clear n0_ n1_ n2_ n3_ n4_ n5_ n6_; clear hb hbox hg; have hnb9 := NB12001_12002.out; have hnc9 := NB12002_12001.out; have hcz10_0 : w8.cell? ⟨gb12001, 0, none⟩ = some (.slice A0_0 l0_0.length c0_0) := (blk_cell BK12001.out 0).trans rfl; have hcz10_1 : w8.cell? ⟨gb12001, 1, none⟩ = some (.int .i64 a0_1) := (blk_cell BK12001.out 1).trans rfl; have hcz10_2 : w8.cell? ⟨gb12001, 2, none⟩ = some (.int .i64 a0_2) := (blk_cell BK12001.out 2).trans rfl; have hfz10_0 := blk_frozen BK12001.out 0; have hfz10_1 := blk_frozen BK12001.out 1; have hfz10_2 := blk_frozen BK12001.out 2; have hcz11_0 : w8.cell? ⟨gb12002, 0, none⟩ = some (.slice A1_0 l1_0.length c1_0) := (blk_cell BK12002.out 0).trans rfl; have hcz11_1 : w8.cell? ⟨gb12002, 1, none⟩ = some (.int .i64 a1_1) := (blk_cell BK12002.out 1).trans rfl; have hfz11_0 := blk_frozen BK12002.out 0; have hfz11_1 := blk_frozen BK12002.out 1) | ((with_reducible refine gate_callee (f := 26) rfl ?_); refine goesL_ (some 9) rfl rfl Try.func26 (by kernel_rfl) rfl #[.agg #[.slice A0_0 l0_0.length c0_0, .int .i64 a0_1, .int .i64 a0_2], .agg #[.slice A1_0 l1_0.length c1_0, .int .i64 a1_1]] rfl (by (try simp only [List.map_toArray, List.map_cons, List.map_nil]); first | done | rfl | (simp only [List.length_drop, List.length_take]; rfl)) ?_; (with_reducible refine (impl_LedgerOk.calls _ _ l0_0 a0_1 a0_2 _ _ l1_0 a1_1 true _ ?side1 ?side2 ?side3 ?side4 A4.out).mono ?_); (case side1 => repeat (first | exact (Kd.C_below HR0_0.out HB.out) | (with_reducible refine Kd.C_alloc ?_ _) | (with_reducible refine Kd.C_drewN ?_ _) | (with_reducible refine Kd.C_drew ?_))); (case side2 => exact HC0_0.out); (case side3 => repeat (first | exact (Kd.C_below HR1_0.out HB.out) | (with_reducible refine Kd.C_alloc ?_ _) | (with_reducible refine Kd.C_drewN ?_ _) | (with_reducible refine Kd.C_drew ?_))); (case side4 => exact HC1_0.out); rintro e w12 ⟨rfl, hb⟩; refine ⟨_, rfl, ?_⟩; have n0_ := Aside0.mk (blk_below (g := gb12001) (o := .cells #[.slice A0_0 l0_0.length c0_0, .int .i64 a0_1, .int .i64 a0_2] 26 (0, 0)) (by (with_reducible repeat (first | refine blk_drewN ?_ _ | refine blk_drew ?_ | refine blk_alloc ?_ _)); exact BK12001.out) hb); have n1_ := Aside0.mk (blk_below (g := gb12002) (o := .cells #[.slice A1_0 l1_0.length c1_0, .int .i64 a1_1] 29 (0, 0)) (by (with_reducible repeat (first | refine blk_drewN ?_ _ | refine blk_drew ?_ | refine blk_alloc ?_ _)); exact BK12002.out) hb); have n2_ := Aside0.mk (below_step (by repeat (first | (with_reducible first | exact HB.out | apply below_alloc | apply pw_below_drewN | apply below_drew1 | refine below_set ?_ GE12001.out | refine below_set ?_ GE12002.out) | exact HB.out)) hb); clear BK12001; clear BK12002; clear HB; have BK12001 := n0_; have BK12002 := n1_; have HB := n2_; clear n0_ n1_ n2_; (try clear hb); (try clear hb2); (try clear hk); (try clear hi); have hcz13_0 : w12.cell? ⟨gb12001, 0, none⟩ = some (.slice A0_0 l0_0.length c0_0) := (blk_cell BK12001.out 0).trans rfl; have hcz13_1 : w12.cell? ⟨gb12001, 1, none⟩ = some (.int .i64 a0_1) := (blk_cell BK12001.out 1).trans rfl; have hcz13_2 : w12.cell? ⟨gb12001, 2, none⟩ = some (.int .i64 a0_2) := (blk_cell BK12001.out 2).trans rfl; have hfz13_0 := blk_frozen BK12001.out 0; have hfz13_1 := blk_frozen BK12001.out 1; have hfz13_2 := blk_frozen BK12001.out 2; have hcz14_0 : w12.cell? ⟨gb12002, 0, none⟩ = some (.slice A1_0 l1_0.length c1_0) := (blk_cell BK12002.out 0).trans rfl; have hcz14_1 : w12.cell? ⟨gb12002, 1, none⟩ = some (.int .i64 a1_1) := (blk_cell BK12002.out 1).trans rfl; have hfz14_0 := blk_frozen BK12002.out 0; have hfz14_1 := blk_frozen BK12002.out 1) | ((with_reducible refine gate_callee (f := 32) rfl ?_); refine goesL_ (some 16) rfl rfl Try.func32 (by kernel_rfl) rfl #[.int .i64 (l0_0.length : Int), .agg #[.slice A1_0 l1_0.length c1_0, .int .i64 a1_1], .int .i64 (-1), .int .i64 (-4611686018427387904), .int .i64 a2] rfl (by (try simp only [List.map_toArray, List.map_cons, List.map_nil]); first | done | rfl | (simp only [List.length_drop, List.length_take]; rfl)) ?_; (with_reducible refine (impl_bases.calls (l0_0.length : Int) _ _ l1_0 a1_1 (-1) (-4611686018427387904) a2 t12004 _ ?side1 ?side2 A6.out).mono ?_); (case side1 => repeat (first | exact (Kd.C_below HR1_0.out HB.out) | (with_reducible refine Kd.C_alloc ?_ _) | (with_reducible refine Kd.C_drewN ?_ _) | (with_reducible refine Kd.C_drew ?_))); (case side2 => exact HC1_0.out); rintro e w15 ⟨v12005, rfl, ho0, hb⟩; refine ⟨_, rfl, ?_⟩; have n0_ := Aside0.mk (Kd.R_lower ho0 (below_size (by repeat (first | (with_reducible first | exact HB.out | apply below_alloc | apply pw_below_drewN | apply below_drew1 | refine below_set ?_ GE12001.out | refine below_set ?_ GE12002.out) | exact HB.out)))); have n1_ := Aside0.mk (blk_below (g := gb12001) (o := .cells #[.slice A0_0 l0_0.length c0_0, .int .i64 a0_1, .int .i64 a0_2] 26 (0, 0)) (by (with_reducible repeat (first | refine blk_drewN ?_ _ | refine blk_drew ?_ | refine blk_alloc ?_ _)); exact BK12001.out) hb); have n2_ := Aside0.mk (blk_below (g := gb12002) (o := .cells #[.slice A1_0 l1_0.length c1_0, .int .i64 a1_1] 29 (0, 0)) (by (with_reducible repeat (first | refine blk_drewN ?_ _ | refine blk_drew ?_ | refine blk_alloc ?_ _)); exact BK12002.out) hb); have n3_ := Aside0.mk (below_step (by repeat (first | (with_reducible first | exact HB.out | apply below_alloc | apply pw_below_drewN | apply below_drew1 | refine below_set ?_ GE12001.out | refine below_set ?_ GE12002.out) | exact HB.out)) hb); clear BK12001; clear BK12002; clear HB; have HO12006 := n0_; have BK12001 := n1_; have BK12002 := n2_; have HB := n3_; clear n0_ n1_ n2_ n3_; (try clear hb); (try clear hb2); (try clear hk); (try clear hi); (try clear ho0)))
    go_ret
    exact ⟨_, by first | rfl | (simp [errW_none, errW_some] <;> rfl) | (simp [*, errW_none, errW_some] <;> rfl), by (with_reducible repeat (first | apply Kd.R_alloc | apply Kd.R_drewN | apply Kd.R_drew)); exact HO12006.out, by repeat (first | (with_reducible first | exact HB.out | apply below_alloc | apply pw_below_drewN | apply below_drew1 | refine below_set ?_ GE12001.out | refine below_set ?_ GE12002.out) | exact HB.out)⟩
  · replace c5 := Bool.eq_false_iff.mpr c5
    subst c5
    have H1 : (some ([] : List Int)) = some r := by rw [if_neg (show ¬ (false = true) by decide)] at H; exact H
    clear H
    have H := H1
    clear H1
    obtain rfl := Option.some.inj H
    go_enter Try.func11, Try.ntmps11
    go_wp2_with (first | ((with_reducible refine gate_dst (N := 3) rfl ?_); refine box_event ?hg (N := 3) ?hd (cs := #[.slice A0_0 l0_0.length c0_0, .int .i64 a0_1, .int .i64 a0_2]) (t := 26) ?hr ?_; (case hd => rfl); (case hg => rfl); (case hr => first | (go_simp; done) | (go_simp; rfl)); intro gb12001 hg w16 hbox hb; have n0_ := Aside0.mk (below_step (by repeat (first | (with_reducible first | exact HB.out | apply below_alloc | apply pw_below_drewN | apply below_drew1) | exact HB.out)) hb); have n1_ := Aside0.mk (hbox); have n2_ := Aside0.mk ((by rw [hg]; exact (below_size (by repeat (first | (with_reducible first | exact HB.out | apply below_alloc | apply pw_below_drewN | apply below_drew1) | exact HB.out))) : w.heap.size ≤ gb12001)); have n3_ := Aside0.mk ((by rw [hg]; exact (below_size (by repeat (first | (with_reducible first | exact HB.out | apply below_alloc | apply pw_below_drewN | apply below_drew1) | exact HB.out))) : w.heap.size ≤ gb12001)); clear HB; have HB := n0_; have BK12001 := n1_; have GW12001 := n2_; have GE12001 := n3_; clear n0_ n1_ n2_ n3_; clear hb hbox hg) | ((with_reducible refine gate_dst (N := 4) rfl ?_); refine box_event ?hg (N := 4) ?hd (cs := #[.slice A1_0 l1_0.length c1_0, .int .i64 a1_1]) (t := 29) ?hr ?_; (case hd => rfl); (case hg => rfl); (case hr => first | (go_simp; done) | (go_simp; rfl)); intro gb12002 hg w17 hbox hb; have n0_ := Aside0.mk (blk_below (g := gb12001) (o := .cells #[.slice A0_0 l0_0.length c0_0, .int .i64 a0_1, .int .i64 a0_2] 26 (0, 0)) (by (with_reducible repeat (first | refine blk_drewN ?_ _ | refine blk_drew ?_ | refine blk_alloc ?_ _)); exact BK12001.out) hb); have n1_ := Aside0.mk (below_step (by repeat (first | (with_reducible first | exact HB.out | apply below_alloc | apply pw_below_drewN | apply below_drew1 | refine below_set ?_ GE12001.out) | exact HB.out)) hb); have n2_ := Aside0.mk (hbox); have n3_ := Aside0.mk ((by rw [hg]; exact (below_size (by repeat (first | (with_reducible first | exact HB.out | apply below_alloc | apply pw_below_drewN | apply below_drew1 | refine below_set ?_ GE12001.out) | exact HB.out))) : w.heap.size ≤ gb12002)); have n4_ := Aside0.mk ((by rw [hg]; exact (below_size (by repeat (first | (with_reducible first | exact HB.out | apply below_alloc | apply pw_below_drewN | apply below_drew1 | refine below_set ?_ GE12001.out) | exact HB.out))) : w.heap.size ≤ gb12002)); have n5_ := Aside0.mk ((by rw [hg]; exact Nat.ne_of_lt (blk_lt (g := gb12001) (o := .cells #[.slice A0_0 l0_0.length c0_0, .int .i64 a0_1, .int .i64 a0_2] 26 (0, 0)) (by (with_reducible repeat (first | refine blk_drewN ?_ _ | refine blk_drew ?_ | refine blk_alloc ?_ _)); exact BK12001.out)) : gb12001 ≠ gb12002)); have n6_ := Aside0.mk ((by rw [hg]; exact Nat.ne_of_gt (blk_lt (g := gb12001) (o := .cells #[.slice A0_0 l0_0.length c0_0, .int .i64 a0_1, .int .i64 a0_2] 26 (0, 0)) (by (with_reducible repeat (first | refine blk_drewN ?_ _ | refine blk_drew ?_ | refine blk_alloc ?_ _)); exact BK12001.out)) : gb12002 ≠ gb12001)); clear BK12001; clear HB; have BK12001 := n0_; have HB := n1_; have BK12002 := n2_; have GW12002 := n3_; have GE12002 := n4_; have NB12001_12002 := n5_; have NB12002_12001 := n6_; clear n0_ n1_ n2_ n3_ n4_ n5_ n6_; clear hb hbox hg; have hnb18 := NB12001_12002.out; have hnc18 := NB12002_12001.out; have hcz19_0 : w17.cell? ⟨gb12001, 0, none⟩ = some (.slice A0_0 l0_0.length c0_0) := (blk_cell BK12001.out 0).trans rfl; have hcz19_1 : w17.cell? ⟨gb12001, 1, none⟩ = some (.int .i64 a0_1) := (blk_cell BK12001.out 1).trans rfl; have hcz19_2 : w17.cell? ⟨gb12001, 2, none⟩ = some (.int .i64 a0_2) := (blk_cell BK12001.out 2).trans rfl; have hfz19_0 := blk_frozen BK12001.out 0; have hfz19_1 := blk_frozen BK12001.out 1; have hfz19_2 := blk_frozen BK12001.out 2; have hcz20_0 : w17.cell? ⟨gb12002, 0, none⟩ = some (.slice A1_0 l1_0.length c1_0) := (blk_cell BK12002.out 0).trans rfl; have hcz20_1 : w17.cell? ⟨gb12002, 1, none⟩ = some (.int .i64 a1_1) := (blk_cell BK12002.out 1).trans rfl; have hfz20_0 := blk_frozen BK12002.out 0; have hfz20_1 := blk_frozen BK12002.out 1) | ((with_reducible refine gate_callee (f := 26) rfl ?_); refine goesL_ (some 9) rfl rfl Try.func26 (by kernel_rfl) rfl #[.agg #[.slice A0_0 l0_0.length c0_0, .int .i64 a0_1, .int .i64 a0_2], .agg #[.slice A1_0 l1_0.length c1_0, .int .i64 a1_1]] rfl (by (try simp only [List.map_toArray, List.map_cons, List.map_nil]); first | done | rfl | (simp only [List.length_drop, List.length_take]; rfl)) ?_; (with_reducible refine (impl_LedgerOk.calls _ _ l0_0 a0_1 a0_2 _ _ l1_0 a1_1 false _ ?side1 ?side2 ?side3 ?side4 A4.out).mono ?_); (case side1 => repeat (first | exact (Kd.C_below HR0_0.out HB.out) | (with_reducible refine Kd.C_alloc ?_ _) | (with_reducible refine Kd.C_drewN ?_ _) | (with_reducible refine Kd.C_drew ?_))); (case side2 => exact HC0_0.out); (case side3 => repeat (first | exact (Kd.C_below HR1_0.out HB.out) | (with_reducible refine Kd.C_alloc ?_ _) | (with_reducible refine Kd.C_drewN ?_ _) | (with_reducible refine Kd.C_drew ?_))); (case side4 => exact HC1_0.out); rintro e w21 ⟨rfl, hb⟩; refine ⟨_, rfl, ?_⟩; have n0_ := Aside0.mk (blk_below (g := gb12001) (o := .cells #[.slice A0_0 l0_0.length c0_0, .int .i64 a0_1, .int .i64 a0_2] 26 (0, 0)) (by (with_reducible repeat (first | refine blk_drewN ?_ _ | refine blk_drew ?_ | refine blk_alloc ?_ _)); exact BK12001.out) hb); have n1_ := Aside0.mk (blk_below (g := gb12002) (o := .cells #[.slice A1_0 l1_0.length c1_0, .int .i64 a1_1] 29 (0, 0)) (by (with_reducible repeat (first | refine blk_drewN ?_ _ | refine blk_drew ?_ | refine blk_alloc ?_ _)); exact BK12002.out) hb); have n2_ := Aside0.mk (below_step (by repeat (first | (with_reducible first | exact HB.out | apply below_alloc | apply pw_below_drewN | apply below_drew1 | refine below_set ?_ GE12001.out | refine below_set ?_ GE12002.out) | exact HB.out)) hb); clear BK12001; clear BK12002; clear HB; have BK12001 := n0_; have BK12002 := n1_; have HB := n2_; clear n0_ n1_ n2_; (try clear hb); (try clear hb2); (try clear hk); (try clear hi)))
    go_ret
    exact ⟨_, by first | rfl | (simp [errW_none, errW_some] <;> rfl) | (simp [*, errW_none, errW_some] <;> rfl), by first | exact Kd.R_nil _ _ _ _ _ | exact Kd.N_nil _ _ _ _ _ | exact Kd.V_nil _ _ _ _ _ | exact Kd.Q_nil _ _ _ _ _ | exact Kd.S_nil _ _ _ _ _, by repeat (first | (with_reducible first | exact HB.out | apply below_alloc | apply pw_below_drewN | apply below_drew1 | refine below_set ?_ GE12001.out | refine below_set ?_ GE12002.out) | exact HB.out)⟩
end Go.Proofs.Ytjnibbkjoclboaa.Q
namespace Go.Proofs.Ytjnibbkjoclboaa.Q
open Go.RowKit Go.Proofs.YtjnibbkjoclboaaW.PrintWords Go.Proofs.YtjnibbkjoclboaaW.PrintLast Go.Proofs.YtjnibbkjoclboaaW.PrintMore
attribute [local go_sem] max2_int min2_int max_two min_two max_three min_three max_four min_four   -- for this text's walks alone
set_option linter.unusedVariables false
set_option linter.unusedSimpArgs false
open Classical in
noncomputable def headR (h : Int) : List Ent → Int
  | [] => h
  | e :: l => if tooLong e then 0 else if (linkAll (h, false) (numsOf e)).2 = true then 0 else headR (linkAll (h, false) (numsOf e)).1 l
theorem linkStep_bad (h x : Int) : (linkStep (h, true) x).2 = true := by unfold linkStep; split <;> rfl
theorem linkAll_bad (xs : List Int) : ∀ s : Int × Bool, s.2 = true → (linkAll s xs).2 = true := by
  induction xs with
  | nil => intro s h; exact h
  | cons x xs ih =>
    intro s h
    obtain ⟨a, b⟩ := s
    cases h
    exact ih _ (linkStep_bad a x)
theorem headR_eq (l : List Ent) : ∀ h : Int, headR h l = open Classical in if ∃ e ∈ l, tooLong e then 0 else if (linkAll (h, false) (l.flatMap numsOf)).2 = true then 0 else (linkAll (h, false) (l.flatMap numsOf)).1 := by
  induction l with
  | nil => intro h; simp [headR, linkAll]
  | cons e l ih =>
    intro h
    unfold headR
    by_cases ht : tooLong e
    · rw [if_pos ht, if_pos ⟨e, List.mem_cons_self, ht⟩]
    · rw [if_neg ht]
      have hq : (∃ x ∈ e :: l, tooLong x) ↔ ∃ x ∈ l, tooLong x := by
        constructor
        · rintro ⟨x, hx, q⟩
          rcases List.mem_cons.1 hx with rfl | hx
          · exact absurd q ht
          · exact ⟨x, hx, q⟩
        · rintro ⟨x, hx, q⟩
          exact ⟨x, List.mem_cons_of_mem _ hx, q⟩
      rw [List.flatMap_cons, linkAll_append]
      by_cases hE : ∃ x ∈ l, tooLong x
      · rw [if_pos (hq.2 hE), ih, if_pos hE]
        split <;> rfl
      · rw [if_neg (fun q => hE (hq.1 q))]
        cases hb : (linkAll (h, false) (numsOf e)).2 with
        | true => rw [if_pos rfl, if_pos (linkAll_bad _ _ hb)]
        | false =>
          rw [if_neg (by simp), ih, if_neg hE]
          rw [show linkAll (h, false) (numsOf e) = ((linkAll (h, false) (numsOf e)).1, false) from Prod.ext rfl hb]
theorem headV_eq (l : List Ent) : headV l = if 1000 < l.length then 0 else headR 1 l := by
  unfold headV
  rw [headR_eq]
  by_cases h : 1000 < l.length
  · rw [if_pos h, if_pos (Or.inl h)]
  · rw [if_neg h]
    by_cases hE : ∃ e ∈ l, tooLong e
    · rw [if_pos (Or.inr hE), if_pos hE]
    · rw [if_neg (fun q => q.elim h hE), if_neg hE]
theorem nums_l1 (a0 a1 : Int) (t : ByteArray) (ls : List Lin) (hl : ls.length ≤ 60) : ∀ (n k : Nat) (i : Int) (acc : List Int), 0 ≤ i → i + n = (ls.length : Int) → acc.length + 5 * n ≤ 1000 →
    spec_l5Numbers.l1 (k + n + 1) acc i a0 a1 t ls = some (acc ++ (ls.drop i.toNat).flatMap lineNums) := by
  intro n
  induction n with
  | zero =>
    intro k i acc h0 h1 h2
    unfold spec_l5Numbers.l1
    rw [if_neg (by omega), List.drop_of_length_le (by omega)]
    simp
  | succ n ih =>
    intro k i acc h0 h1 h2
    rw [show k + (n + 1) + 1 = (k + n + 1) + 1 by omega]
    unfold spec_l5Numbers.l1
    rw [if_pos (by omega), if_pos h0]
    show (if acc.length + 5 < 17592186044416 then _ else _) = _
    rw [if_pos (by omega), show wrap64 (i + 1) = i + 1 by unfold wrap64; omega]
    rw [ih k (i + 1) _ (by omega) (by omega) (by simp; omega)]
    rw [List.append_assoc]
    congr 2
    rw [List.drop_eq_getElem_cons (show i.toNat < ls.length by omega), List.flatMap_cons, show (i + 1).toNat = i.toNat + 1 by omega]
    congr 1
    unfold rd_T66 lineNums
    rw [List.getD_eq_getElem?_getD, List.getElem?_eq_getElem (by omega)]
    rfl
theorem nums_l0 (e : Ent) (hl : e.f3.length ≤ 60) (ht : e.f2.size ≤ 40) : ∀ (n k : Nat) (i : Int), 0 ≤ i → i + n = (e.f2.size : Int) →
    spec_l5Numbers.l0 (k + n + e.f3.length + 2) ([e.f0, e.f1, (e.f2.size : Int)] ++ bytesN e.f2 i.toNat) i e.f0 e.f1 e.f2 e.f3 = some (numsOf e) := by
  have hb : ∀ m : Nat, (bytesN e.f2 m).length = m := by
    intro m
    induction m with
    | zero => rfl
    | succ m ih => simp [bytesN, ih]
  intro n
  induction n with
  | zero =>
    intro k i h0 h1
    obtain rfl : i = (e.f2.size : Int) := by omega
    rw [show k + 0 + e.f3.length + 2 = (k + e.f3.length + 1) + 1 by omega]
    unfold spec_l5Numbers.l0
    rw [if_neg (by omega), if_pos (by simp [hb]; omega), nums_l1 _ _ _ _ hl e.f3.length k 0 _ (by omega) (by omega) (by simp [hb]; omega)]
    unfold numsOf
    simp
  | succ n ih =>
    intro k i h0 h1
    rw [show k + (n + 1) + e.f3.length + 2 = (k + n + e.f3.length + 2) + 1 by omega]
    unfold spec_l5Numbers.l0
    rw [if_pos (by omega), if_pos h0, if_pos (by simp [hb]; omega)]
    have hr := bt_range e.f2 i
    rw [show wrap64 (i + 1) = i + 1 by unfold wrap64; omega, show wrap64 (bt e.f2 i) = bt e.f2 i by unfold wrap64; omega]
    have hs := ih k (i + 1) (by omega) (by omega)
    rw [show (i + 1).toNat = i.toNat + 1 by omega] at hs
    rw [← hs, List.append_assoc]
    show _ = spec_l5Numbers.l0 _ (_ ++ (bytesN e.f2 i.toNat ++ [bt e.f2 (i.toNat : Int)])) _ _ _ _ _
    rw [show ((i.toNat : Nat) : Int) = i by omega]
theorem nums_f (e : Ent) (h : ¬ tooLong e) {k : Nat} (hk : 200 ≤ k) : spec_l5Numbers.f k e.f0 e.f1 e.f2 e.f3 = some (numsOf e) := by
  unfold tooLong at h
  have := nums_l0 e (by omega) (by omega) e.f2.size (k - e.f2.size - e.f3.length - 2) 0 (by omega) (by omega)
  rw [show k - e.f2.size - e.f3.length - 2 + e.f2.size + e.f3.length + 2 = k by omega] at this
  exact this
theorem nums_len (e : Ent) (h : ¬ tooLong e) : (numsOf e).length ≤ 350 := by
  unfold tooLong at h
  have hb : ∀ m : Nat, (bytesN e.f2 m).length = m := by
    intro m
    induction m with
    | zero => rfl
    | succ m ih => simp [bytesN, ih]
  have hf : ∀ l : List Lin, (l.flatMap lineNums).length = 5 * l.length := by
    intro l
    induction l with
    | nil => rfl
    | cons x l ih => rw [List.flatMap_cons, List.length_append, ih]; simp [lineNums]; omega
  unfold numsOf
  simp only [List.length_append, hb, hf, List.length_cons, List.length_nil]
  omega
theorem link_wrap {h x : Int} (hh : HeadIn (h, false)) (hx : inB x (-549755813888) 549755813887 = true) : ((Int.tmod (wrap64 ((wrap64 ((wrap64 (h * 1000003)) + x)) + 549755813888)) 1099511627791), false) = linkStep (h, false) x := by
  obtain ⟨h0, h1⟩ := hh
  have hx' := inB_true.1 hx
  simp only at h0 h1
  rw [show wrap64 (h * 1000003) = h * 1000003 by unfold wrap64; omega, show wrap64 (h * 1000003 + x) = h * 1000003 + x by unfold wrap64; omega, show wrap64 (h * 1000003 + x + 549755813888) = h * 1000003 + x + 549755813888 by unfold wrap64; omega]
  unfold linkStep
  rw [if_pos hx', Int.tmod_eq_emod_of_nonneg (by omega)]
theorem link_out {h x : Int} (hx : inB x (-549755813888) 549755813887 = false) : linkStep (h, false) x = (h, true) := if_neg (inB_false.1 hx)
theorem head_l1 (l : List Ent) (xs : List Int) (i : Int) : ∀ (n k : Nat) (h j : Int), 0 ≤ j → j + n = (xs.length : Int) → xs.length ≤ 350 → HeadIn (h, false) →
    spec_HeadOf.l1 (k + n + 1) l h i xs j = if (linkAll (h, false) (xs.drop j.toNat)).2 = true then some 0 else spec_HeadOf.l0 k l (linkAll (h, false) (xs.drop j.toNat)).1 (wrap64 (i + 1)) := by
  intro n
  induction n with
  | zero =>
    intro k h j h0 h1 h2 hh
    unfold spec_HeadOf.l1
    rw [if_neg (by omega), List.drop_of_length_le (by omega)]
    rfl
  | succ n ih =>
    intro k h j h0 h1 h2 hh
    rw [show k + (n + 1) + 1 = (k + n + 1) + 1 by omega]
    unfold spec_HeadOf.l1
    rw [if_pos (by omega), if_pos h0]
    have hd : xs.drop j.toNat = rd xs j :: xs.drop (j + 1).toNat := by
      rw [List.drop_eq_getElem_cons (show j.toNat < xs.length by omega), show (j + 1).toNat = j.toNat + 1 by omega]
      unfold rd
      rw [List.getD_eq_getElem?_getD, List.getElem?_eq_getElem (by omega)]
      rfl
    rw [hd, linkAll_cons]
    show (if inB (rd xs j) (-549755813888) 549755813887 = true then _ else _) = _
    cases hx : inB (rd xs j) (-549755813888) 549755813887 with
    | true =>
      rw [if_pos rfl, show wrap64 (j + 1) = j + 1 by unfold wrap64; omega, ← link_wrap hh hx]
      exact ih k _ (j + 1) (by omega) (by omega) h2 (by rw [link_wrap hh hx]; exact linkStep_in hh _)
    | false =>
      rw [if_neg (by simp), link_out hx, if_pos (linkAll_bad _ _ rfl)]
theorem head_l0 (l : List Ent) (hl : l.length ≤ 1000) : ∀ (n k : Nat) (h i : Int), 0 ≤ i → i + n = (l.length : Int) → HeadIn (h, false) → 1000 ≤ k →
    spec_HeadOf.l0 (k + 400 * n) l h i = some (headR h (l.drop i.toNat)) := by
  intro n
  induction n with
  | zero =>
    intro k h i h0 h1 hh hk
    rw [show k + 400 * 0 = (k - 1) + 1 by omega]
    unfold spec_HeadOf.l0
    rw [if_neg (by omega), List.drop_of_length_le (by omega)]
    rfl
  | succ n ih =>
    intro k h i h0 h1 hh hk
    have hd : l.drop i.toNat = rd_T37 l i :: l.drop (i + 1).toNat := by
      rw [List.drop_eq_getElem_cons (show i.toNat < l.length by omega), show (i + 1).toNat = i.toNat + 1 by omega]
      unfold rd_T37
      rw [List.getD_eq_getElem?_getD, List.getElem?_eq_getElem (by omega)]
      rfl
    rw [hd]
    rw [show k + 400 * (n + 1) = ((k + 400 * n + 398) + 1) + 1 by omega]
    unfold spec_HeadOf.l0
    rw [if_pos (by omega), if_pos h0]
    unfold headR
    by_cases ht : tooLong (rd_T37 l i)
    · rw [if_pos ht]
      have hj : ∀ b : Bool, b = true → spec_HeadOf.j1 ((k + 400 * n + 398) + 1) l h i b = some 0 := fun b hb => by
        unfold spec_HeadOf.j1
        rw [if_pos hb]
      unfold tooLong at ht
      by_cases hc : ((rd_T37 l i).f3.length : Int) > 60
      · rw [if_pos hc]; exact hj _ rfl
      · rw [if_neg hc]; exact hj _ (by simp; omega)
    · have hj : spec_HeadOf.j1 ((k + 400 * n + 398) + 1) l h i false = some (if (linkAll (h, false) (numsOf (rd_T37 l i))).2 = true then 0 else headR (linkAll (h, false) (numsOf (rd_T37 l i))).1 (l.drop (i + 1).toNat)) := by
        unfold spec_HeadOf.j1
        rw [if_neg (by simp), if_pos h0, if_pos (by omega), nums_f _ ht (by omega)]
        have hn := nums_len _ ht
        show spec_HeadOf.l1 (k + 400 * n + 398) l h i (numsOf (rd_T37 l i)) 0 = _
        rw [show k + 400 * n + 398 = (k + 397 - (numsOf (rd_T37 l i)).length + 400 * n) + (numsOf (rd_T37 l i)).length + 1 by omega]
        rw [head_l1 l _ i _ _ h 0 (by omega) (by omega) hn hh, show wrap64 (i + 1) = i + 1 by unfold wrap64; omega]
        simp only [Int.toNat_zero, List.drop_zero]
        have hin : HeadIn ((linkAll (h, false) (numsOf (rd_T37 l i))).1, false) := linkAll_in hh (numsOf (rd_T37 l i))
        rw [ih _ _ (i + 1) (by omega) (by omega) hin (by omega)]
        split <;> rfl
      rw [if_neg ht, ← hj]
      unfold tooLong at ht
      rw [if_neg (by omega)]
      congr 1
      simp
      omega
theorem spec_HeadOf.to (A0 : Option Addr) (c0 : Nat) (l0 : List Ent) (w : World) (hr0 : Kd.C k37 w A0 l0.length l0) (hc : l0.length ≤ c0) :
    Calls Try.prog 55 #[.slice A0 l0.length c0] w fun e w' => e = .returned (.int .i64 (headV l0)) ∧ Below w.heap.size w w' := by
  refine spec_HeadOf.calls (1000 + 400 * l0.length) A0 c0 l0 (headV l0) w hr0 hc ?_
  unfold spec_HeadOf.f
  rw [headV_eq]
  by_cases h : 1000 < l0.length
  · rw [if_pos (by omega), if_pos h]
  · rw [if_neg (by omega), if_neg h, head_l0 l0 (by omega) l0.length 1000 1 0 (by omega) (by omega) headIn_one (by omega)]
    rfl
set_option maxHeartbeats 16000000 in
set_option maxRecDepth 100000 in
theorem spec_LedgerOk.to (A0 : Option Addr) (c0 : Nat) (l0 : List Acc) (dims curs : Int) (A1 : Option Addr) (c1 : Nat) (l1 : List Ent) (h : Int) (w : World) (hr0 : Kd.C k43 w A0 l0.length l0) (hs : ∀ x ∈ l0, x.f0.size ≤ maxLen) (hr1 : Kd.C k37 w A1 l1.length l1) (hc1 : l1.length ≤ c1) (hm : ∀ e ∈ l1, e.f2.size ≤ maxLen) :
    Calls Try.prog 42 #[.agg #[.slice A0 l0.length c0, .int .i64 dims, .int .i64 curs], .agg #[.slice A1 l1.length c1, .int .i64 h]] w fun x w' => x = .returned (.bool (ledgerB l0 dims curs l1 h)) ∧ Below w.heap.size w w' := by
  have hl0 := hr0.2.1
  have hl1 := hr1.2.1
  have H0 := Aside0.mk hr0
  have H1 := Aside0.mk hr1
  have HS := Aside0.mk hs
  have HM := Aside0.mk hm
  have HCAP := Aside0.mk hc1
  have HB0 := Aside0.mk (below_two w (.cells #[.slice A0 l0.length c0, .int .i64 dims, .int .i64 curs] 26) (.cells #[.slice A1 l1.length c1, .int .i64 h] 29))
  have H00 := Aside0.mk (Kd.C_below hr0 HB0.out)
  have H11 := Aside0.mk (Kd.C_below hr1 HB0.out)
  clear hr0 hr1 hs hm hc1
  by_cases hlen : 1000 < l1.length
  case pos =>
    have HN := Aside0.mk (ledgerB_not (fun q => by have := q.2.1; omega) : false = ledgerB l0 dims curs l1 h)
    have hlen' : 1000 < (l1.length : Int) := by omega
    go_enter Try.func42, Try.ntmps42
    go_wp2_with fail
    go_quiet (fail)
    go_wp2_with fail
    go_ret
    exact ⟨ret_bool HN.out, pw_below_drewN HB0.out _⟩
  have hlenb : decide (1000 < (l1.length : Int)) = false := by simp; omega
  have f0 : ((w.alloc (.cells #[.slice A0 l0.length c0, .int .i64 dims, .int .i64 curs] 26)).alloc (.cells #[.slice A1 l1.length c1, .int .i64 h] 29)).cell? ⟨w.heap.size, 0, none⟩ = some (.slice A0 l0.length c0) := by go_simp
  have f1 : ((w.alloc (.cells #[.slice A0 l0.length c0, .int .i64 dims, .int .i64 curs] 26)).alloc (.cells #[.slice A1 l1.length c1, .int .i64 h] 29)).cell? ⟨w.heap.size, 1, none⟩ = some (.int .i64 dims) := by go_simp
  have f2 : ((w.alloc (.cells #[.slice A0 l0.length c0, .int .i64 dims, .int .i64 curs] 26)).alloc (.cells #[.slice A1 l1.length c1, .int .i64 h] 29)).cell? ⟨w.heap.size, 2, none⟩ = some (.int .i64 curs) := by go_simp
  have f3 : ((w.alloc (.cells #[.slice A0 l0.length c0, .int .i64 dims, .int .i64 curs] 26)).alloc (.cells #[.slice A1 l1.length c1, .int .i64 h] 29)).cell? ⟨w.heap.size + 1, 0, none⟩ = some (.slice A1 l1.length c1) := by go_simp
  have f4 : ((w.alloc (.cells #[.slice A0 l0.length c0, .int .i64 dims, .int .i64 curs] 26)).alloc (.cells #[.slice A1 l1.length c1, .int .i64 h] 29)).cell? ⟨w.heap.size + 1, 1, none⟩ = some (.int .i64 h) := by go_simp
  cases hfr : frameB l0 dims curs with
  | false =>
    have HF := Aside0.mk hfr
    have HN := Aside0.mk (ledgerB_not (fun q => by have := q.1; rw [hfr] at this; cases this) : false = ledgerB l0 dims curs l1 h)
    clear hfr
    go_enter Try.func42, Try.ntmps42
    go_wp2_with fail
    first | (go_region_with (first | (go_at_call 47; refine (spec_FrameOk.to A0 c0 l0 dims curs _ (by repeat (first | exact H00.out | refine Kd.C_drew ?_)) HS.out).mono ?_; rintro x w2 ⟨rfl, hb⟩; rw [HF.out]; have g3 := pw_cell_below hb f3))) | fail
    all_goals (
      have HBF := Aside0.mk (below_into (w := w) hb (below_drew HB0.out))
      clear hb
      go_wp2_with fail
      go_ret
      exact ⟨ret_bool HN.out, HBF.out⟩)
  | true =>
    have HF := Aside0.mk hfr
    clear hfr
    by_cases hh : h = headV l1
    case neg =>
      have HN := Aside0.mk (ledgerB_not (fun q => hh q.2.2.2) : false = ledgerB l0 dims curs l1 h)
      have hhb : (h != headV l1) = true := bne_iff_ne.2 hh
      go_enter Try.func42, Try.ntmps42
      go_wp2_with fail
      go_region_held3 (fun w' => w'.cell? ⟨w.heap.size, 0, none⟩ = some (.slice A0 l0.length c0) ∧ w'.cell? ⟨w.heap.size, 1, none⟩ = some (.int .i64 dims) ∧ w'.cell? ⟨w.heap.size, 2, none⟩ = some (.int .i64 curs) ∧ w'.cell? ⟨w.heap.size + 1, 0, none⟩ = some (.slice A1 l1.length c1) ∧ w'.cell? ⟨w.heap.size + 1, 1, none⟩ = some (.int .i64 h)) ((first | go_keep | exact ⟨pw_cell_below hb (by assumption), pw_cell_below hb (by assumption), pw_cell_below hb (by assumption), pw_cell_below hb (by assumption), pw_cell_below hb (by assumption)⟩))
        (first
          | (go_at_call 47; refine (spec_FrameOk.to A0 c0 l0 dims curs _ (by repeat (first | exact H00.out | refine Kd.C_drew ?_)) HS.out).mono ?_; rintro x w2 ⟨rfl, hb⟩; rw [HF.out])
          | (go_at_call 55; refine (spec_HeadOf.to A1 c1 l1 _ (by first | exact Kd.C_below H11.out (below_into hb (below_drew (Below.refl _ _))) | (repeat (first | exact H11.out | refine Kd.C_drew ?_))) HCAP.out).mono ?_; rintro x w3 ⟨rfl, hb3⟩; replace hb := below_into hb3 hb; clear hb3))
      have HBF := Aside0.mk (below_into (w := w) hb (below_drew HB0.out))
      clear hb
      go_wp2_with fail
      go_ret
      exact ⟨ret_bool HN.out, HBF.out⟩
    have hhb : (h != headV l1) = false := by rw [hh]; exact bne_self_eq_false' _
    have HH := Aside0.mk hh
    clear hh
    obtain ⟨hch, hd, hc⟩ := frame_parts HF.out
    clear hch hd hc
    go_enter Try.func42, Try.ntmps42
    go_wp2_with fail
    go_region_held3 (fun w' => w'.cell? ⟨w.heap.size, 0, none⟩ = some (.slice A0 l0.length c0) ∧ w'.cell? ⟨w.heap.size, 1, none⟩ = some (.int .i64 dims) ∧ w'.cell? ⟨w.heap.size, 2, none⟩ = some (.int .i64 curs) ∧ w'.cell? ⟨w.heap.size + 1, 0, none⟩ = some (.slice A1 l1.length c1) ∧ w'.cell? ⟨w.heap.size + 1, 1, none⟩ = some (.int .i64 h)) ((first | go_keep | exact ⟨pw_cell_below hb (by assumption), pw_cell_below hb (by assumption), pw_cell_below hb (by assumption), pw_cell_below hb (by assumption), pw_cell_below hb (by assumption)⟩))
        (first
          | (go_at_call 47; refine (spec_FrameOk.to A0 c0 l0 dims curs _ (by repeat (first | exact H00.out | refine Kd.C_drew ?_)) HS.out).mono ?_; rintro x w2 ⟨rfl, hb⟩; rw [HF.out])
          | (go_at_call 55; refine (spec_HeadOf.to A1 c1 l1 _ (by first | exact Kd.C_below H11.out (below_into hb (below_drew (Below.refl _ _))) | (repeat (first | exact H11.out | refine Kd.C_drew ?_))) HCAP.out).mono ?_; rintro x w3 ⟨rfl, hb3⟩; replace hb := below_into hb3 hb; clear hb3))
    have HBW1 := Aside0.mk (below_into (w := w) hb (below_drew HB0.out))
    have F0 := Aside0.mk (pw_cell_below hb f0)
    have F1 := Aside0.mk (pw_cell_below hb f1)
    have F2 := Aside0.mk (pw_cell_below hb f2)
    have F3 := Aside0.mk (pw_cell_below hb f3)
    have F4 := Aside0.mk (pw_cell_below hb f4)
    have HB1 := Aside0.mk (Below.refl w3.heap.size w3)
    have g3 := pw_cell_below hb f3
    clear hb f0 f1 f2 f3 f4
    go_wp2_with fail
    clear g3
    go_loopw [5] (fun v wr => ∃ i : Int, 0 ≤ i ∧ i ≤ (l1.length : Int) ∧ v = .int .i64 i ∧ Aside0 (Below w3.heap.size w3 wr) ∧ Aside0 (∀ e ∈ l1.take i.toNat, entryP l0 dims curs e)) (fun v _ => (l1.length - (intOf v).toNat))
    case atStart => exact ⟨0, by omega, by omega, rfl, HB1, ⟨fun x hx => by cases hx⟩⟩
    case round =>
      clear HB1
      obtain ⟨i, hi0, hi1, rfl, HB1, HO⟩ := hrel
      have g0 := pw_cell_below HB1.out F0.out
      have g1 := pw_cell_below HB1.out F1.out
      have g2 := pw_cell_below HB1.out F2.out
      have g3 := pw_cell_below HB1.out F3.out
      have HBW := Aside0.mk (below_into HB1.out HBW1.out)
      by_cases hlt : i < (l1.length : Int)
      · obtain ⟨ad, A3, c3, e0, x0, x1, x2, x3, x4, x5⟩ := at_T37 (Kd.C_below H1.out HBW.out) i hi0 hlt
        cases e0
        have X5 := Aside0.mk x5
        have HC0 := Aside0.mk (Kd.C_below H0.out HBW.out)
        have HMI := Aside0.mk (all_at (z := z37) (p := fun e => e.f2.size ≤ maxLen) hi0 hlt HM.out)
        clear x5
        go_wp2_with fail
        go_region_held3 (fun w' => w'.cell? ⟨w.heap.size, 0, none⟩ = some (.slice A0 l0.length c0) ∧ w'.cell? ⟨w.heap.size, 1, none⟩ = some (.int .i64 dims) ∧ w'.cell? ⟨w.heap.size, 2, none⟩ = some (.int .i64 curs) ∧ w'.cell? ⟨w.heap.size + 1, 0, none⟩ = some (.slice (some ad) l1.length c1) ∧ w'.cell? (ad.add (i.toNat * 4)) = some (.int .i64 (rd_T37 l1 i).f0) ∧ w'.cell? ⟨(ad.add (i.toNat * 4)).block, (ad.add (i.toNat * 4)).off + 1, none⟩ = some (.int .i64 (rd_T37 l1 i).f1) ∧ w'.cell? ⟨(ad.add (i.toNat * 4)).block, (ad.add (i.toNat * 4)).off + 2, none⟩ = some (.string (rd_T37 l1 i).f2) ∧ w'.cell? ⟨(ad.add (i.toNat * 4)).block, (ad.add (i.toNat * 4)).off + 3, none⟩ = some (.slice A3 (rd_T37 l1 i).f3.length c3)) ((first | go_keep | exact ⟨pw_cell_below hb (by assumption), pw_cell_below hb (by assumption), pw_cell_below hb (by assumption), pw_cell_below hb (by assumption), pw_cell_below hb (by assumption), pw_cell_below hb (by assumption), pw_cell_below hb (by assumption), pw_cell_below hb (by assumption)⟩))
          ((go_at_call 25; refine (spec_EntryOk.to A0 c0 l0 dims curs (rd_T37 l1 i) A3 c3 _ (by repeat (first | exact HC0.out | refine Kd.C_drew ?_)) HS.out (by repeat (first | exact X5.out | refine Kd.C_drew ?_)) HMI.out).mono ?_; rintro x w2 ⟨rfl, hb⟩; rw [HF.out, Bool.true_and]))
        have HB2 := Aside0.mk (below_into (w := w3) hb (below_drew HB1.out))
        clear hb
        cases hen : entryB l0 dims curs (rd_T37 l1 i) with
        | false =>
          have HN := Aside0.mk (ledgerB_not (fun q => by have := entryB_true.2 (all_at (z := z37) (p := entryP l0 dims curs) hi0 hlt q.2.2.1); rw [show entryB l0 dims curs (l1.getD i.toNat z37) = false from hen] at this; cases this) : false = ledgerB l0 dims curs l1 h)
          have HBF := Aside0.mk (below_into HB2.out HBW1.out)
          clear hen HB2
          go_wp2_with fail
          go_ret
          exact ⟨ret_bool HN.out, HBF.out⟩
        | true =>
          have HO2 := Aside0.mk (all_step (z := z37) (p := entryP l0 dims curs) hi0 hlt HO.out (entryB_true.1 hen))
          clear hen
          go_wp2_with fail
          go_roundw
          case rel => exact ⟨i + 1, by omega, by omega, rfl, HB2, HO2⟩
          case measure => simp [intOf]; omega
      · have HY := Aside0.mk (ledgerB_true.2 (show ledgerP l0 dims curs l1 h from ⟨HF.out, by omega, all_end (by omega) HO.out, HH.out⟩))
        go_wp2_with fail
        go_ret
        exact ⟨ret_bool HY.out.symm, HBW.out⟩
end Go.Proofs.Ytjnibbkjoclboaa.Q
namespace Go.Proofs.Ytjnibbkjoclboaa.Q
open Go.RowKit Go.Proofs.YtjnibbkjoclboaaW.PrintWords Go.Proofs.YtjnibbkjoclboaaW.PrintLast Go.Proofs.YtjnibbkjoclboaaW.PrintMore
set_option linter.unusedVariables false
set_option linter.unusedSimpArgs false
theorem ledger_fine {chart : List Acc} {d c : Int} {es : List Ent} {h : Int} (q : ledgerB chart d c es h = true) : es.length ≤ 1000 ∧ chart.length ≤ 120 ∧ (∀ e ∈ es, entFine e) ∧ (∀ e ∈ es, ∀ x ∈ e.f3, 0 ≤ x.f0 ∧ x.f0 < (chart.length : Int)) ∧ (∀ e ∈ es, 0 ≤ e.f0 ∧ e.f0 ≤ 40000) := by
  obtain ⟨h1, h2, h3, _⟩ := ledgerB_true.1 q
  obtain ⟨hc, _, _⟩ := frame_parts h1
  refine ⟨h2, (chartOk_iff.1 hc).2.1, fun e he => ⟨(h3 e he).2.2.2.1.2, fun x hx => ?_⟩, fun e he x hx => ?_, fun e he => (h3 e he).1⟩
  · have := (h3 e he).2.2.2.2.2.1 x hx
    exact ⟨this.2.2.2.1, this.2.2.2.2.1⟩
  · have := (h3 e he).2.2.2.2.2.1 x hx
    exact ⟨this.1.1, this.1.2.1⟩
end Go.Proofs.Ytjnibbkjoclboaa.Q
