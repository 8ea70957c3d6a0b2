/- Parts of the proof: what functions of the program and of the reference answer.
   No condition. -/
import Derived.Test.YtphmnkcfjgallaaZBooksOk1
import Derived.Test.YtphmnkcfjgallaaZBooksOk6
import Derived.Test.YtphmnkcfjgallaaZBooksOk7
import Derived.Test.YtphmnkcfjgallaaZBooksOk5
namespace Go.Proofs.Ytphmnkcfjgallaa.Q
open Go.RowKit Go.Proofs.YtphmnkcfjgallaaW.PrintWords Go.Proofs.YtphmnkcfjgallaaW.PrintLast Go.Proofs.YtphmnkcfjgallaaW.PrintMore
attribute [local go_sem] max2_int min2_int max_two min_two max_three min_three max_four min_four   -- for this text's walks alone
set_option linter.unusedVariables false
set_option linter.unusedSimpArgs false

/-! ### laws_toBooks: function 31 -/
noncomputable def laws_toBooks.f (k : Nat) (l0_0 : List (S176)) (a0_1 : Int) (a0_2 : Int) (l0_3 : List (S93)) (a0_4 : Int) (l0_5 : List (S138)) (a0_6 : Int) (a0_7 : Int) : Option ((List (S131)) × Int × Int × (List (S34)) × Int × (List (S133)) × Int × Int) := (laws_toFrame.f k l0_0 a0_1 a0_2).bind fun bt183 => ((laws_toLedger.f k l0_3 a0_4).bind fun bt188 => ((laws_toPeriodS.f k l0_5).bind fun t192 => (some (bt183.1, bt183.2.1, bt183.2.2, bt188.1, bt188.2, t192, a0_6, a0_7))))
theorem laws_toBooks.mono : ∀ a0 a1 a2 a3 a4 a5 a6 a7 k, LeO (laws_toBooks.f k a0 a1 a2 a3 a4 a5 a6 a7) (laws_toBooks.f (k + 1) a0 a1 a2 a3 a4 a5 a6 a7) := by
  intro a0 a1 a2 a3 a4 a5 a6 a7 k
  unfold laws_toBooks.f
  repeat' first
      | (with_reducible exact laws_toFrame.mono _ _ _ _)
      | (with_reducible exact laws_toLedger.mono _ _ _)
      | (with_reducible exact laws_toPeriodS.mono _ _)
      | (with_reducible exact LeO.refl _)
      | (with_reducible exact LeO.none _)
      | (with_reducible refine LeO.ite ?_ ?_)
      | (with_reducible refine LeO.bind ?_ (fun _ => ?_))
      | exact laws_toFrame.mono _ _ _ _
      | exact laws_toLedger.mono _ _ _
      | exact laws_toPeriodS.mono _ _
      | exact LeO.none _
      | refine LeO.ite ?_ ?_
      | refine LeO.bind ?_ (fun _ => ?_)
set_option maxHeartbeats 8000000 in
set_option maxRecDepth 100000 in
theorem laws_toBooks.calls (k : Nat) (A0_0 : Option Addr) (c0_0 : Nat) (l0_0 : List (S176)) (a0_1 : Int) (a0_2 : Int) (A0_3 : Option Addr) (c0_3 : Nat) (l0_3 : List (S93)) (a0_4 : Int) (A0_5 : Option Addr) (c0_5 : Nat) (l0_5 : List (S138)) (a0_6 : Int) (a0_7 : Int) (r1 : List (S131)) (r2 : Int) (r3 : Int) (r4 : List (S34)) (r5 : Int) (r6 : List (S133)) (r7 : Int) (r8 : Int) (w : World) (hr0_0 : Kd.C k176 w A0_0 l0_0.length l0_0) (hc0_0 : l0_0.length ≤ c0_0) (hr0_3 : Kd.C k93 w A0_3 l0_3.length l0_3) (hc0_3 : l0_3.length ≤ c0_3) (hr0_5 : Kd.C k138 w A0_5 l0_5.length l0_5) (hc0_5 : l0_5.length ≤ c0_5) (h : laws_toBooks.f k l0_0 a0_1 a0_2 l0_3 a0_4 l0_5 a0_6 a0_7 = some (r1, r2, r3, r4, r5, r6, r7, r8)) :
    Calls Try.prog 31 #[.agg #[.slice A0_0 l0_0.length c0_0, .int .i64 a0_1, .int .i64 a0_2, .slice A0_3 l0_3.length c0_3, .int .i64 a0_4, .slice A0_5 l0_5.length c0_5, .int .i64 a0_6, .int .i64 a0_7]] w fun e w' => ∃ v0_ v3_ v5_ : Value, e = .returned (.agg #[v0_, .int .i64 r2, .int .i64 r3, v3_, .int .i64 r5, v5_, .int .i64 r7, .int .i64 r8]) ∧ Kd.R k131 131 w' w.heap.size (fun _ => True) v0_ r1 ∧ Kd.S k34 34 w' w.heap.size (fun _ => True) v3_ r4 ∧ Kd.R k133 133 w' w.heap.size (fun _ => True) v5_ r6 ∧ Below w.heap.size w w' := by
  have hu65 := Try.underlying65
  have hu50 := Try.underlying50
  have hu59 := Try.underlying59
  have hu26 := Try.underlying26
  have hu62 := Try.underlying62
  have hu29 := Try.underlying29
  have HR0_0 := Aside0.mk hr0_0
  have HC0_0 := Aside0.mk hc0_0
  clear hr0_0 hc0_0
  have HR0_3 := Aside0.mk hr0_3
  have HC0_3 := Aside0.mk hc0_3
  clear hr0_3 hc0_3
  have HR0_5 := Aside0.mk hr0_5
  have HC0_5 := Aside0.mk hc0_5
  clear hr0_5 hc0_5
  have HB := Aside0.mk (Below.refl w.heap.size w)
  have H : ((laws_toFrame.f k l0_0 a0_1 a0_2).bind fun bt183 => ((laws_toLedger.f k l0_3 a0_4).bind fun bt188 => ((laws_toPeriodS.f k l0_5).bind fun t192 => (some (bt183.1, bt183.2.1, bt183.2.2, bt188.1, bt188.2, t192, a0_6, a0_7))))) = some (r1, r2, r3, r4, r5, r6, r7, r8) := h
  clear h
  replace H := Option.bind_eq_some_iff.mp H
  obtain ⟨⟨t183, t186, t187⟩, A20, H⟩ := H
  replace H : ((laws_toLedger.f k l0_3 a0_4).bind fun bt188 => ((laws_toPeriodS.f k l0_5).bind fun t192 => (some (t183, t186, t187, bt188.1, bt188.2, t192, a0_6, a0_7)))) = some (r1, r2, r3, r4, r5, r6, r7, r8) := H
  have A2 := Aside0.mk A20
  clear A20
  replace H := Option.bind_eq_some_iff.mp H
  obtain ⟨⟨t188, t191⟩, A30, H⟩ := H
  replace H : ((laws_toPeriodS.f k l0_5).bind fun t192 => (some (t183, t186, t187, t188, t191, t192, a0_6, a0_7))) = some (r1, r2, r3, r4, r5, r6, r7, r8) := H
  have A3 := Aside0.mk A30
  clear A30
  replace H := Option.bind_eq_some_iff.mp H
  obtain ⟨t192, A40, H⟩ := H
  replace H : (some (t183, t186, t187, t188, t191, t192, a0_6, a0_7)) = some (r1, r2, r3, r4, r5, r6, r7, r8) := H
  have A4 := Aside0.mk A40
  clear A40
  simp only [Option.some.injEq, Prod.mk.injEq] at H
  obtain ⟨rfl, rfl, rfl, rfl, rfl, rfl, rfl, rfl⟩ := H
  go_enter Try.func31, Try.ntmps31
  go_wp2_with (first | ((with_reducible refine gate_dst (N := 1) rfl ?_); refine box_event ?hg (N := 1) ?hd (cs := #[.slice A0_0 l0_0.length c0_0, .int .i64 a0_1, .int .i64 a0_2, .slice A0_3 l0_3.length c0_3, .int .i64 a0_4, .slice A0_5 l0_5.length c0_5, .int .i64 a0_6, .int .i64 a0_7]) (t := 65) ?hr ?_; (case hd => rfl); (case hg => rfl); (case hr => first | (go_simp; done) | (go_simp; rfl)); intro gb180 hg w5 hbox hb; have n0_ := Aside0.mk (below_step (by repeat (first | (with_reducible first | exact HB.out | apply below_alloc | apply pw_below_drewN | apply below_drew1) | exact HB.out)) hb); have n1_ := Aside0.mk (hbox); have n2_ := Aside0.mk ((by rw [hg]; exact (below_size (by repeat (first | (with_reducible first | exact HB.out | apply below_alloc | apply pw_below_drewN | apply below_drew1) | exact HB.out))) : w.heap.size ≤ gb180)); have n3_ := Aside0.mk ((by rw [hg]; exact (below_size (by repeat (first | (with_reducible first | exact HB.out | apply below_alloc | apply pw_below_drewN | apply below_drew1) | exact HB.out))) : w.heap.size ≤ gb180)); clear HB; have HB := n0_; have BK180 := n1_; have GW180 := n2_; have GE180 := n3_; clear n0_ n1_ n2_ n3_; clear hb hbox hg) | ((with_reducible refine gate_dst (N := 2) rfl ?_); refine box_event ?hg (N := 2) ?hd (cs := #[.slice none 0 0, .int .i64 0, .int .i64 0, .slice none 0 0, .int .i64 0, .slice none 0 0, .int .i64 0, .int .i64 0]) (t := 50) ?hr ?_; (case hd => rfl); (case hg => rfl); (case hr => first | (go_simp; done) | (go_simp; rfl)); intro gb181 hg w6 hbox hb; have n0_ := Aside0.mk (blk_below (g := gb180) (o := .cells #[.slice A0_0 l0_0.length c0_0, .int .i64 a0_1, .int .i64 a0_2, .slice A0_3 l0_3.length c0_3, .int .i64 a0_4, .slice A0_5 l0_5.length c0_5, .int .i64 a0_6, .int .i64 a0_7] 65 (0, 0)) (by (with_reducible repeat (first | refine blk_drewN ?_ _ | refine blk_drew ?_ | refine blk_alloc ?_ _)); exact BK180.out) hb); have n1_ := Aside0.mk (below_step (by repeat (first | (with_reducible first | exact HB.out | apply below_alloc | apply pw_below_drewN | apply below_drew1 | refine below_set ?_ GE180.out) | exact HB.out)) hb); have n2_ := Aside0.mk (hbox); have n3_ := Aside0.mk ((by rw [hg]; exact (below_size (by repeat (first | (with_reducible first | exact HB.out | apply below_alloc | apply pw_below_drewN | apply below_drew1 | refine below_set ?_ GE180.out) | exact HB.out))) : w.heap.size ≤ gb181)); have n4_ := Aside0.mk ((by rw [hg]; exact (below_size (by repeat (first | (with_reducible first | exact HB.out | apply below_alloc | apply pw_below_drewN | apply below_drew1 | refine below_set ?_ GE180.out) | exact HB.out))) : w.heap.size ≤ gb181)); have n5_ := Aside0.mk ((by rw [hg]; exact Nat.ne_of_lt (blk_lt (g := gb180) (o := .cells #[.slice A0_0 l0_0.length c0_0, .int .i64 a0_1, .int .i64 a0_2, .slice A0_3 l0_3.length c0_3, .int .i64 a0_4, .slice A0_5 l0_5.length c0_5, .int .i64 a0_6, .int .i64 a0_7] 65 (0, 0)) (by (with_reducible repeat (first | refine blk_drewN ?_ _ | refine blk_drew ?_ | refine blk_alloc ?_ _)); exact BK180.out)) : gb180 ≠ gb181)); have n6_ := Aside0.mk ((by rw [hg]; exact Nat.ne_of_gt (blk_lt (g := gb180) (o := .cells #[.slice A0_0 l0_0.length c0_0, .int .i64 a0_1, .int .i64 a0_2, .slice A0_3 l0_3.length c0_3, .int .i64 a0_4, .slice A0_5 l0_5.length c0_5, .int .i64 a0_6, .int .i64 a0_7] 65 (0, 0)) (by (with_reducible repeat (first | refine blk_drewN ?_ _ | refine blk_drew ?_ | refine blk_alloc ?_ _)); exact BK180.out)) : gb181 ≠ gb180)); clear BK180; clear HB; have BK180 := n0_; have HB := n1_; have BK181 := n2_; have GW181 := n3_; have GE181 := n4_; have NB180_181 := n5_; have NB181_180 := n6_; clear n0_ n1_ n2_ n3_ n4_ n5_ n6_; clear hb hbox hg) | ((with_reducible refine gate_dst (N := 3) rfl ?_); refine box_event ?hg (N := 3) ?hd (cs := #[.slice none 0 0, .int .i64 0, .int .i64 0, .slice none 0 0, .int .i64 0, .slice none 0 0, .int .i64 0, .int .i64 0]) (t := 50) ?hr ?_; (case hd => rfl); (case hg => rfl); (case hr => first | (go_simp; done) | (go_simp; rfl)); intro gb182 hg w7 hbox hb; have n0_ := Aside0.mk (blk_below (g := gb180) (o := .cells #[.slice A0_0 l0_0.length c0_0, .int .i64 a0_1, .int .i64 a0_2, .slice A0_3 l0_3.length c0_3, .int .i64 a0_4, .slice A0_5 l0_5.length c0_5, .int .i64 a0_6, .int .i64 a0_7] 65 (0, 0)) (by (with_reducible repeat (first | refine blk_drewN ?_ _ | refine blk_drew ?_ | refine blk_alloc ?_ _)); exact BK180.out) hb); have n1_ := Aside0.mk (blk_below (g := gb181) (o := .cells #[.slice none 0 0, .int .i64 0, .int .i64 0, .slice none 0 0, .int .i64 0, .slice none 0 0, .int .i64 0, .int .i64 0] 50 (0, 0)) (by (with_reducible repeat (first | refine blk_drewN ?_ _ | refine blk_drew ?_ | refine blk_alloc ?_ _)); exact BK181.out) hb); have n2_ := Aside0.mk (below_step (by repeat (first | (with_reducible first | exact HB.out | apply below_alloc | apply pw_below_drewN | apply below_drew1 | refine below_set ?_ GE180.out | refine below_set ?_ GE181.out) | exact HB.out)) hb); have n3_ := Aside0.mk (hbox); have n4_ := Aside0.mk ((by rw [hg]; exact (below_size (by repeat (first | (with_reducible first | exact HB.out | apply below_alloc | apply pw_below_drewN | apply below_drew1 | refine below_set ?_ GE180.out | refine below_set ?_ GE181.out) | exact HB.out))) : w.heap.size ≤ gb182)); have n5_ := Aside0.mk ((by rw [hg]; exact (below_size (by repeat (first | (with_reducible first | exact HB.out | apply below_alloc | apply pw_below_drewN | apply below_drew1 | refine below_set ?_ GE180.out | refine below_set ?_ GE181.out) | exact HB.out))) : w.heap.size ≤ gb182)); have n6_ := Aside0.mk ((by rw [hg]; exact Nat.ne_of_lt (blk_lt (g := gb180) (o := .cells #[.slice A0_0 l0_0.length c0_0, .int .i64 a0_1, .int .i64 a0_2, .slice A0_3 l0_3.length c0_3, .int .i64 a0_4, .slice A0_5 l0_5.length c0_5, .int .i64 a0_6, .int .i64 a0_7] 65 (0, 0)) (by (with_reducible repeat (first | refine blk_drewN ?_ _ | refine blk_drew ?_ | refine blk_alloc ?_ _)); exact BK180.out)) : gb180 ≠ gb182)); have n7_ := Aside0.mk ((by rw [hg]; exact Nat.ne_of_gt (blk_lt (g := gb180) (o := .cells #[.slice A0_0 l0_0.length c0_0, .int .i64 a0_1, .int .i64 a0_2, .slice A0_3 l0_3.length c0_3, .int .i64 a0_4, .slice A0_5 l0_5.length c0_5, .int .i64 a0_6, .int .i64 a0_7] 65 (0, 0)) (by (with_reducible repeat (first | refine blk_drewN ?_ _ | refine blk_drew ?_ | refine blk_alloc ?_ _)); exact BK180.out)) : gb182 ≠ gb180)); have n8_ := Aside0.mk ((by rw [hg]; exact Nat.ne_of_lt (blk_lt (g := gb181) (o := .cells #[.slice none 0 0, .int .i64 0, .int .i64 0, .slice none 0 0, .int .i64 0, .slice none 0 0, .int .i64 0, .int .i64 0] 50 (0, 0)) (by (with_reducible repeat (first | refine blk_drewN ?_ _ | refine blk_drew ?_ | refine blk_alloc ?_ _)); exact BK181.out)) : gb181 ≠ gb182)); have n9_ := Aside0.mk ((by rw [hg]; exact Nat.ne_of_gt (blk_lt (g := gb181) (o := .cells #[.slice none 0 0, .int .i64 0, .int .i64 0, .slice none 0 0, .int .i64 0, .slice none 0 0, .int .i64 0, .int .i64 0] 50 (0, 0)) (by (with_reducible repeat (first | refine blk_drewN ?_ _ | refine blk_drew ?_ | refine blk_alloc ?_ _)); exact BK181.out)) : gb182 ≠ gb181)); clear BK180; clear BK181; clear HB; have BK180 := n0_; have BK181 := n1_; have HB := n2_; have BK182 := n3_; have GW182 := n4_; have GE182 := n5_; have NB180_182 := n6_; have NB182_180 := n7_; have NB181_182 := n8_; have NB182_181 := n9_; clear n0_ n1_ n2_ n3_ n4_ n5_ n6_ n7_ n8_ n9_; clear hb hbox hg; have hnb8 := NB180_181.out; have hnc8 := NB181_180.out; have hnb9 := NB180_182.out; have hnc9 := NB182_180.out; have hcz10_0 : w7.cell? ⟨gb180, 0, none⟩ = some (.slice A0_0 l0_0.length c0_0) := (blk_cell BK180.out 0).trans rfl; have hcz10_1 : w7.cell? ⟨gb180, 1, none⟩ = some (.int .i64 a0_1) := (blk_cell BK180.out 1).trans rfl; have hcz10_2 : w7.cell? ⟨gb180, 2, none⟩ = some (.int .i64 a0_2) := (blk_cell BK180.out 2).trans rfl; have hcz10_3 : w7.cell? ⟨gb180, 3, none⟩ = some (.slice A0_3 l0_3.length c0_3) := (blk_cell BK180.out 3).trans rfl; have hcz10_4 : w7.cell? ⟨gb180, 4, none⟩ = some (.int .i64 a0_4) := (blk_cell BK180.out 4).trans rfl; have hcz10_5 : w7.cell? ⟨gb180, 5, none⟩ = some (.slice A0_5 l0_5.length c0_5) := (blk_cell BK180.out 5).trans rfl; have hcz10_6 : w7.cell? ⟨gb180, 6, none⟩ = some (.int .i64 a0_6) := (blk_cell BK180.out 6).trans rfl; have hcz10_7 : w7.cell? ⟨gb180, 7, none⟩ = some (.int .i64 a0_7) := (blk_cell BK180.out 7).trans rfl; have hfz10_0 := blk_frozen BK180.out 0; have hfz10_1 := blk_frozen BK180.out 1; have hfz10_2 := blk_frozen BK180.out 2; have hfz10_3 := blk_frozen BK180.out 3; have hfz10_4 := blk_frozen BK180.out 4; have hfz10_5 := blk_frozen BK180.out 5; have hfz10_6 := blk_frozen BK180.out 6; have hfz10_7 := blk_frozen BK180.out 7) | ((with_reducible refine gate_callee (f := 37) rfl ?_); refine goesL_ (some 6) rfl rfl Try.func37 (by kernel_rfl) rfl #[.agg #[.slice A0_0 l0_0.length c0_0, .int .i64 a0_1, .int .i64 a0_2]] rfl (by (try simp only [List.map_toArray, List.map_cons, List.map_nil]); first | done | rfl | (simp only [List.length_drop, List.length_take]; rfl)) ?_; (with_reducible refine (laws_toFrame.calls k _ _ l0_0 a0_1 a0_2 t183 t186 t187 _ ?side1 ?side2 A2.out).mono ?_); (case side1 => repeat (first | exact (Kd.C_below HR0_0.out HB.out) | (with_reducible refine Kd.C_alloc ?_ _) | (with_reducible refine Kd.C_drewN ?_ _) | (with_reducible refine Kd.C_drew ?_))); (case side2 => exact HC0_0.out); rintro e w11 ⟨v184, rfl, ho0, hb⟩; refine ⟨_, rfl, ?_⟩; have n0_ := Aside0.mk (Kd.R_lower ho0 (below_size (by repeat (first | (with_reducible first | exact HB.out | apply below_alloc | apply pw_below_drewN | apply below_drew1 | refine below_set ?_ GE180.out | refine below_set ?_ GE181.out | refine below_set ?_ GE182.out) | exact HB.out)))); have n1_ := Aside0.mk (blk_below (g := gb180) (o := .cells #[.slice A0_0 l0_0.length c0_0, .int .i64 a0_1, .int .i64 a0_2, .slice A0_3 l0_3.length c0_3, .int .i64 a0_4, .slice A0_5 l0_5.length c0_5, .int .i64 a0_6, .int .i64 a0_7] 65 (0, 0)) (by (with_reducible repeat (first | refine blk_drewN ?_ _ | refine blk_drew ?_ | refine blk_alloc ?_ _)); exact BK180.out) hb); have n2_ := Aside0.mk (blk_below (g := gb181) (o := .cells #[.slice none 0 0, .int .i64 0, .int .i64 0, .slice none 0 0, .int .i64 0, .slice none 0 0, .int .i64 0, .int .i64 0] 50 (0, 0)) (by (with_reducible repeat (first | refine blk_drewN ?_ _ | refine blk_drew ?_ | refine blk_alloc ?_ _)); exact BK181.out) hb); have n3_ := Aside0.mk (blk_below (g := gb182) (o := .cells #[.slice none 0 0, .int .i64 0, .int .i64 0, .slice none 0 0, .int .i64 0, .slice none 0 0, .int .i64 0, .int .i64 0] 50 (0, 0)) (by (with_reducible repeat (first | refine blk_drewN ?_ _ | refine blk_drew ?_ | refine blk_alloc ?_ _)); exact BK182.out) hb); have n4_ := Aside0.mk (below_step (by repeat (first | (with_reducible first | exact HB.out | apply below_alloc | apply pw_below_drewN | apply below_drew1 | refine below_set ?_ GE180.out | refine below_set ?_ GE181.out | refine below_set ?_ GE182.out) | exact HB.out)) hb); clear BK180; clear BK181; clear BK182; clear HB; have HO185 := n0_; have BK180 := n1_; have BK181 := n2_; have BK182 := n3_; have HB := n4_; clear n0_ n1_ n2_ n3_ n4_; (try clear hb); (try clear hb2); (try clear hk); (try clear hi); (try clear ho0); obtain ⟨Ao12, co12, eo12⟩ := Kd.R_slice HO185.out; subst eo12; have hnb13 := NB182_181.out; have hnc13 := NB181_182.out; have hcz14_0 : w11.cell? ⟨gb182, 0, none⟩ = some (.slice none 0 0) := (blk_cell BK182.out 0).trans rfl; have hcz14_1 : w11.cell? ⟨gb182, 1, none⟩ = some (.int .i64 0) := (blk_cell BK182.out 1).trans rfl; have hcz14_2 : w11.cell? ⟨gb182, 2, none⟩ = some (.int .i64 0) := (blk_cell BK182.out 2).trans rfl; have hcz14_3 : w11.cell? ⟨gb182, 3, none⟩ = some (.slice none 0 0) := (blk_cell BK182.out 3).trans rfl; have hcz14_4 : w11.cell? ⟨gb182, 4, none⟩ = some (.int .i64 0) := (blk_cell BK182.out 4).trans rfl; have hcz14_5 : w11.cell? ⟨gb182, 5, none⟩ = some (.slice none 0 0) := (blk_cell BK182.out 5).trans rfl; have hcz14_6 : w11.cell? ⟨gb182, 6, none⟩ = some (.int .i64 0) := (blk_cell BK182.out 6).trans rfl; have hcz14_7 : w11.cell? ⟨gb182, 7, none⟩ = some (.int .i64 0) := (blk_cell BK182.out 7).trans rfl; have hfz14_0 := blk_frozen BK182.out 0; have hfz14_1 := blk_frozen BK182.out 1; have hfz14_2 := blk_frozen BK182.out 2; have hfz14_3 := blk_frozen BK182.out 3; have hfz14_4 := blk_frozen BK182.out 4; have hfz14_5 := blk_frozen BK182.out 5; have hfz14_6 := blk_frozen BK182.out 6; have hfz14_7 := blk_frozen BK182.out 7; have hcz15_0 : w11.cell? ⟨gb180, 0, none⟩ = some (.slice A0_0 l0_0.length c0_0) := (blk_cell BK180.out 0).trans rfl; have hcz15_1 : w11.cell? ⟨gb180, 1, none⟩ = some (.int .i64 a0_1) := (blk_cell BK180.out 1).trans rfl; have hcz15_2 : w11.cell? ⟨gb180, 2, none⟩ = some (.int .i64 a0_2) := (blk_cell BK180.out 2).trans rfl; have hcz15_3 : w11.cell? ⟨gb180, 3, none⟩ = some (.slice A0_3 l0_3.length c0_3) := (blk_cell BK180.out 3).trans rfl; have hcz15_4 : w11.cell? ⟨gb180, 4, none⟩ = some (.int .i64 a0_4) := (blk_cell BK180.out 4).trans rfl; have hcz15_5 : w11.cell? ⟨gb180, 5, none⟩ = some (.slice A0_5 l0_5.length c0_5) := (blk_cell BK180.out 5).trans rfl; have hcz15_6 : w11.cell? ⟨gb180, 6, none⟩ = some (.int .i64 a0_6) := (blk_cell BK180.out 6).trans rfl; have hcz15_7 : w11.cell? ⟨gb180, 7, none⟩ = some (.int .i64 a0_7) := (blk_cell BK180.out 7).trans rfl; have hfz15_0 := blk_frozen BK180.out 0; have hfz15_1 := blk_frozen BK180.out 1; have hfz15_2 := blk_frozen BK180.out 2; have hfz15_3 := blk_frozen BK180.out 3; have hfz15_4 := blk_frozen BK180.out 4; have hfz15_5 := blk_frozen BK180.out 5; have hfz15_6 := blk_frozen BK180.out 6; have hfz15_7 := blk_frozen BK180.out 7) | ((with_reducible refine gate_callee (f := 49) rfl ?_); refine goesL_ (some 10) rfl rfl Try.func49 (by kernel_rfl) rfl #[.agg #[.slice A0_3 l0_3.length c0_3, .int .i64 a0_4]] rfl (by (try simp only [List.map_toArray, List.map_cons, List.map_nil]); first | done | rfl | (simp only [List.length_drop, List.length_take]; rfl)) ?_; (with_reducible refine (laws_toLedger.calls k _ _ l0_3 a0_4 t188 t191 _ ?side1 ?side2 A3.out).mono ?_); (case side1 => exact Kd.C_below HR0_3.out (by repeat (first | (with_reducible first | exact HB.out | apply below_alloc | apply pw_below_drewN | apply below_drew1 | refine below_set ?_ GE180.out | refine below_set ?_ GE181.out | refine below_set ?_ GE182.out) | exact HB.out))); (case side2 => exact HC0_3.out); rintro e w16 ⟨v189, rfl, ho0, hb⟩; refine ⟨_, rfl, ?_⟩; have n0_ := Aside0.mk (Kd.R_below (by (with_reducible repeat (first | apply Kd.R_alloc | apply Kd.R_drewN | apply Kd.R_drew)); exact (Kd.R_mono (Kd.R_far (p := ⟨gb182, 2, none⟩) (Kd.R_far (p := ⟨gb182, 1, none⟩) (Kd.R_far (p := ⟨gb182, 0, none⟩) (Kd.R_types HO185.out BK182.out (by decide)) (fun _ hk => hk.2) (.slice Ao12 t183.length co12)) (fun _ hk => hk.2) (.int .i64 t186)) (fun _ hk => hk.2) (.int .i64 t187)) (fun _ h_ => h_.1))) hb); have n1_ := Aside0.mk (Kd.S_lower ho0 (below_size (by repeat (first | (with_reducible first | exact HB.out | apply below_alloc | apply pw_below_drewN | apply below_drew1 | refine below_set ?_ GE180.out | refine below_set ?_ GE181.out | refine below_set ?_ GE182.out) | exact HB.out)))); have n2_ := Aside0.mk (blk_below (g := gb180) (o := .cells #[.slice A0_0 l0_0.length c0_0, .int .i64 a0_1, .int .i64 a0_2, .slice A0_3 l0_3.length c0_3, .int .i64 a0_4, .slice A0_5 l0_5.length c0_5, .int .i64 a0_6, .int .i64 a0_7] 65 (0, 0)) (by (with_reducible repeat (first | refine blk_drewN ?_ _ | refine blk_drew ?_ | refine blk_alloc ?_ _)); refine blk_far ?_ NB180_182.out _; (with_reducible repeat (first | refine blk_drewN ?_ _ | refine blk_drew ?_ | refine blk_alloc ?_ _)); refine blk_far ?_ NB180_182.out _; (with_reducible repeat (first | refine blk_drewN ?_ _ | refine blk_drew ?_ | refine blk_alloc ?_ _)); refine blk_far ?_ NB180_182.out _; (with_reducible repeat (first | refine blk_drewN ?_ _ | refine blk_drew ?_ | refine blk_alloc ?_ _)); exact BK180.out) hb); have n3_ := Aside0.mk (blk_below (g := gb181) (o := .cells #[.slice none 0 0, .int .i64 0, .int .i64 0, .slice none 0 0, .int .i64 0, .slice none 0 0, .int .i64 0, .int .i64 0] 50 (0, 0)) (by (with_reducible repeat (first | refine blk_drewN ?_ _ | refine blk_drew ?_ | refine blk_alloc ?_ _)); refine blk_far ?_ NB181_182.out _; (with_reducible repeat (first | refine blk_drewN ?_ _ | refine blk_drew ?_ | refine blk_alloc ?_ _)); refine blk_far ?_ NB181_182.out _; (with_reducible repeat (first | refine blk_drewN ?_ _ | refine blk_drew ?_ | refine blk_alloc ?_ _)); refine blk_far ?_ NB181_182.out _; (with_reducible repeat (first | refine blk_drewN ?_ _ | refine blk_drew ?_ | refine blk_alloc ?_ _)); exact BK181.out) hb); have n4_ := Aside0.mk (blk_below (g := gb182) (o := .cells #[.slice Ao12 t183.length co12, .int .i64 t186, .int .i64 t187, .slice none 0 0, .int .i64 0, .slice none 0 0, .int .i64 0, .int .i64 0] 50 (0, 0)) (by (with_reducible repeat (first | refine blk_drewN ?_ _ | refine blk_drew ?_ | refine blk_alloc ?_ _)); refine blk_put (cs := #[.slice Ao12 t183.length co12, .int .i64 t186, .int .i64 0, .slice none 0 0, .int .i64 0, .slice none 0 0, .int .i64 0, .int .i64 0]) ?_ 2 _ rfl; (with_reducible repeat (first | refine blk_drewN ?_ _ | refine blk_drew ?_ | refine blk_alloc ?_ _)); refine blk_put (cs := #[.slice Ao12 t183.length co12, .int .i64 0, .int .i64 0, .slice none 0 0, .int .i64 0, .slice none 0 0, .int .i64 0, .int .i64 0]) ?_ 1 _ rfl; (with_reducible repeat (first | refine blk_drewN ?_ _ | refine blk_drew ?_ | refine blk_alloc ?_ _)); refine blk_put (cs := #[.slice none 0 0, .int .i64 0, .int .i64 0, .slice none 0 0, .int .i64 0, .slice none 0 0, .int .i64 0, .int .i64 0]) ?_ 0 _ rfl; (with_reducible repeat (first | refine blk_drewN ?_ _ | refine blk_drew ?_ | refine blk_alloc ?_ _)); exact BK182.out) hb); have n5_ := Aside0.mk (below_step (by repeat (first | (with_reducible first | exact HB.out | apply below_alloc | apply pw_below_drewN | apply below_drew1 | refine below_set ?_ GE180.out | refine below_set ?_ GE181.out | refine below_set ?_ GE182.out) | exact HB.out)) hb); clear HO185; clear BK180; clear BK181; clear BK182; clear HB; have HO185 := n0_; have HO190 := n1_; have BK180 := n2_; have BK181 := n3_; have BK182 := n4_; have HB := n5_; clear n0_ n1_ n2_ n3_ n4_ n5_; (try clear hb); (try clear hb2); (try clear hk); (try clear hi); (try clear ho0); obtain ⟨Ao17, co17, eo17⟩ := Kd.S_slice HO190.out; subst eo17; have hcz18_0 : w16.cell? ⟨gb182, 0, none⟩ = some (.slice Ao12 t183.length co12) := (blk_cell BK182.out 0).trans rfl; have hcz18_1 : w16.cell? ⟨gb182, 1, none⟩ = some (.int .i64 t186) := (blk_cell BK182.out 1).trans rfl; have hcz18_2 : w16.cell? ⟨gb182, 2, none⟩ = some (.int .i64 t187) := (blk_cell BK182.out 2).trans rfl; have hcz18_3 : w16.cell? ⟨gb182, 3, none⟩ = some (.slice none 0 0) := (blk_cell BK182.out 3).trans rfl; have hcz18_4 : w16.cell? ⟨gb182, 4, none⟩ = some (.int .i64 0) := (blk_cell BK182.out 4).trans rfl; have hcz18_5 : w16.cell? ⟨gb182, 5, none⟩ = some (.slice none 0 0) := (blk_cell BK182.out 5).trans rfl; have hcz18_6 : w16.cell? ⟨gb182, 6, none⟩ = some (.int .i64 0) := (blk_cell BK182.out 6).trans rfl; have hcz18_7 : w16.cell? ⟨gb182, 7, none⟩ = some (.int .i64 0) := (blk_cell BK182.out 7).trans rfl; have hfz18_0 := blk_frozen BK182.out 0; have hfz18_1 := blk_frozen BK182.out 1; have hfz18_2 := blk_frozen BK182.out 2; have hfz18_3 := blk_frozen BK182.out 3; have hfz18_4 := blk_frozen BK182.out 4; have hfz18_5 := blk_frozen BK182.out 5; have hfz18_6 := blk_frozen BK182.out 6; have hfz18_7 := blk_frozen BK182.out 7; have hcz19_0 : w16.cell? ⟨gb180, 0, none⟩ = some (.slice A0_0 l0_0.length c0_0) := (blk_cell BK180.out 0).trans rfl; have hcz19_1 : w16.cell? ⟨gb180, 1, none⟩ = some (.int .i64 a0_1) := (blk_cell BK180.out 1).trans rfl; have hcz19_2 : w16.cell? ⟨gb180, 2, none⟩ = some (.int .i64 a0_2) := (blk_cell BK180.out 2).trans rfl; have hcz19_3 : w16.cell? ⟨gb180, 3, none⟩ = some (.slice A0_3 l0_3.length c0_3) := (blk_cell BK180.out 3).trans rfl; have hcz19_4 : w16.cell? ⟨gb180, 4, none⟩ = some (.int .i64 a0_4) := (blk_cell BK180.out 4).trans rfl; have hcz19_5 : w16.cell? ⟨gb180, 5, none⟩ = some (.slice A0_5 l0_5.length c0_5) := (blk_cell BK180.out 5).trans rfl; have hcz19_6 : w16.cell? ⟨gb180, 6, none⟩ = some (.int .i64 a0_6) := (blk_cell BK180.out 6).trans rfl; have hcz19_7 : w16.cell? ⟨gb180, 7, none⟩ = some (.int .i64 a0_7) := (blk_cell BK180.out 7).trans rfl; have hfz19_0 := blk_frozen BK180.out 0; have hfz19_1 := blk_frozen BK180.out 1; have hfz19_2 := blk_frozen BK180.out 2; have hfz19_3 := blk_frozen BK180.out 3; have hfz19_4 := blk_frozen BK180.out 4; have hfz19_5 := blk_frozen BK180.out 5; have hfz19_6 := blk_frozen BK180.out 6; have hfz19_7 := blk_frozen BK180.out 7) | ((with_reducible refine gate_callee (f := 38) rfl ?_); refine goesL_ (some 14) rfl rfl Try.func38 (by kernel_rfl) rfl #[.slice A0_5 l0_5.length c0_5] rfl (by (try simp only [List.map_toArray, List.map_cons, List.map_nil]); first | done | rfl | (simp only [List.length_drop, List.length_take]; rfl)) ?_; (with_reducible refine (laws_toPeriodS.calls k _ _ l0_5 t192 _ ?side1 ?side2 A4.out).mono ?_); (case side1 => exact Kd.C_below HR0_5.out (by repeat (first | (with_reducible first | exact HB.out | apply below_alloc | apply pw_below_drewN | apply below_drew1 | refine below_set ?_ GE180.out | refine below_set ?_ GE181.out | refine below_set ?_ GE182.out) | exact HB.out))); (case side2 => exact HC0_5.out); rintro e w20 ⟨v193, rfl, ho0, hb⟩; refine ⟨_, rfl, ?_⟩; have n0_ := Aside0.mk (Kd.R_below (by (with_reducible repeat (first | apply Kd.R_alloc | apply Kd.R_drewN | apply Kd.R_drew)); exact (Kd.R_mono (Kd.R_far (p := ⟨gb182, 4, none⟩) (Kd.R_far (p := ⟨gb182, 3, none⟩) (Kd.R_types HO185.out BK182.out (by decide)) (fun _ hk => hk.2) (.slice Ao17 t188.length co17)) (fun _ hk => hk.2) (.int .i64 t191)) (fun _ h_ => h_.1))) hb); have n1_ := Aside0.mk (Kd.S_below (by (with_reducible repeat (first | apply Kd.S_alloc | apply Kd.S_drewN | apply Kd.S_drew)); exact (Kd.S_mono (Kd.S_far (p := ⟨gb182, 4, none⟩) (Kd.S_far (p := ⟨gb182, 3, none⟩) (Kd.S_types HO190.out BK182.out (by decide)) (fun _ hk => hk.2) (.slice Ao17 t188.length co17)) (fun _ hk => hk.2) (.int .i64 t191)) (fun _ h_ => h_.1))) hb); have n2_ := Aside0.mk (Kd.R_lower ho0 (below_size (by repeat (first | (with_reducible first | exact HB.out | apply below_alloc | apply pw_below_drewN | apply below_drew1 | refine below_set ?_ GE180.out | refine below_set ?_ GE181.out | refine below_set ?_ GE182.out) | exact HB.out)))); have n3_ := Aside0.mk (blk_below (g := gb180) (o := .cells #[.slice A0_0 l0_0.length c0_0, .int .i64 a0_1, .int .i64 a0_2, .slice A0_3 l0_3.length c0_3, .int .i64 a0_4, .slice A0_5 l0_5.length c0_5, .int .i64 a0_6, .int .i64 a0_7] 65 (0, 0)) (by (with_reducible repeat (first | refine blk_drewN ?_ _ | refine blk_drew ?_ | refine blk_alloc ?_ _)); refine blk_far ?_ NB180_182.out _; (with_reducible repeat (first | refine blk_drewN ?_ _ | refine blk_drew ?_ | refine blk_alloc ?_ _)); refine blk_far ?_ NB180_182.out _; (with_reducible repeat (first | refine blk_drewN ?_ _ | refine blk_drew ?_ | refine blk_alloc ?_ _)); exact BK180.out) hb); have n4_ := Aside0.mk (blk_below (g := gb181) (o := .cells #[.slice none 0 0, .int .i64 0, .int .i64 0, .slice none 0 0, .int .i64 0, .slice none 0 0, .int .i64 0, .int .i64 0] 50 (0, 0)) (by (with_reducible repeat (first | refine blk_drewN ?_ _ | refine blk_drew ?_ | refine blk_alloc ?_ _)); refine blk_far ?_ NB181_182.out _; (with_reducible repeat (first | refine blk_drewN ?_ _ | refine blk_drew ?_ | refine blk_alloc ?_ _)); refine blk_far ?_ NB181_182.out _; (with_reducible repeat (first | refine blk_drewN ?_ _ | refine blk_drew ?_ | refine blk_alloc ?_ _)); exact BK181.out) hb); have n5_ := Aside0.mk (blk_below (g := gb182) (o := .cells #[.slice Ao12 t183.length co12, .int .i64 t186, .int .i64 t187, .slice Ao17 t188.length co17, .int .i64 t191, .slice none 0 0, .int .i64 0, .int .i64 0] 50 (0, 0)) (by (with_reducible repeat (first | refine blk_drewN ?_ _ | refine blk_drew ?_ | refine blk_alloc ?_ _)); refine blk_put (cs := #[.slice Ao12 t183.length co12, .int .i64 t186, .int .i64 t187, .slice Ao17 t188.length co17, .int .i64 0, .slice none 0 0, .int .i64 0, .int .i64 0]) ?_ 4 _ rfl; (with_reducible repeat (first | refine blk_drewN ?_ _ | refine blk_drew ?_ | refine blk_alloc ?_ _)); refine blk_put (cs := #[.slice Ao12 t183.length co12, .int .i64 t186, .int .i64 t187, .slice none 0 0, .int .i64 0, .slice none 0 0, .int .i64 0, .int .i64 0]) ?_ 3 _ rfl; (with_reducible repeat (first | refine blk_drewN ?_ _ | refine blk_drew ?_ | refine blk_alloc ?_ _)); exact BK182.out) hb); have n6_ := Aside0.mk (below_step (by repeat (first | (with_reducible first | exact HB.out | apply below_alloc | apply pw_below_drewN | apply below_drew1 | refine below_set ?_ GE180.out | refine below_set ?_ GE181.out | refine below_set ?_ GE182.out) | exact HB.out)) hb); clear HO185; clear HO190; clear BK180; clear BK181; clear BK182; clear HB; have HO185 := n0_; have HO190 := n1_; have HO194 := n2_; have BK180 := n3_; have BK181 := n4_; have BK182 := n5_; have HB := n6_; clear n0_ n1_ n2_ n3_ n4_ n5_ n6_; (try clear hb); (try clear hb2); (try clear hk); (try clear hi); (try clear ho0); obtain ⟨Ao21, co21, eo21⟩ := Kd.R_slice HO194.out; subst eo21; have hcz22_0 : w20.cell? ⟨gb182, 0, none⟩ = some (.slice Ao12 t183.length co12) := (blk_cell BK182.out 0).trans rfl; have hcz22_1 : w20.cell? ⟨gb182, 1, none⟩ = some (.int .i64 t186) := (blk_cell BK182.out 1).trans rfl; have hcz22_2 : w20.cell? ⟨gb182, 2, none⟩ = some (.int .i64 t187) := (blk_cell BK182.out 2).trans rfl; have hcz22_3 : w20.cell? ⟨gb182, 3, none⟩ = some (.slice Ao17 t188.length co17) := (blk_cell BK182.out 3).trans rfl; have hcz22_4 : w20.cell? ⟨gb182, 4, none⟩ = some (.int .i64 t191) := (blk_cell BK182.out 4).trans rfl; have hcz22_5 : w20.cell? ⟨gb182, 5, none⟩ = some (.slice none 0 0) := (blk_cell BK182.out 5).trans rfl; have hcz22_6 : w20.cell? ⟨gb182, 6, none⟩ = some (.int .i64 0) := (blk_cell BK182.out 6).trans rfl; have hcz22_7 : w20.cell? ⟨gb182, 7, none⟩ = some (.int .i64 0) := (blk_cell BK182.out 7).trans rfl; have hfz22_0 := blk_frozen BK182.out 0; have hfz22_1 := blk_frozen BK182.out 1; have hfz22_2 := blk_frozen BK182.out 2; have hfz22_3 := blk_frozen BK182.out 3; have hfz22_4 := blk_frozen BK182.out 4; have hfz22_5 := blk_frozen BK182.out 5; have hfz22_6 := blk_frozen BK182.out 6; have hfz22_7 := blk_frozen BK182.out 7; have hcz23_0 : w20.cell? ⟨gb180, 0, none⟩ = some (.slice A0_0 l0_0.length c0_0) := (blk_cell BK180.out 0).trans rfl; have hcz23_1 : w20.cell? ⟨gb180, 1, none⟩ = some (.int .i64 a0_1) := (blk_cell BK180.out 1).trans rfl; have hcz23_2 : w20.cell? ⟨gb180, 2, none⟩ = some (.int .i64 a0_2) := (blk_cell BK180.out 2).trans rfl; have hcz23_3 : w20.cell? ⟨gb180, 3, none⟩ = some (.slice A0_3 l0_3.length c0_3) := (blk_cell BK180.out 3).trans rfl; have hcz23_4 : w20.cell? ⟨gb180, 4, none⟩ = some (.int .i64 a0_4) := (blk_cell BK180.out 4).trans rfl; have hcz23_5 : w20.cell? ⟨gb180, 5, none⟩ = some (.slice A0_5 l0_5.length c0_5) := (blk_cell BK180.out 5).trans rfl; have hcz23_6 : w20.cell? ⟨gb180, 6, none⟩ = some (.int .i64 a0_6) := (blk_cell BK180.out 6).trans rfl; have hcz23_7 : w20.cell? ⟨gb180, 7, none⟩ = some (.int .i64 a0_7) := (blk_cell BK180.out 7).trans rfl; have hfz23_0 := blk_frozen BK180.out 0; have hfz23_1 := blk_frozen BK180.out 1; have hfz23_2 := blk_frozen BK180.out 2; have hfz23_3 := blk_frozen BK180.out 3; have hfz23_4 := blk_frozen BK180.out 4; have hfz23_5 := blk_frozen BK180.out 5; have hfz23_6 := blk_frozen BK180.out 6; have hfz23_7 := blk_frozen BK180.out 7; have hcz24_0 : w20.cell? ⟨gb181, 0, none⟩ = some (.slice none 0 0) := (blk_cell BK181.out 0).trans rfl; have hcz24_1 : w20.cell? ⟨gb181, 1, none⟩ = some (.int .i64 0) := (blk_cell BK181.out 1).trans rfl; have hcz24_2 : w20.cell? ⟨gb181, 2, none⟩ = some (.int .i64 0) := (blk_cell BK181.out 2).trans rfl; have hcz24_3 : w20.cell? ⟨gb181, 3, none⟩ = some (.slice none 0 0) := (blk_cell BK181.out 3).trans rfl; have hcz24_4 : w20.cell? ⟨gb181, 4, none⟩ = some (.int .i64 0) := (blk_cell BK181.out 4).trans rfl; have hcz24_5 : w20.cell? ⟨gb181, 5, none⟩ = some (.slice none 0 0) := (blk_cell BK181.out 5).trans rfl; have hcz24_6 : w20.cell? ⟨gb181, 6, none⟩ = some (.int .i64 0) := (blk_cell BK181.out 6).trans rfl; have hcz24_7 : w20.cell? ⟨gb181, 7, none⟩ = some (.int .i64 0) := (blk_cell BK181.out 7).trans rfl; have hfz24_0 := blk_frozen BK181.out 0; have hfz24_1 := blk_frozen BK181.out 1; have hfz24_2 := blk_frozen BK181.out 2; have hfz24_3 := blk_frozen BK181.out 3; have hfz24_4 := blk_frozen BK181.out 4; have hfz24_5 := blk_frozen BK181.out 5; have hfz24_6 := blk_frozen BK181.out 6; have hfz24_7 := blk_frozen BK181.out 7))
  refine bodyPost_ret (results_cell_row rfl _ _ gb181 50 #[.slice Ao12 t183.length co12, .int .i64 t186, .int .i64 t187, .slice Ao17 t188.length co17, .int .i64 t191, .slice Ao21 t192.length co21, .int .i64 a0_6, .int .i64 a0_7] (0, 0) _ rfl (by (with_reducible repeat (first | refine blk_drewN ?_ _ | refine blk_drew ?_ | refine blk_alloc ?_ _)); refine blk_put (cs := #[.slice Ao12 t183.length co12, .int .i64 t186, .int .i64 t187, .slice Ao17 t188.length co17, .int .i64 t191, .slice Ao21 t192.length co21, .int .i64 a0_6, .int .i64 0]) ?_ 7 _ rfl; (with_reducible repeat (first | refine blk_drewN ?_ _ | refine blk_drew ?_ | refine blk_alloc ?_ _)); refine blk_put (cs := #[.slice Ao12 t183.length co12, .int .i64 t186, .int .i64 t187, .slice Ao17 t188.length co17, .int .i64 t191, .slice Ao21 t192.length co21, .int .i64 0, .int .i64 0]) ?_ 6 _ rfl; (with_reducible repeat (first | refine blk_drewN ?_ _ | refine blk_drew ?_ | refine blk_alloc ?_ _)); refine blk_put (cs := #[.slice Ao12 t183.length co12, .int .i64 t186, .int .i64 t187, .slice Ao17 t188.length co17, .int .i64 t191, .slice none 0 0, .int .i64 0, .int .i64 0]) ?_ 5 _ rfl; (with_reducible repeat (first | refine blk_drewN ?_ _ | refine blk_drew ?_ | refine blk_alloc ?_ _)); refine blk_put (cs := #[.slice Ao12 t183.length co12, .int .i64 t186, .int .i64 t187, .slice Ao17 t188.length co17, .int .i64 0, .slice none 0 0, .int .i64 0, .int .i64 0]) ?_ 4 _ rfl; (with_reducible repeat (first | refine blk_drewN ?_ _ | refine blk_drew ?_ | refine blk_alloc ?_ _)); refine blk_put (cs := #[.slice Ao12 t183.length co12, .int .i64 t186, .int .i64 t187, .slice none 0 0, .int .i64 0, .slice none 0 0, .int .i64 0, .int .i64 0]) ?_ 3 _ rfl; (with_reducible repeat (first | refine blk_drewN ?_ _ | refine blk_drew ?_ | refine blk_alloc ?_ _)); refine blk_put (cs := #[.slice Ao12 t183.length co12, .int .i64 t186, .int .i64 0, .slice none 0 0, .int .i64 0, .slice none 0 0, .int .i64 0, .int .i64 0]) ?_ 2 _ rfl; (with_reducible repeat (first | refine blk_drewN ?_ _ | refine blk_drew ?_ | refine blk_alloc ?_ _)); refine blk_put (cs := #[.slice Ao12 t183.length co12, .int .i64 0, .int .i64 0, .slice none 0 0, .int .i64 0, .slice none 0 0, .int .i64 0, .int .i64 0]) ?_ 1 _ rfl; (with_reducible repeat (first | refine blk_drewN ?_ _ | refine blk_drew ?_ | refine blk_alloc ?_ _)); refine blk_put (cs := #[.slice none 0 0, .int .i64 0, .int .i64 0, .slice none 0 0, .int .i64 0, .slice none 0 0, .int .i64 0, .int .i64 0]) ?_ 0 _ rfl; (with_reducible repeat (first | refine blk_drewN ?_ _ | refine blk_drew ?_ | refine blk_alloc ?_ _)); refine blk_far ?_ NB181_182.out _; (with_reducible repeat (first | refine blk_drewN ?_ _ | refine blk_drew ?_ | refine blk_alloc ?_ _)); refine blk_far ?_ NB181_182.out _; (with_reducible repeat (first | refine blk_drewN ?_ _ | refine blk_drew ?_ | refine blk_alloc ?_ _)); refine blk_far ?_ NB181_182.out _; (with_reducible repeat (first | refine blk_drewN ?_ _ | refine blk_drew ?_ | refine blk_alloc ?_ _)); exact BK181.out) Try.underlying50 rfl (by kernel_rfl)) rfl ?_
  exact ⟨_, _, _, by first | rfl | (simp [errW_none, errW_some] <;> rfl) | (simp [*, errW_none, errW_some] <;> rfl), by (with_reducible repeat (first | apply Kd.R_alloc | apply Kd.R_drewN | apply Kd.R_drew)); exact Kd.R_mono (Kd.R_far (p := ⟨gb181, 7, none⟩) (Kd.R_far (p := ⟨gb181, 6, none⟩) (Kd.R_far (p := ⟨gb181, 5, none⟩) (Kd.R_far (p := ⟨gb181, 4, none⟩) (Kd.R_far (p := ⟨gb181, 3, none⟩) (Kd.R_far (p := ⟨gb181, 2, none⟩) (Kd.R_far (p := ⟨gb181, 1, none⟩) (Kd.R_far (p := ⟨gb181, 0, none⟩) (Kd.R_far (p := ⟨gb182, 7, none⟩) (Kd.R_far (p := ⟨gb182, 6, none⟩) (Kd.R_far (p := ⟨gb182, 5, none⟩) (Kd.R_types (Kd.R_types HO185.out BK182.out (by decide)) BK181.out (by decide)) (fun _ hk => hk.1.2) (.slice Ao21 t192.length co21)) (fun _ hk => hk.1.2) (.int .i64 a0_6)) (fun _ hk => hk.1.2) (.int .i64 a0_7)) (fun _ hk => hk.2) (.slice Ao12 t183.length co12)) (fun _ hk => hk.2) (.int .i64 t186)) (fun _ hk => hk.2) (.int .i64 t187)) (fun _ hk => hk.2) (.slice Ao17 t188.length co17)) (fun _ hk => hk.2) (.int .i64 t191)) (fun _ hk => hk.2) (.slice Ao21 t192.length co21)) (fun _ hk => hk.2) (.int .i64 a0_6)) (fun _ hk => hk.2) (.int .i64 a0_7)) (fun _ hk => trivial), by (with_reducible repeat (first | apply Kd.S_alloc | apply Kd.S_drewN | apply Kd.S_drew)); exact Kd.S_mono (Kd.S_far (p := ⟨gb181, 7, none⟩) (Kd.S_far (p := ⟨gb181, 6, none⟩) (Kd.S_far (p := ⟨gb181, 5, none⟩) (Kd.S_far (p := ⟨gb181, 4, none⟩) (Kd.S_far (p := ⟨gb181, 3, none⟩) (Kd.S_far (p := ⟨gb181, 2, none⟩) (Kd.S_far (p := ⟨gb181, 1, none⟩) (Kd.S_far (p := ⟨gb181, 0, none⟩) (Kd.S_far (p := ⟨gb182, 7, none⟩) (Kd.S_far (p := ⟨gb182, 6, none⟩) (Kd.S_far (p := ⟨gb182, 5, none⟩) (Kd.S_types (Kd.S_types HO190.out BK182.out (by decide)) BK181.out (by decide)) (fun _ hk => hk.1.2) (.slice Ao21 t192.length co21)) (fun _ hk => hk.1.2) (.int .i64 a0_6)) (fun _ hk => hk.1.2) (.int .i64 a0_7)) (fun _ hk => hk.2) (.slice Ao12 t183.length co12)) (fun _ hk => hk.2) (.int .i64 t186)) (fun _ hk => hk.2) (.int .i64 t187)) (fun _ hk => hk.2) (.slice Ao17 t188.length co17)) (fun _ hk => hk.2) (.int .i64 t191)) (fun _ hk => hk.2) (.slice Ao21 t192.length co21)) (fun _ hk => hk.2) (.int .i64 a0_6)) (fun _ hk => hk.2) (.int .i64 a0_7)) (fun _ hk => trivial), by (with_reducible repeat (first | apply Kd.R_alloc | apply Kd.R_drewN | apply Kd.R_drew)); exact Kd.R_mono (Kd.R_far (p := ⟨gb181, 7, none⟩) (Kd.R_far (p := ⟨gb181, 6, none⟩) (Kd.R_far (p := ⟨gb181, 5, none⟩) (Kd.R_far (p := ⟨gb181, 4, none⟩) (Kd.R_far (p := ⟨gb181, 3, none⟩) (Kd.R_far (p := ⟨gb181, 2, none⟩) (Kd.R_far (p := ⟨gb181, 1, none⟩) (Kd.R_far (p := ⟨gb181, 0, none⟩) (Kd.R_far (p := ⟨gb182, 7, none⟩) (Kd.R_far (p := ⟨gb182, 6, none⟩) (Kd.R_far (p := ⟨gb182, 5, none⟩) (Kd.R_types (Kd.R_types HO194.out BK182.out (by decide)) BK181.out (by decide)) (fun _ hk => hk.1.2) (.slice Ao21 t192.length co21)) (fun _ hk => hk.1.2) (.int .i64 a0_6)) (fun _ hk => hk.1.2) (.int .i64 a0_7)) (fun _ hk => hk.2) (.slice Ao12 t183.length co12)) (fun _ hk => hk.2) (.int .i64 t186)) (fun _ hk => hk.2) (.int .i64 t187)) (fun _ hk => hk.2) (.slice Ao17 t188.length co17)) (fun _ hk => hk.2) (.int .i64 t191)) (fun _ hk => hk.2) (.slice Ao21 t192.length co21)) (fun _ hk => hk.2) (.int .i64 a0_6)) (fun _ hk => hk.2) (.int .i64 a0_7)) (fun _ hk => trivial), by repeat (first | (with_reducible first | exact HB.out | apply below_alloc | apply pw_below_drewN | apply below_drew1 | refine below_set ?_ GE180.out | refine below_set ?_ GE181.out | refine below_set ?_ GE182.out) | exact HB.out)⟩

end Go.Proofs.Ytphmnkcfjgallaa.Q
namespace Go.Proofs.Ytphmnkcfjgallaa.Q
open Go.RowKit Go.Proofs.YtphmnkcfjgallaaW.PrintWords Go.Proofs.YtphmnkcfjgallaaW.PrintLast Go.Proofs.YtphmnkcfjgallaaW.PrintMore
attribute [local go_sem] max2_int min2_int max_two min_two max_three min_three max_four min_four   -- for this text's walks alone
set_option linter.unusedVariables false
set_option linter.unusedSimpArgs false

/-! ### laws_szPeriodS: function 35 -/
def wf138 (x : S138) : Prop := (Lit.int .i64 x.f0).wf = true ∧ (Lit.int .i64 x.f1).wf = true
set_option maxHeartbeats 4000000 in
set_option maxRecDepth 100000 in
theorem laws_szPeriodS.calls (A0 : Option Addr) (c0 : Nat) (l0 : List (S138)) (a1 : Int) (w : World) (hr0 : Kd.C k138 w A0 l0.length l0) (h0 : 0 ≤ a1) (h1 : a1 ≤ 1048576) (hw : ∀ y ∈ l0, wf138 y) :
    Calls Try.prog 35 #[.slice A0 l0.length c0, .int .i64 a1] w (SzPost w a1 (l0.length ≤ 1048576)) := by
  have hl := hr0.2.1
  have H0 := Aside0.mk hr0
  have HW := Aside0.mk hw
  clear hr0 hw
  by_cases hn : a1 - (l0.length : Int) < 0
  · go_enter Try.func35, Try.ntmps35
    go_wp2_with fail
    go_ret
    exact ⟨-1, rfl, by omega, by omega, fun h => absurd h (by omega), Below.refl _ _⟩
  · go_enter Try.func35, Try.ntmps35
    go_wp2_with fail
    go_ret
    exact ⟨_, rfl, by omega, by omega, fun _ => by omega, Below.refl _ _⟩

end Go.Proofs.Ytphmnkcfjgallaa.Q
namespace Go.Proofs.Ytphmnkcfjgallaa.Q
open Go.RowKit Go.Proofs.YtphmnkcfjgallaaW.PrintWords Go.Proofs.YtphmnkcfjgallaaW.PrintLast Go.Proofs.YtphmnkcfjgallaaW.PrintMore
attribute [local go_sem] max2_int min2_int max_two min_two max_three min_three max_four min_four   -- for this text's walks alone
set_option linter.unusedVariables false
set_option linter.unusedSimpArgs false

/-! ### laws_szAccount: function 141 -/
def wf176 (x : S176) : Prop := x.f0.size ≤ maxLen ∧ (Lit.int .i64 x.f1).wf = true ∧ (Lit.int .i64 x.f2).wf = true
set_option maxHeartbeats 4000000 in
set_option maxRecDepth 100000 in
theorem laws_szAccount.calls (a0_0 : ByteArray) (a0_1 : Int) (a0_2 : Int) (a1 : Int) (w : World) (h0 : 0 ≤ a1) (h1 : a1 ≤ 1048576) (hw : wf176 ((⟨a0_0, a0_1, a0_2⟩ : S176) : S176)) :
    Calls Try.prog 141 #[.agg #[.string a0_0, .int .i64 a0_1, .int .i64 a0_2], .int .i64 a1] w (SzPost w a1 (True)) := by
  unfold wf176 at hw
  obtain ⟨g0, g1, g2⟩ := hw
  replace g0 : a0_0.size ≤ 9223372036854775807 := g0
  by_cases q0 : a1 - (a0_0.size : Int) < 0
  · go_enter Try.func141, Try.ntmps141
    go_wp2_with fail
    go_ret
    exact ⟨-1, rfl, by omega, by omega, fun h => absurd h (by omega), below_alloc (Below.refl _ _) _⟩
  · skip
    go_enter Try.func141, Try.ntmps141
    go_wp2_with fail
    go_ret
    exact ⟨_, rfl, by omega, by omega, fun _ => trivial, below_alloc (Below.refl _ _) _⟩

end Go.Proofs.Ytphmnkcfjgallaa.Q
namespace Go.Proofs.Ytphmnkcfjgallaa.Q
open Go.RowKit Go.Proofs.YtphmnkcfjgallaaW.PrintWords Go.Proofs.YtphmnkcfjgallaaW.PrintLast Go.Proofs.YtphmnkcfjgallaaW.PrintMore
attribute [local go_sem] max2_int min2_int max_two min_two max_three min_three max_four min_four   -- for this text's walks alone
set_option linter.unusedVariables false
set_option linter.unusedSimpArgs false

/-! ### laws_szAccountS: function 102 -/
set_option maxHeartbeats 4000000 in
set_option maxRecDepth 100000 in
theorem laws_szAccountS.calls (A0 : Option Addr) (c0 : Nat) (l0 : List (S176)) (a1 : Int) (w : World) (hr0 : Kd.C k176 w A0 l0.length l0) (h0 : 0 ≤ a1) (h1 : a1 ≤ 1048576) (hw : ∀ y ∈ l0, wf176 y) :
    Calls Try.prog 102 #[.slice A0 l0.length c0, .int .i64 a1] w (SzPost w a1 (l0.length ≤ 1048576)) := by
  have hl := hr0.2.1
  have H0 := Aside0.mk hr0
  have HW := Aside0.mk hw
  clear hr0 hw
  by_cases hn : a1 - (l0.length : Int) < 0
  · go_enter Try.func102, Try.ntmps102
    go_wp2_with fail
    go_ret
    exact ⟨-1, rfl, by omega, by omega, fun h => absurd h (by omega), Below.refl _ _⟩
  · go_enter Try.func102, Try.ntmps102
    go_wp2_with fail
    go_loopw [1, 5] (fun v u wr => ∃ left i : Int, 0 ≤ left ∧ left ≤ a1 - (l0.length : Int) ∧ v = .int .i64 left ∧ 0 ≤ i ∧ i ≤ (l0.length : Int) ∧ u = .int .i64 i ∧ Aside0 (Below w.heap.size w wr) ∧ Aside0 (True)) (fun _ u _ => (l0.length - (intOf u).toNat))
    case atStart => exact ⟨a1 - (l0.length : Int), 0, by omega, by omega, rfl, by omega, by omega, rfl, ⟨Below.refl _ _⟩, ⟨trivial⟩⟩
    case round =>
      obtain ⟨left, i, hL0, hL1, rfl, hi0, hi1, rfl, HB, HT⟩ := hrel
      by_cases hlt : i < (l0.length : Int)
      · obtain ⟨ad, ead, adx0, adx1, adx2⟩ := at_T176 (Kd.C_below H0.out HB.out) i hi0 hlt
        cases ead
        go_wp2_with fail
        refine (laws_szAccount.calls (rd_T176 l0 i).f0 (rd_T176 l0 i).f1 (rd_T176 l0 i).f2 left _ hL0 (by omega) (all_at (z := z176) hi0 hlt HW.out)).mono ?_
        rintro e w2 ⟨r, rfl, hr1, hr2, hr3, hb⟩
        have HR := Aside0.mk hr3
        have HB2 := Aside0.mk (below_into (w := w) hb (by repeat (first | exact HB.out | refine below_drew1 ?_)))
        clear hb hr3
        by_cases hr : r < 0
        · go_wp2_with fail
          go_ret
          exact ⟨-1, rfl, by omega, by omega, fun h => absurd h (by omega), HB2.out⟩
        · go_wp2_with fail
          go_roundw
          case rel => exact ⟨r, i + 1, by omega, by omega, rfl, by omega, by omega, rfl, HB2, ⟨trivial⟩⟩
          case measure => simp [intOf]; omega
      · go_wp2_with fail
        go_ret
        exact ⟨left, rfl, by omega, by omega, fun _ => by omega, HB.out⟩

end Go.Proofs.Ytphmnkcfjgallaa.Q
namespace Go.Proofs.Ytphmnkcfjgallaa.Q
open Go.RowKit Go.Proofs.YtphmnkcfjgallaaW.PrintWords Go.Proofs.YtphmnkcfjgallaaW.PrintLast Go.Proofs.YtphmnkcfjgallaaW.PrintMore
attribute [local go_sem] max2_int min2_int max_two min_two max_three min_three max_four min_four   -- for this text's walks alone
set_option linter.unusedVariables false
set_option linter.unusedSimpArgs false

/-! ### laws_szFrame: function 34 -/
def wf59 (x : S59) : Prop := (x.f0.length ≤ maxLen ∧ ∀ y ∈ x.f0, wf176 y) ∧ (Lit.int .i64 x.f1).wf = true ∧ (Lit.int .i64 x.f2).wf = true
def small59 (x : S59) : Prop := (x.f0.length ≤ 1048576)
set_option maxHeartbeats 4000000 in
set_option maxRecDepth 100000 in
theorem laws_szFrame.calls (A0_0 : Option Addr) (c0_0 : Nat) (l0_0 : List (S176)) (a0_1 : Int) (a0_2 : Int) (a1 : Int) (w : World) (hr0_0 : Kd.C k176 w A0_0 l0_0.length l0_0) (h0 : 0 ≤ a1) (h1 : a1 ≤ 1048576) (hw : wf59 ((⟨l0_0, a0_1, a0_2⟩ : S59) : S59)) :
    Calls Try.prog 34 #[.agg #[.slice A0_0 l0_0.length c0_0, .int .i64 a0_1, .int .i64 a0_2], .int .i64 a1] w (SzPost w a1 (small59 ((⟨l0_0, a0_1, a0_2⟩ : S59) : S59))) := by
  have Hl0_0 := Aside0.mk hr0_0
  clear hr0_0
  unfold wf59 at hw
  obtain ⟨g0, g1, g2⟩ := hw
  go_enter Try.func34, Try.ntmps34
  go_wp2_with fail
  refine (laws_szAccountS.calls A0_0 c0_0 l0_0 a1 _ (Kd.C_below Hl0_0.out (by repeat (first | exact below_alloc (Below.refl _ _) _ | refine below_alloc ?_ _))) (by omega) (by omega) g0.2).mono ?_
  rintro e w10 ⟨r0, rfl, hr1_0, hr2_0, hr3_0, hb⟩
  have s0_1 : w10.cell? ⟨w.heap.size, 1, none⟩ = some (.int .i64 a0_1) := pw_cell_below hb (by first | assumption | (go_simp; done))
  have s0_2 : w10.cell? ⟨w.heap.size, 2, none⟩ = some (.int .i64 a0_2) := pw_cell_below hb (by first | assumption | (go_simp; done))
  have HB0 := Aside0.mk (below_into (w := w) hb (by repeat (first | exact below_alloc (Below.refl _ _) _ | refine below_alloc ?_ _)))
  have HR0 := Aside0.mk hr3_0
  clear hb hr3_0
  by_cases q0 : r0 < 0
  · skip
    go_wp2_with fail
    go_ret
    exact ⟨-1, rfl, by omega, by omega, fun h => absurd h (by omega), HB0.out⟩
  · skip
    go_wp2_with fail
    go_ret
    exact ⟨_, rfl, by omega, by omega, fun _ => by unfold small59; exact (HR0.out (by omega)), HB0.out⟩

end Go.Proofs.Ytphmnkcfjgallaa.Q
namespace Go.Proofs.Ytphmnkcfjgallaa.Q
open Go.RowKit Go.Proofs.YtphmnkcfjgallaaW.PrintWords Go.Proofs.YtphmnkcfjgallaaW.PrintLast Go.Proofs.YtphmnkcfjgallaaW.PrintMore
attribute [local go_sem] max2_int min2_int max_two min_two max_three min_three max_four min_four   -- for this text's walks alone
set_option linter.unusedVariables false
set_option linter.unusedSimpArgs false

/-! ### laws_szLineS: function 118 -/
def wf188 (x : S188) : Prop := (Lit.int .i64 x.f0).wf = true ∧ (Lit.int .i64 x.f1).wf = true ∧ (Lit.int .i64 x.f2).wf = true ∧ (Lit.int .i64 x.f3).wf = true ∧ (Lit.int .i64 x.f4).wf = true
set_option maxHeartbeats 4000000 in
set_option maxRecDepth 100000 in
theorem laws_szLineS.calls (A0 : Option Addr) (c0 : Nat) (l0 : List (S188)) (a1 : Int) (w : World) (hr0 : Kd.C k188 w A0 l0.length l0) (h0 : 0 ≤ a1) (h1 : a1 ≤ 1048576) (hw : ∀ y ∈ l0, wf188 y) :
    Calls Try.prog 118 #[.slice A0 l0.length c0, .int .i64 a1] w (SzPost w a1 (l0.length ≤ 1048576)) := by
  have hl := hr0.2.1
  have H0 := Aside0.mk hr0
  have HW := Aside0.mk hw
  clear hr0 hw
  by_cases hn : a1 - (l0.length : Int) < 0
  · go_enter Try.func118, Try.ntmps118
    go_wp2_with fail
    go_ret
    exact ⟨-1, rfl, by omega, by omega, fun h => absurd h (by omega), Below.refl _ _⟩
  · go_enter Try.func118, Try.ntmps118
    go_wp2_with fail
    go_ret
    exact ⟨_, rfl, by omega, by omega, fun _ => by omega, Below.refl _ _⟩

end Go.Proofs.Ytphmnkcfjgallaa.Q
namespace Go.Proofs.Ytphmnkcfjgallaa.Q
open Go.RowKit Go.Proofs.YtphmnkcfjgallaaW.PrintWords Go.Proofs.YtphmnkcfjgallaaW.PrintLast Go.Proofs.YtphmnkcfjgallaaW.PrintMore
attribute [local go_sem] max2_int min2_int max_two min_two max_three min_three max_four min_four   -- for this text's walks alone
set_option linter.unusedVariables false
set_option linter.unusedSimpArgs false

/-! ### laws_szEntry: function 58 -/
def wf93 (x : S93) : Prop := (Lit.int .i64 x.f0).wf = true ∧ (Lit.int .i64 x.f1).wf = true ∧ x.f2.size ≤ maxLen ∧ (x.f3.length ≤ maxLen ∧ ∀ y ∈ x.f3, wf188 y)
def small93 (x : S93) : Prop := (x.f3.length ≤ 1048576)
set_option maxHeartbeats 4000000 in
set_option maxRecDepth 100000 in
theorem laws_szEntry.calls (a0_0 : Int) (a0_1 : Int) (a0_2 : ByteArray) (A0_3 : Option Addr) (c0_3 : Nat) (l0_3 : List (S188)) (a1 : Int) (w : World) (hr0_3 : Kd.C k188 w A0_3 l0_3.length l0_3) (h0 : 0 ≤ a1) (h1 : a1 ≤ 1048576) (hw : wf93 ((⟨a0_0, a0_1, a0_2, l0_3⟩ : S93) : S93)) :
    Calls Try.prog 58 #[.agg #[.int .i64 a0_0, .int .i64 a0_1, .string a0_2, .slice A0_3 l0_3.length c0_3], .int .i64 a1] w (SzPost w a1 (small93 ((⟨a0_0, a0_1, a0_2, l0_3⟩ : S93) : S93))) := by
  have Hl0_3 := Aside0.mk hr0_3
  clear hr0_3
  unfold wf93 at hw
  obtain ⟨g0, g1, g2, g3⟩ := hw
  replace g2 : a0_2.size ≤ 9223372036854775807 := g2
  by_cases q2 : a1 - (a0_2.size : Int) < 0
  · go_enter Try.func58, Try.ntmps58
    go_wp2_with fail
    go_ret
    exact ⟨-1, rfl, by omega, by omega, fun h => absurd h (by omega), below_alloc (Below.refl _ _) _⟩
  · skip
    go_enter Try.func58, Try.ntmps58
    go_wp2_with fail
    refine (laws_szLineS.calls A0_3 c0_3 l0_3 (a1 - (a0_2.size : Int)) _ (Kd.C_below Hl0_3.out (by repeat (first | exact below_alloc (Below.refl _ _) _ | refine below_alloc ?_ _))) (by omega) (by omega) g3.2).mono ?_
    rintro e w13 ⟨r3, rfl, hr1_3, hr2_3, hr3_3, hb⟩
    have HB3 := Aside0.mk (below_into (w := w) hb (by repeat (first | exact below_alloc (Below.refl _ _) _ | refine below_alloc ?_ _)))
    have HR3 := Aside0.mk hr3_3
    clear hb hr3_3
    by_cases q3 : r3 < 0
    · skip
      go_wp2_with fail
      go_ret
      exact ⟨-1, rfl, by omega, by omega, fun h => absurd h (by omega), HB3.out⟩
    · skip
      go_wp2_with fail
      go_ret
      exact ⟨_, rfl, by omega, by omega, fun _ => by unfold small93; exact (HR3.out (by omega)), HB3.out⟩

end Go.Proofs.Ytphmnkcfjgallaa.Q
namespace Go.Proofs.Ytphmnkcfjgallaa.Q
open Go.RowKit Go.Proofs.YtphmnkcfjgallaaW.PrintWords Go.Proofs.YtphmnkcfjgallaaW.PrintLast Go.Proofs.YtphmnkcfjgallaaW.PrintMore
attribute [local go_sem] max2_int min2_int max_two min_two max_three min_three max_four min_four   -- for this text's walks alone
set_option linter.unusedVariables false
set_option linter.unusedSimpArgs false

/-! ### laws_szEntryS: function 114 -/
set_option maxHeartbeats 4000000 in
set_option maxRecDepth 100000 in
theorem laws_szEntryS.calls (A0 : Option Addr) (c0 : Nat) (l0 : List (S93)) (a1 : Int) (w : World) (hr0 : Kd.C k93 w A0 l0.length l0) (h0 : 0 ≤ a1) (h1 : a1 ≤ 1048576) (hw : ∀ y ∈ l0, wf93 y) :
    Calls Try.prog 114 #[.slice A0 l0.length c0, .int .i64 a1] w (SzPost w a1 (l0.length ≤ 1048576 ∧ ∀ y ∈ l0, small93 y)) := by
  have hl := hr0.2.1
  have H0 := Aside0.mk hr0
  have HW := Aside0.mk hw
  clear hr0 hw
  by_cases hn : a1 - (l0.length : Int) < 0
  · go_enter Try.func114, Try.ntmps114
    go_wp2_with fail
    go_ret
    exact ⟨-1, rfl, by omega, by omega, fun h => absurd h (by omega), Below.refl _ _⟩
  · go_enter Try.func114, Try.ntmps114
    go_wp2_with fail
    go_loopw [1, 5] (fun v u wr => ∃ left i : Int, 0 ≤ left ∧ left ≤ a1 - (l0.length : Int) ∧ v = .int .i64 left ∧ 0 ≤ i ∧ i ≤ (l0.length : Int) ∧ u = .int .i64 i ∧ Aside0 (Below w.heap.size w wr) ∧ Aside0 (∀ y ∈ l0.take i.toNat, small93 y)) (fun _ u _ => (l0.length - (intOf u).toNat))
    case atStart => exact ⟨a1 - (l0.length : Int), 0, by omega, by omega, rfl, by omega, by omega, rfl, ⟨Below.refl _ _⟩, ⟨fun y hy => by simp at hy⟩⟩
    case round =>
      obtain ⟨left, i, hL0, hL1, rfl, hi0, hi1, rfl, HB, HT⟩ := hrel
      by_cases hlt : i < (l0.length : Int)
      · obtain ⟨ad, uA3, uC3, ead, adx0, adx1, adx2, adx3, adl3, adg3⟩ := at_T93 (Kd.C_below H0.out HB.out) i hi0 hlt
        cases ead
        go_wp2_with fail
        refine (laws_szEntry.calls (rd_T93 l0 i).f0 (rd_T93 l0 i).f1 (rd_T93 l0 i).f2 uA3 uC3 (rd_T93 l0 i).f3 left _ adg3 hL0 (by omega) (all_at (z := z93) hi0 hlt HW.out)).mono ?_
        rintro e w2 ⟨r, rfl, hr1, hr2, hr3, hb⟩
        have HR := Aside0.mk hr3
        have HB2 := Aside0.mk (below_into (w := w) hb (by repeat (first | exact HB.out | refine below_drew1 ?_)))
        clear hb hr3
        by_cases hr : r < 0
        · go_wp2_with fail
          go_ret
          exact ⟨-1, rfl, by omega, by omega, fun h => absurd h (by omega), HB2.out⟩
        · go_wp2_with fail
          go_roundw
          case rel => exact ⟨r, i + 1, by omega, by omega, rfl, by omega, by omega, rfl, HB2, ⟨all_step (z := z93) hi0 hlt HT.out (HR.out (by omega))⟩⟩
          case measure => simp [intOf]; omega
      · go_wp2_with fail
        go_ret
        exact ⟨left, rfl, by omega, by omega, fun _ => ⟨by omega, all_end (by omega) HT.out⟩, HB.out⟩

end Go.Proofs.Ytphmnkcfjgallaa.Q
namespace Go.Proofs.Ytphmnkcfjgallaa.Q
open Go.RowKit Go.Proofs.YtphmnkcfjgallaaW.PrintWords Go.Proofs.YtphmnkcfjgallaaW.PrintLast Go.Proofs.YtphmnkcfjgallaaW.PrintMore
attribute [local go_sem] max2_int min2_int max_two min_two max_three min_three max_four min_four   -- for this text's walks alone
set_option linter.unusedVariables false
set_option linter.unusedSimpArgs false

/-! ### laws_szLedger: function 47 -/
def wf62 (x : S62) : Prop := (x.f0.length ≤ maxLen ∧ ∀ y ∈ x.f0, wf93 y) ∧ (Lit.int .i64 x.f1).wf = true
def small62 (x : S62) : Prop := (x.f0.length ≤ 1048576 ∧ ∀ y ∈ x.f0, small93 y)
set_option maxHeartbeats 4000000 in
set_option maxRecDepth 100000 in
theorem laws_szLedger.calls (A0_0 : Option Addr) (c0_0 : Nat) (l0_0 : List (S93)) (a0_1 : Int) (a1 : Int) (w : World) (hr0_0 : Kd.C k93 w A0_0 l0_0.length l0_0) (h0 : 0 ≤ a1) (h1 : a1 ≤ 1048576) (hw : wf62 ((⟨l0_0, a0_1⟩ : S62) : S62)) :
    Calls Try.prog 47 #[.agg #[.slice A0_0 l0_0.length c0_0, .int .i64 a0_1], .int .i64 a1] w (SzPost w a1 (small62 ((⟨l0_0, a0_1⟩ : S62) : S62))) := by
  have Hl0_0 := Aside0.mk hr0_0
  clear hr0_0
  unfold wf62 at hw
  obtain ⟨g0, g1⟩ := hw
  go_enter Try.func47, Try.ntmps47
  go_wp2_with fail
  refine (laws_szEntryS.calls A0_0 c0_0 l0_0 a1 _ (Kd.C_below Hl0_0.out (by repeat (first | exact below_alloc (Below.refl _ _) _ | refine below_alloc ?_ _))) (by omega) (by omega) g0.2).mono ?_
  rintro e w10 ⟨r0, rfl, hr1_0, hr2_0, hr3_0, hb⟩
  have s0_1 : w10.cell? ⟨w.heap.size, 1, none⟩ = some (.int .i64 a0_1) := pw_cell_below hb (by first | assumption | (go_simp; done))
  have HB0 := Aside0.mk (below_into (w := w) hb (by repeat (first | exact below_alloc (Below.refl _ _) _ | refine below_alloc ?_ _)))
  have HR0 := Aside0.mk hr3_0
  clear hb hr3_0
  by_cases q0 : r0 < 0
  · skip
    go_wp2_with fail
    go_ret
    exact ⟨-1, rfl, by omega, by omega, fun h => absurd h (by omega), HB0.out⟩
  · skip
    go_wp2_with fail
    go_ret
    exact ⟨_, rfl, by omega, by omega, fun _ => by unfold small62; exact (HR0.out (by omega)), HB0.out⟩

end Go.Proofs.Ytphmnkcfjgallaa.Q
namespace Go.Proofs.Ytphmnkcfjgallaa.Q
open Go.RowKit Go.Proofs.YtphmnkcfjgallaaW.PrintWords Go.Proofs.YtphmnkcfjgallaaW.PrintLast Go.Proofs.YtphmnkcfjgallaaW.PrintMore
attribute [local go_sem] max2_int min2_int max_two min_two max_three min_three max_four min_four   -- for this text's walks alone
set_option linter.unusedVariables false
set_option linter.unusedSimpArgs false

/-! ### laws_szBooks: function 30 -/
def wf65 (x : S65) : Prop := wf59 x.f0 ∧ wf62 x.f1 ∧ (x.f2.length ≤ maxLen ∧ ∀ y ∈ x.f2, wf138 y) ∧ (Lit.int .i64 x.f3).wf = true ∧ (Lit.int .i64 x.f4).wf = true
def small65 (x : S65) : Prop := small59 x.f0 ∧ small62 x.f1 ∧ (x.f2.length ≤ 1048576)
set_option maxHeartbeats 4000000 in
set_option maxRecDepth 100000 in
theorem laws_szBooks.calls (A0_0 : Option Addr) (c0_0 : Nat) (l0_0 : List (S176)) (a0_1 : Int) (a0_2 : Int) (A0_3 : Option Addr) (c0_3 : Nat) (l0_3 : List (S93)) (a0_4 : Int) (A0_5 : Option Addr) (c0_5 : Nat) (l0_5 : List (S138)) (a0_6 : Int) (a0_7 : Int) (a1 : Int) (w : World) (hr0_0 : Kd.C k176 w A0_0 l0_0.length l0_0) (hr0_3 : Kd.C k93 w A0_3 l0_3.length l0_3) (hr0_5 : Kd.C k138 w A0_5 l0_5.length l0_5) (h0 : 0 ≤ a1) (h1 : a1 ≤ 1048576) (hw : wf65 ((⟨(⟨l0_0, a0_1, a0_2⟩ : S59), (⟨l0_3, a0_4⟩ : S62), l0_5, a0_6, a0_7⟩ : S65) : S65)) :
    Calls Try.prog 30 #[.agg #[.slice A0_0 l0_0.length c0_0, .int .i64 a0_1, .int .i64 a0_2, .slice A0_3 l0_3.length c0_3, .int .i64 a0_4, .slice A0_5 l0_5.length c0_5, .int .i64 a0_6, .int .i64 a0_7], .int .i64 a1] w (SzPost w a1 (small65 ((⟨(⟨l0_0, a0_1, a0_2⟩ : S59), (⟨l0_3, a0_4⟩ : S62), l0_5, a0_6, a0_7⟩ : S65) : S65))) := by
  have Hl0_0 := Aside0.mk hr0_0
  clear hr0_0
  have Hl0_3 := Aside0.mk hr0_3
  clear hr0_3
  have Hl0_5 := Aside0.mk hr0_5
  clear hr0_5
  unfold wf65 at hw
  obtain ⟨g0, g1, g2, g3, g4⟩ := hw
  go_enter Try.func30, Try.ntmps30
  go_wp2_with fail
  refine (laws_szFrame.calls A0_0 c0_0 l0_0 a0_1 a0_2 a1 _ (Kd.C_below Hl0_0.out (by repeat (first | exact below_alloc (Below.refl _ _) _ | refine below_alloc ?_ _))) (by omega) (by omega) g0).mono ?_
  rintro e w10 ⟨r0, rfl, hr1_0, hr2_0, hr3_0, hb⟩
  have s0_3 : w10.cell? ⟨w.heap.size, 3, none⟩ = some (.slice A0_3 l0_3.length c0_3) := pw_cell_below hb (by first | assumption | (go_simp; done))
  have s0_4 : w10.cell? ⟨w.heap.size, 4, none⟩ = some (.int .i64 a0_4) := pw_cell_below hb (by first | assumption | (go_simp; done))
  have s0_5 : w10.cell? ⟨w.heap.size, 5, none⟩ = some (.slice A0_5 l0_5.length c0_5) := pw_cell_below hb (by first | assumption | (go_simp; done))
  have s0_6 : w10.cell? ⟨w.heap.size, 6, none⟩ = some (.int .i64 a0_6) := pw_cell_below hb (by first | assumption | (go_simp; done))
  have s0_7 : w10.cell? ⟨w.heap.size, 7, none⟩ = some (.int .i64 a0_7) := pw_cell_below hb (by first | assumption | (go_simp; done))
  have HB0 := Aside0.mk (below_into (w := w) hb (by repeat (first | exact below_alloc (Below.refl _ _) _ | refine below_alloc ?_ _)))
  have HR0 := Aside0.mk hr3_0
  clear hb hr3_0
  by_cases q0 : r0 < 0
  · skip
    go_wp2_with fail
    go_ret
    exact ⟨-1, rfl, by omega, by omega, fun h => absurd h (by omega), HB0.out⟩
  · skip
    go_wp2_with fail
    refine (laws_szLedger.calls A0_3 c0_3 l0_3 a0_4 r0 _ (Kd.C_below Hl0_3.out (by repeat (first | exact HB0.out | refine below_alloc ?_ _))) (by omega) (by omega) g1).mono ?_
    rintro e w11 ⟨r1, rfl, hr1_1, hr2_1, hr3_1, hb⟩
    have s1_5 : w11.cell? ⟨w.heap.size, 5, none⟩ = some (.slice A0_5 l0_5.length c0_5) := pw_cell_below hb (by first | assumption | (go_simp; done))
    have s1_6 : w11.cell? ⟨w.heap.size, 6, none⟩ = some (.int .i64 a0_6) := pw_cell_below hb (by first | assumption | (go_simp; done))
    have s1_7 : w11.cell? ⟨w.heap.size, 7, none⟩ = some (.int .i64 a0_7) := pw_cell_below hb (by first | assumption | (go_simp; done))
    have HB1 := Aside0.mk (below_into (w := w) hb (by repeat (first | exact HB0.out | refine below_alloc ?_ _)))
    have HR1 := Aside0.mk hr3_1
    clear hb hr3_1
    by_cases q1 : r1 < 0
    · skip
      go_wp2_with fail
      go_ret
      exact ⟨-1, rfl, by omega, by omega, fun h => absurd h (by omega), HB1.out⟩
    · skip
      go_wp2_with fail
      refine (laws_szPeriodS.calls A0_5 c0_5 l0_5 r1 _ (Kd.C_below Hl0_5.out (by repeat (first | exact HB1.out | refine below_alloc ?_ _))) (by omega) (by omega) g2.2).mono ?_
      rintro e w12 ⟨r2, rfl, hr1_2, hr2_2, hr3_2, hb⟩
      have s2_6 : w12.cell? ⟨w.heap.size, 6, none⟩ = some (.int .i64 a0_6) := pw_cell_below hb (by first | assumption | (go_simp; done))
      have s2_7 : w12.cell? ⟨w.heap.size, 7, none⟩ = some (.int .i64 a0_7) := pw_cell_below hb (by first | assumption | (go_simp; done))
      have HB2 := Aside0.mk (below_into (w := w) hb (by repeat (first | exact HB1.out | refine below_alloc ?_ _)))
      have HR2 := Aside0.mk hr3_2
      clear hb hr3_2
      by_cases q2 : r2 < 0
      · skip
        go_wp2_with fail
        go_ret
        exact ⟨-1, rfl, by omega, by omega, fun h => absurd h (by omega), HB2.out⟩
      · skip
        go_wp2_with fail
        go_ret
        exact ⟨_, rfl, by omega, by omega, fun _ => by unfold small65; exact ⟨(HR0.out (by omega)), (HR1.out (by omega)), (HR2.out (by omega))⟩, HB2.out⟩

end Go.Proofs.Ytphmnkcfjgallaa.Q
namespace Go.Proofs.Ytphmnkcfjgallaa.Q
open Go.RowKit Go.Proofs.YtphmnkcfjgallaaW.PrintWords Go.Proofs.YtphmnkcfjgallaaW.PrintLast Go.Proofs.YtphmnkcfjgallaaW.PrintMore
set_option linter.unusedVariables false
set_option linter.unusedSimpArgs false
/-! #### the laws' own copies of what came in, told plainly -/
theorem fill_loop {α β : Type} (F : Nat → List α → List β → Int → Option (List β)) (cv : α → β) (z : α) (l : List α) (D : Nat)
    (hstep : ∀ k x i, D ≤ k → 0 ≤ i → i < (l.length : Int) → x.length = l.length → F (k + 1) l x i = F k l (x.set i.toNat (cv (l.getD i.toNat z))) (i + 1))
    (hend : ∀ k x i, (l.length : Int) ≤ i → F (k + 1) l x i = some x) :
    ∀ (n k : Nat) (x : List β) (i : Nat), i + n = l.length → n + D < k → x.length = l.length → x.take i = (l.map cv).take i → F k l x i = some (l.map cv)
  | 0, k, x, i, hi, hk, hx, ht => by
    obtain ⟨m, rfl⟩ : ∃ m, k = m + 1 := ⟨k - 1, by omega⟩
    rw [hend m x i (by omega)]
    rw [List.take_of_length_le (by omega), List.take_of_length_le (by simp; omega)] at ht
    rw [ht]
  | n + 1, k, x, i, hi, hk, hx, ht => by
    obtain ⟨m, rfl⟩ : ∃ m, k = m + 1 := ⟨k - 1, by omega⟩
    rw [hstep m x i (by omega) (by omega) (by omega) hx]
    refine fill_loop F cv z l D hstep hend n m _ (i + 1) (by omega) (by omega) (by simpa using hx) ?_
    have hxi : i < x.length := by omega
    have hli : i < l.length := by omega
    simp only [Int.toNat_natCast]
    rw [List.take_add_one, List.take_add_one, List.take_set, ht, List.getElem?_set_self (by omega), List.getElem?_map, List.getElem?_eq_getElem hli, List.getD_eq_getElem?_getD, List.getElem?_eq_getElem hli]
    rw [List.set_eq_of_length_le (by simp; omega)]
    simp
def cvAccount (x : S176) : S131 := ⟨x.f0, x.f1, x.f2⟩
def cvPeriod (x : S138) : S133 := ⟨x.f0, x.f1⟩
def cvLine (x : S188) : S112 := ⟨x.f0, x.f1, x.f2, x.f3, x.f4⟩
def cvEntry (x : S93) : S34 := ⟨x.f0, x.f1, x.f2, x.f3.map cvLine⟩
theorem laws_toAccountS_is (l : List S176) (k : Nat) (hl : l.length ≤ 1048576) (hk : l.length < k) : laws_toAccountS.f k l = some (l.map cvAccount) := by
  unfold laws_toAccountS.f
  rw [if_pos (by omega), if_pos (by omega)]
  exact fill_loop laws_toAccountS.l0 cvAccount z176 l 0 (fun k x i _ h0 h1 hx => by
    simp only [laws_toAccountS.l0]
    rw [if_pos h1, if_pos h0]
    simp only [laws_toAccount.f, Option.bind_some]
    rw [if_pos (by omega), show wrap64 (i + 1) = i + 1 by unfold wrap64; omega]
    rfl) (fun k x i h => by simp only [laws_toAccountS.l0]; rw [if_neg (by omega)]) l.length k _ 0 (by omega) (by omega) (by simp) (by simp)
theorem laws_toPeriodS_is (l : List S138) (k : Nat) (hl : l.length ≤ 1048576) (hk : l.length < k) : laws_toPeriodS.f k l = some (l.map cvPeriod) := by
  unfold laws_toPeriodS.f
  rw [if_pos (by omega), if_pos (by omega)]
  exact fill_loop laws_toPeriodS.l0 cvPeriod z138 l 0 (fun k x i _ h0 h1 hx => by
    simp only [laws_toPeriodS.l0]
    rw [if_pos h1, if_pos h0]
    simp only [laws_toPeriod.f, Option.bind_some]
    rw [if_pos (by omega), show wrap64 (i + 1) = i + 1 by unfold wrap64; omega]
    rfl) (fun k x i h => by simp only [laws_toPeriodS.l0]; rw [if_neg (by omega)]) l.length k _ 0 (by omega) (by omega) (by simp) (by simp)
theorem laws_toLineS_is (l : List S188) (k : Nat) (hl : l.length ≤ 1048576) (hk : l.length < k) : laws_toLineS.f k l = some (l.map cvLine) := by
  unfold laws_toLineS.f
  rw [if_pos (by omega), if_pos (by omega)]
  exact fill_loop laws_toLineS.l0 cvLine z188 l 0 (fun k x i _ h0 h1 hx => by
    simp only [laws_toLineS.l0]
    rw [if_pos h1, if_pos h0]
    simp only [laws_toLine.f, Option.bind_some]
    rw [if_pos (by omega), show wrap64 (i + 1) = i + 1 by unfold wrap64; omega]
    rfl) (fun k x i h => by simp only [laws_toLineS.l0]; rw [if_neg (by omega)]) l.length k _ 0 (by omega) (by omega) (by simp) (by simp)
theorem laws_toEntry_is (x : S93) (k : Nat) (hs : small93 x) (hk : 1048576 < k) : laws_toEntry.f k x.f0 x.f1 x.f2 x.f3 = some ((cvEntry x).f0, (cvEntry x).f1, (cvEntry x).f2, (cvEntry x).f3) := by
  unfold small93 at hs
  unfold laws_toEntry.f
  rw [laws_toLineS_is x.f3 k hs (by omega)]
  rfl
theorem laws_toEntryS_is (l : List S93) (k : Nat) (hl : l.length ≤ 1048576) (hs : ∀ y ∈ l, small93 y) (hk : l.length + 1048577 < k) : laws_toEntryS.f k l = some (l.map cvEntry) := by
  unfold laws_toEntryS.f
  rw [if_pos (by omega), if_pos (by omega)]
  exact fill_loop laws_toEntryS.l0 cvEntry z93 l 1048577 (fun k x i hD h0 h1 hx => by
    simp only [laws_toEntryS.l0]
    rw [if_pos h1, if_pos h0, laws_toEntry_is (rd_T93 l i) k (all_at (z := z93) h0 h1 hs) (by omega)]
    simp only [Option.bind_some]
    rw [if_pos (by omega), show wrap64 (i + 1) = i + 1 by unfold wrap64; omega]
    rfl) (fun k x i h => by simp only [laws_toEntryS.l0]; rw [if_neg (by omega)]) l.length k _ 0 (by omega) (by omega) (by simp) (by simp)
theorem laws_toFrame_is (l : List S176) (d c : Int) (k : Nat) (hl : l.length ≤ 1048576) (hk : 3000000 ≤ k) : laws_toFrame.f k l d c = some (l.map cvAccount, d, c) := by
  unfold laws_toFrame.f
  rw [laws_toAccountS_is l k hl (by omega)]
  rfl
theorem laws_toLedger_is (l : List S93) (h : Int) (k : Nat) (hl : l.length ≤ 1048576 ∧ ∀ y ∈ l, small93 y) (hk : 3000000 ≤ k) : laws_toLedger.f k l h = some (l.map cvEntry, h) := by
  unfold laws_toLedger.f
  rw [laws_toEntryS_is l k hl.1 hl.2 (by omega)]
  rfl
theorem laws_toBooks_is (l0 : List S176) (d c : Int) (l3 : List S93) (h : Int) (l5 : List S138) (a b : Int) (k : Nat) (hs : small65 (⟨(⟨l0, d, c⟩ : S59), (⟨l3, h⟩ : S62), l5, a, b⟩ : S65)) (hk : 3000000 ≤ k) :
    laws_toBooks.f k l0 d c l3 h l5 a b = some (l0.map cvAccount, d, c, l3.map cvEntry, h, l5.map cvPeriod, a, b) := by
  obtain ⟨h0, h1, h2⟩ := hs
  have h2' : l5.length ≤ 1048576 := h2
  unfold laws_toBooks.f
  rw [laws_toFrame_is l0 d c k h0 hk, laws_toLedger_is l3 h k h1 hk, laws_toPeriodS_is l5 k h2' (by omega)]
  rfl
theorem text_cvAccount {l : List S176} (h : ∀ y ∈ l, wf176 y) : ∀ x ∈ l.map cvAccount, x.f0.size ≤ maxLen := by
  intro x hx
  obtain ⟨y, hy, rfl⟩ := List.mem_map.1 hx
  exact (h y hy).1
theorem text_cvEntry {l : List S93} (h : ∀ y ∈ l, wf93 y) : ∀ x ∈ l.map cvEntry, x.f2.size ≤ maxLen := by
  intro x hx
  obtain ⟨y, hy, rfl⟩ := List.mem_map.1 hx
  exact (h y hy).2.2.1

end Go.Proofs.Ytphmnkcfjgallaa.Q
namespace Go.Proofs.Ytphmnkcfjgallaa.Q
open Go.RowKit Go.Proofs.YtphmnkcfjgallaaW.PrintWords Go.Proofs.YtphmnkcfjgallaaW.PrintLast Go.Proofs.YtphmnkcfjgallaaW.PrintMore
set_option linter.unusedVariables false
set_option linter.unusedSimpArgs false
def kBig : Nat := 3000000
theorem kBig_le : 3000000 ≤ kBig := Nat.le_refl _
set_option maxHeartbeats 16000000 in
set_option maxRecDepth 100000 in
theorem laws_FnExactBooksOk.to (A0 : Option Addr) (c0 : Nat) (l0 : List S176) (d c : Int) (A3 : Option Addr) (c3 : Nat) (l3 : List S93) (h : Int) (A5 : Option Addr) (c5 : Nat) (l5 : List S138) (a b : Int) (w : World)
    (hr0 : Kd.C k176 w A0 l0.length l0) (hc0 : l0.length ≤ c0) (hr3 : Kd.C k93 w A3 l3.length l3) (hc3 : l3.length ≤ c3) (hr5 : Kd.C k138 w A5 l5.length l5) (hc5 : l5.length ≤ c5)
    (hw : wf65 (⟨(⟨l0, d, c⟩ : S59), (⟨l3, h⟩ : S62), l5, a, b⟩ : S65)) :
    Calls Try.prog 6 #[.agg #[.slice A0 l0.length c0, .int .i64 d, .int .i64 c, .slice A3 l3.length c3, .int .i64 h, .slice A5 l5.length c5, .int .i64 a, .int .i64 b]] w fun e w' => e = .returned (.bool true) ∧ Below w.heap.size w w' := by
  have H0 := Aside0.mk hr0
  have H3 := Aside0.mk hr3
  have H5 := Aside0.mk hr5
  have C0 := Aside0.mk hc0
  have C3 := Aside0.mk hc3
  have C5 := Aside0.mk hc5
  have HW := Aside0.mk hw
  have HT0 := Aside0.mk (text_cvAccount hw.1.1.2)
  have HT3 := Aside0.mk (text_cvEntry hw.2.1.1.2)
  clear hr0 hr3 hr5 hw hc0 hc3 hc5
  go_enter Try.func6, Try.ntmps6
  go_wp2_with fail
  refine (laws_szBooks.calls A0 c0 l0 d c A3 c3 l3 h A5 c5 l5 a b 1048576 _ (Kd.C_below H0.out (below_alloc (Below.refl _ _) _)) (Kd.C_below H3.out (below_alloc (Below.refl _ _) _)) (Kd.C_below H5.out (below_alloc (Below.refl _ _) _)) (by omega) (by omega) HW.out).mono ?_
  rintro x w1 ⟨r, rfl, q1, q2, q3, hb⟩
  have HB := Aside0.mk (below_into (w := w) hb (below_alloc (Below.refl _ _) _))
  have f0 : w1.cell? ⟨w.heap.size, 0, none⟩ = some (.slice A0 l0.length c0) := pw_cell_below hb (by go_simp)
  have f1 : w1.cell? ⟨w.heap.size, 1, none⟩ = some (.int .i64 d) := pw_cell_below hb (by go_simp)
  have f2 : w1.cell? ⟨w.heap.size, 2, none⟩ = some (.int .i64 c) := pw_cell_below hb (by go_simp)
  have f3 : w1.cell? ⟨w.heap.size, 3, none⟩ = some (.slice A3 l3.length c3) := pw_cell_below hb (by go_simp)
  have f4 : w1.cell? ⟨w.heap.size, 4, none⟩ = some (.int .i64 h) := pw_cell_below hb (by go_simp)
  have f5 : w1.cell? ⟨w.heap.size, 5, none⟩ = some (.slice A5 l5.length c5) := pw_cell_below hb (by go_simp)
  have f6 : w1.cell? ⟨w.heap.size, 6, none⟩ = some (.int .i64 a) := pw_cell_below hb (by go_simp)
  have f7 : w1.cell? ⟨w.heap.size, 7, none⟩ = some (.int .i64 b) := pw_cell_below hb (by go_simp)
  have HS := Aside0.mk q3
  clear hb q3
  by_cases hr : r < 0
  · go_wp2_with fail
    go_ret
    exact ⟨rfl, HB.out⟩
  · have HS2 := Aside0.mk (laws_toBooks_is l0 d c l3 h l5 a b kBig (HS.out (by omega)) kBig_le)
    clear HS
    generalize l0.map cvAccount = m0 at *
    generalize l3.map cvEntry = m3 at *
    generalize l5.map cvPeriod = m5 at *
    go_wp2_with fail
    refine (laws_toBooks.calls kBig A0 c0 l0 d c A3 c3 l3 h A5 c5 l5 a b m0 d c m3 h m5 a b _ (Kd.C_below H0.out HB.out) C0.out (Kd.C_below H3.out HB.out) C3.out (Kd.C_below H5.out HB.out) C5.out HS2.out).mono ?_
    rintro x w2 ⟨v0, v3, v5, rfl, hR0, hR3, hR5, hb⟩
    obtain ⟨B0, e0, rfl, n0, g0⟩ := Kd.R_reads hR0
    obtain ⟨B3, e3, rfl, n3, g3⟩ := Kd.S_reads hR3
    obtain ⟨B5, e5, rfl, n5, g5⟩ := Kd.R_reads hR5
    clear hR0 hR3 hR5
    have G0 := Aside0.mk g0
    have G3 := Aside0.mk g3
    have G5 := Aside0.mk g5
    have N3 := Aside0.mk n3
    replace f0 := pw_cell_below hb f0
    replace f1 := pw_cell_below hb f1
    replace f2 := pw_cell_below hb f2
    replace f3 := pw_cell_below hb f3
    replace f4 := pw_cell_below hb f4
    replace f5 := pw_cell_below hb f5
    replace f6 := pw_cell_below hb f6
    replace f7 := pw_cell_below hb f7
    replace HB := Aside0.mk (below_into (w := w) hb HB.out)
    clear hb g0 g3 g5 n0 n3 n5
    go_wp2_with fail
    refine (spec_BooksOk.to B0 e0 m0 d c B3 e3 m3 h B5 e5 m5 a b _ G0.out HT0.out G3.out N3.out HT3.out G5.out).mono ?_
    rintro x w3 ⟨rfl, hb⟩
    replace f0 := pw_cell_below hb f0
    replace f1 := pw_cell_below hb f1
    replace f2 := pw_cell_below hb f2
    replace f3 := pw_cell_below hb f3
    replace f4 := pw_cell_below hb f4
    replace f5 := pw_cell_below hb f5
    replace f6 := pw_cell_below hb f6
    replace f7 := pw_cell_below hb f7
    replace HB := Aside0.mk (below_into (w := w) hb HB.out)
    clear hb G0 G3 G5 N3
    obtain ⟨bb, hbb⟩ : ∃ bb, bb = booksB m0 d c m3 h m5 a b := ⟨_, rfl⟩
    rw [← hbb]
    have HX := Aside0.mk hbb
    clear hbb
    go_wp2_with fail
    refine (laws_toBooks.calls kBig A0 c0 l0 d c A3 c3 l3 h A5 c5 l5 a b m0 d c m3 h m5 a b _ (Kd.C_below H0.out HB.out) C0.out (Kd.C_below H3.out HB.out) C3.out (Kd.C_below H5.out HB.out) C5.out HS2.out).mono ?_
    rintro x w4 ⟨v0, v3, v5, rfl, hR0, hR3, hR5, hb⟩
    obtain ⟨D0, e0, rfl, n0, g0⟩ := Kd.R_reads hR0
    obtain ⟨D3, e3, rfl, n3, g3⟩ := Kd.S_reads hR3
    obtain ⟨D5, e5, rfl, n5, g5⟩ := Kd.R_reads hR5
    clear hR0 hR3 hR5
    have G0 := Aside0.mk g0
    have G3 := Aside0.mk g3
    have G5 := Aside0.mk g5
    have N3 := Aside0.mk n3
    replace f0 := pw_cell_below hb f0
    replace f1 := pw_cell_below hb f1
    replace f2 := pw_cell_below hb f2
    replace f3 := pw_cell_below hb f3
    replace f4 := pw_cell_below hb f4
    replace f5 := pw_cell_below hb f5
    replace f6 := pw_cell_below hb f6
    replace f7 := pw_cell_below hb f7
    replace HB := Aside0.mk (below_into (w := w) hb HB.out)
    clear hb g0 g3 g5 n0 n3 n5
    go_wp2_with fail
    have ha := below_alloc (Below.refl w4.heap.size w4) (.cells #[.slice D0 m0.length e0, .int .i64 d, .int .i64 c, .slice D3 m3.length e3, .int .i64 h, .slice D5 m5.length e5, .int .i64 a, .int .i64 b] 50)
    have HA := Aside0.mk ha
    clear ha
    refine (impl_BooksOk.to D0 e0 m0 d c D3 e3 m3 h D5 e5 m5 a b _ (Kd.C_below G0.out HA.out) HT0.out (Kd.C_below G3.out HA.out) HT3.out (Kd.C_below G5.out HA.out)).mono ?_
    rintro x w5 ⟨rfl, hb⟩
    rw [← HX.out]
    have y0 : w5.cell? ⟨w4.heap.size, 0, none⟩ = some (.slice D0 m0.length e0) := pw_cell_below hb (by go_simp)
    have y1 : w5.cell? ⟨w4.heap.size, 1, none⟩ = some (.int .i64 d) := pw_cell_below hb (by go_simp)
    have y2 : w5.cell? ⟨w4.heap.size, 2, none⟩ = some (.int .i64 c) := pw_cell_below hb (by go_simp)
    have y3 : w5.cell? ⟨w4.heap.size, 3, none⟩ = some (.slice D3 m3.length e3) := pw_cell_below hb (by go_simp)
    have y4 : w5.cell? ⟨w4.heap.size, 4, none⟩ = some (.int .i64 h) := pw_cell_below hb (by go_simp)
    have y5 : w5.cell? ⟨w4.heap.size, 5, none⟩ = some (.slice D5 m5.length e5) := pw_cell_below hb (by go_simp)
    have y6 : w5.cell? ⟨w4.heap.size, 6, none⟩ = some (.int .i64 a) := pw_cell_below hb (by go_simp)
    have y7 : w5.cell? ⟨w4.heap.size, 7, none⟩ = some (.int .i64 b) := pw_cell_below hb (by go_simp)
    have HA2 := Aside0.mk (below_into (w := w4) hb HA.out)
    replace f0 := pw_cell_below HA2.out f0
    replace f1 := pw_cell_below HA2.out f1
    replace f2 := pw_cell_below HA2.out f2
    replace f3 := pw_cell_below HA2.out f3
    replace f4 := pw_cell_below HA2.out f4
    replace f5 := pw_cell_below HA2.out f5
    replace f6 := pw_cell_below HA2.out f6
    replace f7 := pw_cell_below HA2.out f7
    replace HB := Aside0.mk (below_into (w := w) HA2.out HB.out)
    replace G0 := Aside0.mk (Kd.C_below G0.out HA2.out)
    replace G3 := Aside0.mk (Kd.C_below G3.out HA2.out)
    replace G5 := Aside0.mk (Kd.C_below G5.out HA2.out)
    clear hb HA HA2 HX
    go_wp2_with fail
    have HBR := Aside0.mk (Below.refl w5.heap.size w5)
    go_region_held3 (fun w' => w'.cell? ⟨w4.heap.size, 0, none⟩ = some (.slice D0 m0.length e0) ∧ w'.cell? ⟨w4.heap.size, 1, none⟩ = some (.int .i64 d) ∧ w'.cell? ⟨w4.heap.size, 2, none⟩ = some (.int .i64 c) ∧ w'.cell? ⟨w4.heap.size, 3, none⟩ = some (.slice D3 m3.length e3) ∧ w'.cell? ⟨w4.heap.size, 4, none⟩ = some (.int .i64 h) ∧ w'.cell? ⟨w4.heap.size, 5, none⟩ = some (.slice D5 m5.length e5) ∧ w'.cell? ⟨w4.heap.size, 6, none⟩ = some (.int .i64 a) ∧ w'.cell? ⟨w4.heap.size, 7, none⟩ = some (.int .i64 b) ∧ w'.cell? ⟨w.heap.size, 0, none⟩ = some (.slice A0 l0.length c0) ∧ w'.cell? ⟨w.heap.size, 1, none⟩ = some (.int .i64 d) ∧ w'.cell? ⟨w.heap.size, 2, none⟩ = some (.int .i64 c) ∧ w'.cell? ⟨w.heap.size, 3, none⟩ = some (.slice A3 l3.length c3) ∧ w'.cell? ⟨w.heap.size, 4, none⟩ = some (.int .i64 h) ∧ w'.cell? ⟨w.heap.size, 5, none⟩ = some (.slice A5 l5.length c5) ∧ w'.cell? ⟨w.heap.size, 6, none⟩ = some (.int .i64 a) ∧ w'.cell? ⟨w.heap.size, 7, none⟩ = some (.int .i64 b)) ((first | go_keep | exact ⟨pw_cell_below hb (by assumption), pw_cell_below hb (by assumption), pw_cell_below hb (by assumption), pw_cell_below hb (by assumption), pw_cell_below hb (by assumption), pw_cell_below hb (by assumption), pw_cell_below hb (by assumption), pw_cell_below hb (by assumption), pw_cell_below hb (by assumption), pw_cell_below hb (by assumption), pw_cell_below hb (by assumption), pw_cell_below hb (by assumption), pw_cell_below hb (by assumption), pw_cell_below hb (by assumption), pw_cell_below hb (by assumption), pw_cell_below hb (by assumption)⟩ | (have hH := ‹_ ∧ _›; obtain ⟨t0, t1, t2, t3, t4, t5, t6, t7, t8, t9, t10, t11, t12, t13, t14, t15⟩ := hH; exact ⟨pw_cell_below hb t0, pw_cell_below hb t1, pw_cell_below hb t2, pw_cell_below hb t3, pw_cell_below hb t4, pw_cell_below hb t5, pw_cell_below hb t6, pw_cell_below hb t7, pw_cell_below hb t8, pw_cell_below hb t9, pw_cell_below hb t10, pw_cell_below hb t11, pw_cell_below hb t12, pw_cell_below hb t13, pw_cell_below hb t14, pw_cell_below hb t15⟩)))
      ((first | (go_at_call 31; refine (laws_toBooks.calls kBig A0 c0 l0 d c A3 c3 l3 h A5 c5 l5 a b m0 d c m3 h m5 a b _ (Kd.C_below H0.out (by repeat (first | exact HB.out | refine below_alloc ?_ _ | refine below_drew1 ?_ | refine pw_below_drewN ?_ _))) C0.out (Kd.C_below H3.out (by repeat (first | exact HB.out | refine below_alloc ?_ _ | refine below_drew1 ?_ | refine pw_below_drewN ?_ _))) C3.out (Kd.C_below H5.out (by repeat (first | exact HB.out | refine below_alloc ?_ _ | refine below_drew1 ?_ | refine pw_below_drewN ?_ _))) C5.out HS2.out).mono ?_; rintro x w6 ⟨u0, u3, u5, rfl, hR0, hR3, hR5, hb⟩; obtain ⟨F0, i0, rfl, n0, g0⟩ := Kd.R_reads hR0; obtain ⟨F3, i3, rfl, n3, g3⟩ := Kd.S_reads hR3; obtain ⟨F5, i5, rfl, n5, g5⟩ := Kd.R_reads hR5; have K0 := Aside0.mk g0; have K3 := Aside0.mk g3; have K5 := Aside0.mk g5; have HB6 := Aside0.mk (below_into (w := w5) hb (by repeat (first | exact HBR.out | refine below_drew1 ?_ | refine pw_below_drewN ?_ _))); clear hR0 hR3 hR5 g0 g3 g5 n0 n3 n5) | (go_at_call 33; refine (laws_eqBooks.calls D0 e0 m0 d c D3 e3 m3 h D5 e5 m5 a b F0 i0 m0 d c F3 i3 m3 h F5 i5 m5 a b _ (Kd.C_below G0.out (by repeat (first | exact HB6.out | refine below_drew1 ?_ | refine pw_below_drewN ?_ _))) (Kd.C_below G3.out (by repeat (first | exact HB6.out | refine below_drew1 ?_ | refine pw_below_drewN ?_ _))) (Kd.C_below G5.out (by repeat (first | exact HB6.out | refine below_drew1 ?_ | refine pw_below_drewN ?_ _))) (Kd.C_below K0.out (by repeat (first | exact Below.refl _ _ | refine below_drew1 ?_ | refine pw_below_drewN ?_ _))) (Kd.C_below K3.out (by repeat (first | exact Below.refl _ _ | refine below_drew1 ?_ | refine pw_below_drewN ?_ _))) (Kd.C_below K5.out (by repeat (first | exact Below.refl _ _ | refine below_drew1 ?_ | refine pw_below_drewN ?_ _)))).mono ?_; rintro x w7 ⟨rfl, hb⟩; have HB7 := Aside0.mk (below_into (w := w5) hb (by repeat (first | exact HB6.out | refine below_drew1 ?_ | refine pw_below_drewN ?_ _))))))
    all_goals
      rw [← same_true rfl]
      go_wp2_with fail
      go_ret
      exact ⟨rfl, by repeat (first | exact below_into HB7.out HB.out | refine below_drew1 ?_ | refine pw_below_drewN ?_ _)⟩

end Go.Proofs.Ytphmnkcfjgallaa.Q
