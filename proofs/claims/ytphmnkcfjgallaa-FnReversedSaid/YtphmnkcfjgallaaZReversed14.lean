/- Parts of the proof: what functions of the program and of the reference answer.
   No condition. -/
import Derived.Test.YtphmnkcfjgallaaZReversed1
import Derived.Test.YtphmnkcfjgallaaZReversed10
import Derived.Test.YtphmnkcfjgallaaZReversed4
import Derived.Test.YtphmnkcfjgallaaZReversed12
namespace Go.Proofs.Ytphmnkcfjgallaa.Q
open Go.RowKit Go.Proofs.YtphmnkcfjgallaaW.PrintWords Go.Proofs.YtphmnkcfjgallaaW.PrintLast Go.Proofs.YtphmnkcfjgallaaW.PrintMore
attribute [local go_sem] max2_int min2_int max_two min_two max_three min_three max_four min_four   -- for this text's walks alone
set_option linter.unusedVariables false
set_option linter.unusedSimpArgs false
mutual
noncomputable def impl_Reverse.j0 : Nat → Int → Int → Bool → List (S34) → Int → Option (Int × Int × ByteArray × (List (S112)) × Bool)
  | 0, _, _, _, _, _ => none
  | k + 1, x2, x3, x31, x17003000, x17003001 => if x31 = true then (some (0, 0, (⟨#[]⟩ : ByteArray), ([] : List (S112)), false)) else (if 0 ≤ x2 then (if x2 < (x17003000.length : Int) then ((impl_copyEntry.f ((rd_T34 x17003000 x2).f0) ((rd_T34 x17003000 x2).f1) ((rd_T34 x17003000 x2).f2) ((rd_T34 x17003000 x2).f3)).bind fun bt17007 => ((impl_decimal.f k (wrap64 (x2 + 1))).bind fun t17014 => (if 8 + t17014.size ≤ 9223372036854775807 then (impl_Reverse.l0 k (bt17007.2.2.2.length : Int) 0 x3 (wrap64 (x2 + 1)) ((⟨#[114, 101, 118, 101, 114, 115, 101, 32]⟩ : ByteArray) ++ t17014) bt17007.2.2.2) else (none)))) else (none)) else (none))
noncomputable def impl_Reverse.l0 : Nat → Int → Int → Int → Int → ByteArray → List (S112) → Option (Int × Int × ByteArray × (List (S112)) × Bool)
  | 0, _, _, _, _, _, _ => none
  | k + 1, x51, x52, x17014000, x17014001, x17014002, x17014003 => if x52 < x51 then (if 0 ≤ x52 then (if x52 < (x17014003.length : Int) then ((some (x17014003.set (x52 : Int).toNat (⟨(rd_T112 x17014003 x52).f0, (rd_T112 x17014003 x52).f1, (rd_T112 x17014003 x52).f2, wrap64 (-((rd_T112 x17014003 x52).f3)), (rd_T112 x17014003 x52).f4⟩ : S112) : List (S112))).bind fun y17016 => (impl_Reverse.l0 k x51 (wrap64 (x52 + 1)) x17014000 x17014001 x17014002 (y17016.set (x52 : Int).toNat (⟨(rd_T112 y17016 x52).f0, (rd_T112 y17016 x52).f1, (rd_T112 y17016 x52).f2, (rd_T112 y17016 x52).f3, wrap64 (-((rd_T112 y17016 x52).f4))⟩ : S112)))) else (none)) else (none)) else (some (x17014000, x17014001, x17014002, x17014003, true))
end
noncomputable def impl_Reverse.f (k : Nat) (l0_0 : List (S131)) (a0_1 : Int) (a0_2 : Int) (l1_0 : List (S34)) (a1_1 : Int) (a2 : Int) (a3 : Int) : Option (Int × Int × ByteArray × (List (S112)) × Bool) := (impl_LedgerOk.f l0_0 a0_1 a0_2 l1_0 a1_1).bind fun t17004 => (if t17004 = true then (if a2 < 0 then (impl_Reverse.j0 k a2 a3 true l1_0 a1_1) else (if a2 ≥ (l1_0.length : Int) then (impl_Reverse.j0 k a2 a3 true l1_0 a1_1) else ((impl_isDay.f a3).bind fun t17005 => (impl_Reverse.j0 k a2 a3 (!t17005) l1_0 a1_1)))) else (impl_Reverse.j0 k a2 a3 true l1_0 a1_1))
def impl_Reverse.T8 : Bool × List (List Nat × List Nat) := (true, [([], []), ([0], [0]), ([], []), ([], []), ([3], [3]), ([], []), ([4, 5], [4, 5]), ([6], [6]), ([7], [7]), ([8], [8]), ([1, 2, 0, 1, 2, 3, 4, 5, 6, 7, 8, 9], [1, 2]), ([10, 0, 1, 2, 3, 4, 5, 6, 7, 8, 9], [10]), ([11, 9, 0, 1, 2, 3, 4, 5, 6, 7, 8, 9], [9, 11])])
def impl_Reverse.B8 : List Nat := [0, 1, 0, 0, 8, 0, 56, 120, 248, 504, 1023, 2047, 4095]
theorem impl_Reverse.tab8 : rtab .any (opsOf Try.f16 8) = impl_Reverse.T8 := by kernel_rfl
theorem impl_Reverse.bits8 : waitsOk impl_Reverse.T8.2 impl_Reverse.B8 = true := by kernel_rfl
def impl_Reverse.T9 : Bool × List (List Nat × List Nat) := (true, [([], []), ([0], [0]), ([], []), ([], []), ([3], [3]), ([], []), ([4, 5], [4, 5]), ([6], [6]), ([7], [7]), ([8], [8]), ([1, 2, 0, 1, 2, 3, 4, 5, 6, 7, 8, 9], [1, 2]), ([10, 0, 1, 2, 3, 4, 5, 6, 7, 8, 9], [10]), ([11, 9, 0, 1, 2, 3, 4, 5, 6, 7, 8, 9], [9, 11])])
def impl_Reverse.B9 : List Nat := [0, 1, 0, 0, 8, 0, 56, 120, 248, 504, 1023, 2047, 4095]
theorem impl_Reverse.tab9 : rtab .any (opsOf Try.f16 9) = impl_Reverse.T9 := by kernel_rfl
theorem impl_Reverse.bits9 : waitsOk impl_Reverse.T9.2 impl_Reverse.B9 = true := by kernel_rfl
set_option maxHeartbeats 8000000 in
set_option maxRecDepth 100000 in
theorem impl_Reverse.calls (k : Nat) (A0_0 : Option Addr) (c0_0 : Nat) (l0_0 : List (S131)) (a0_1 : Int) (a0_2 : Int) (A1_0 : Option Addr) (c1_0 : Nat) (l1_0 : List (S34)) (a1_1 : Int) (a2 : Int) (a3 : Int) (r1 : Int) (r2 : Int) (r3 : ByteArray) (r4 : List (S112)) (r5 : Bool) (w : World) (hr0_0 : Kd.C k131 w A0_0 l0_0.length l0_0) (hc0_0 : l0_0.length ≤ c0_0) (hr1_0 : Kd.C k34 w A1_0 l1_0.length l1_0) (hc1_0 : l1_0.length ≤ c1_0) (h : impl_Reverse.f k l0_0 a0_1 a0_2 l1_0 a1_1 a2 a3 = some (r1, r2, r3, r4, r5)) :
    Calls Try.prog 16 #[.agg #[.slice A0_0 l0_0.length c0_0, .int .i64 a0_1, .int .i64 a0_2], .agg #[.slice A1_0 l1_0.length c1_0, .int .i64 a1_1], .int .i64 a2, .int .i64 a3] w fun e w' => ∃ v3_ : Value, e = .returned (.tuple #[.agg #[.int .i64 r1, .int .i64 r2, .string r3, v3_], .bool r5]) ∧ Kd.R k112 112 w' w.heap.size (fun _ => True) v3_ r4 ∧ Below w.heap.size w w' := by
  have hu26 := Try.underlying26
  have hu29 := Try.underlying29
  have hu34 := Try.underlying34
  have HR0_0 := Aside0.mk hr0_0
  have HC0_0 := Aside0.mk hc0_0
  clear hr0_0 hc0_0
  have HR1_0 := Aside0.mk hr1_0
  have HC1_0 := Aside0.mk hc1_0
  clear hr1_0 hc1_0
  have HB := Aside0.mk (Below.refl w.heap.size w)
  have H : ((impl_LedgerOk.f l0_0 a0_1 a0_2 l1_0 a1_1).bind fun t17004 => (if t17004 = true then (if a2 < 0 then (impl_Reverse.j0 k a2 a3 true l1_0 a1_1) else (if a2 ≥ (l1_0.length : Int) then (impl_Reverse.j0 k a2 a3 true l1_0 a1_1) else ((impl_isDay.f a3).bind fun t17005 => (impl_Reverse.j0 k a2 a3 (!t17005) l1_0 a1_1)))) else (impl_Reverse.j0 k a2 a3 true l1_0 a1_1))) = some (r1, r2, r3, r4, r5) := h
  clear h
  have HC5 := Aside0.mk H
  clear H
  go_enter Try.func16, Try.ntmps16
  go_upto_region 1 with (first | ((with_reducible refine gate_dst (N := 4) rfl ?_); (try (refine gate_guard (by rfl) ?_; dsimp only)); refine box_event ?hg (N := 4) ?hd (cs := #[.slice A0_0 l0_0.length c0_0, .int .i64 a0_1, .int .i64 a0_2]) (t := 26) ?hr ?_; (case hd => rfl); (case hg => rfl); (case hr => first | (go_simp; done) | (go_simp; rfl)); intro gb17001 hg w6 hbox hb; have n0_ := Aside0.mk (below_step (by repeat (first | (with_reducible first | exact HB.out | apply below_alloc | apply pw_below_drewN | apply below_drew1) | exact HB.out)) hb); have n1_ := Aside0.mk (hbox); have n2_ := Aside0.mk ((by rw [hg]; exact (below_size (by repeat (first | (with_reducible first | exact HB.out | apply below_alloc | apply pw_below_drewN | apply below_drew1) | exact HB.out))) : w.heap.size ≤ gb17001)); have n3_ := Aside0.mk ((by rw [hg]; exact (below_size (by repeat (first | (with_reducible first | exact HB.out | apply below_alloc | apply pw_below_drewN | apply below_drew1) | exact HB.out))) : w.heap.size ≤ gb17001)); clear HB; have HB := n0_; have BK17001 := n1_; have GW17001 := n2_; have GE17001 := n3_; clear n0_ n1_ n2_ n3_; clear hb hbox hg) | ((with_reducible refine gate_dst (N := 5) rfl ?_); (try (refine gate_guard (by rfl) ?_; dsimp only)); refine box_event ?hg (N := 5) ?hd (cs := #[.slice A1_0 l1_0.length c1_0, .int .i64 a1_1]) (t := 29) ?hr ?_; (case hd => rfl); (case hg => rfl); (case hr => first | (go_simp; done) | (go_simp; rfl)); intro gb17002 hg w7 hbox hb; have n0_ := Aside0.mk (blk_below (g := gb17001) (o := .cells #[.slice A0_0 l0_0.length c0_0, .int .i64 a0_1, .int .i64 a0_2] 26 (0, 0)) (by (with_reducible repeat (first | refine blk_drewN ?_ _ | refine blk_drew ?_ | refine blk_alloc ?_ _)); exact BK17001.out) hb); have n1_ := Aside0.mk (below_step (by repeat (first | (with_reducible first | exact HB.out | apply below_alloc | apply pw_below_drewN | apply below_drew1 | refine below_set ?_ GE17001.out) | exact HB.out)) hb); have n2_ := Aside0.mk (hbox); have n3_ := Aside0.mk ((by rw [hg]; exact (below_size (by repeat (first | (with_reducible first | exact HB.out | apply below_alloc | apply pw_below_drewN | apply below_drew1 | refine below_set ?_ GE17001.out) | exact HB.out))) : w.heap.size ≤ gb17002)); have n4_ := Aside0.mk ((by rw [hg]; exact (below_size (by repeat (first | (with_reducible first | exact HB.out | apply below_alloc | apply pw_below_drewN | apply below_drew1 | refine below_set ?_ GE17001.out) | exact HB.out))) : w.heap.size ≤ gb17002)); have n5_ := Aside0.mk ((by rw [hg]; exact Nat.ne_of_lt (blk_lt (g := gb17001) (o := .cells #[.slice A0_0 l0_0.length c0_0, .int .i64 a0_1, .int .i64 a0_2] 26 (0, 0)) (by (with_reducible repeat (first | refine blk_drewN ?_ _ | refine blk_drew ?_ | refine blk_alloc ?_ _)); exact BK17001.out)) : gb17001 ≠ gb17002)); have n6_ := Aside0.mk ((by rw [hg]; exact Nat.ne_of_gt (blk_lt (g := gb17001) (o := .cells #[.slice A0_0 l0_0.length c0_0, .int .i64 a0_1, .int .i64 a0_2] 26 (0, 0)) (by (with_reducible repeat (first | refine blk_drewN ?_ _ | refine blk_drew ?_ | refine blk_alloc ?_ _)); exact BK17001.out)) : gb17002 ≠ gb17001)); clear BK17001; clear HB; have BK17001 := n0_; have HB := n1_; have BK17002 := n2_; have GW17002 := n3_; have GE17002 := n4_; have NB17001_17002 := n5_; have NB17002_17001 := n6_; clear n0_ n1_ n2_ n3_ n4_ n5_ n6_; clear hb hbox hg) | ((with_reducible refine gate_dst (N := 8) rfl ?_); (try (refine gate_guard (by rfl) ?_; dsimp only)); refine box_event ?hg (N := 8) ?hd (cs := #[.int .i64 0, .int .i64 0, .string (⟨#[]⟩ : ByteArray), .slice none 0 0]) (t := 34) ?hr ?_; (case hd => rfl); (case hg => rfl); (case hr => first | (go_simp; done) | (go_simp; rfl)); intro gb17003 hg w8 hbox hb; have n0_ := Aside0.mk (blk_below (g := gb17001) (o := .cells #[.slice A0_0 l0_0.length c0_0, .int .i64 a0_1, .int .i64 a0_2] 26 (0, 0)) (by (with_reducible repeat (first | refine blk_drewN ?_ _ | refine blk_drew ?_ | refine blk_alloc ?_ _)); exact BK17001.out) hb); have n1_ := Aside0.mk (blk_below (g := gb17002) (o := .cells #[.slice A1_0 l1_0.length c1_0, .int .i64 a1_1] 29 (0, 0)) (by (with_reducible repeat (first | refine blk_drewN ?_ _ | refine blk_drew ?_ | refine blk_alloc ?_ _)); exact BK17002.out) hb); have n2_ := Aside0.mk (below_step (by repeat (first | (with_reducible first | exact HB.out | apply below_alloc | apply pw_below_drewN | apply below_drew1 | refine below_set ?_ GE17001.out | refine below_set ?_ GE17002.out) | exact HB.out)) hb); have n3_ := Aside0.mk (hbox); have n4_ := Aside0.mk ((by rw [hg]; exact (below_size (by repeat (first | (with_reducible first | exact HB.out | apply below_alloc | apply pw_below_drewN | apply below_drew1 | refine below_set ?_ GE17001.out | refine below_set ?_ GE17002.out) | exact HB.out))) : w.heap.size ≤ gb17003)); have n5_ := Aside0.mk ((by rw [hg]; exact (below_size (by repeat (first | (with_reducible first | exact HB.out | apply below_alloc | apply pw_below_drewN | apply below_drew1 | refine below_set ?_ GE17001.out | refine below_set ?_ GE17002.out) | exact HB.out))) : w.heap.size ≤ gb17003)); have n6_ := Aside0.mk ((by rw [hg]; exact Nat.ne_of_lt (blk_lt (g := gb17001) (o := .cells #[.slice A0_0 l0_0.length c0_0, .int .i64 a0_1, .int .i64 a0_2] 26 (0, 0)) (by (with_reducible repeat (first | refine blk_drewN ?_ _ | refine blk_drew ?_ | refine blk_alloc ?_ _)); exact BK17001.out)) : gb17001 ≠ gb17003)); have n7_ := Aside0.mk ((by rw [hg]; exact Nat.ne_of_gt (blk_lt (g := gb17001) (o := .cells #[.slice A0_0 l0_0.length c0_0, .int .i64 a0_1, .int .i64 a0_2] 26 (0, 0)) (by (with_reducible repeat (first | refine blk_drewN ?_ _ | refine blk_drew ?_ | refine blk_alloc ?_ _)); exact BK17001.out)) : gb17003 ≠ gb17001)); have n8_ := Aside0.mk ((by rw [hg]; exact Nat.ne_of_lt (blk_lt (g := gb17002) (o := .cells #[.slice A1_0 l1_0.length c1_0, .int .i64 a1_1] 29 (0, 0)) (by (with_reducible repeat (first | refine blk_drewN ?_ _ | refine blk_drew ?_ | refine blk_alloc ?_ _)); exact BK17002.out)) : gb17002 ≠ gb17003)); have n9_ := Aside0.mk ((by rw [hg]; exact Nat.ne_of_gt (blk_lt (g := gb17002) (o := .cells #[.slice A1_0 l1_0.length c1_0, .int .i64 a1_1] 29 (0, 0)) (by (with_reducible repeat (first | refine blk_drewN ?_ _ | refine blk_drew ?_ | refine blk_alloc ?_ _)); exact BK17002.out)) : gb17003 ≠ gb17002)); clear BK17001; clear BK17002; clear HB; have BK17001 := n0_; have BK17002 := n1_; have HB := n2_; have BK17003 := n3_; have GW17003 := n4_; have GE17003 := n5_; have NB17001_17003 := n6_; have NB17003_17001 := n7_; have NB17002_17003 := n8_; have NB17003_17002 := n9_; clear n0_ n1_ n2_ n3_ n4_ n5_ n6_ n7_ n8_ n9_; clear hb hbox hg))
  (try simp only [Act.put, List.setIfInBounds_toArray, List.set_cons_zero, List.set_cons_succ])
  go_cut [31] (fun v31 wc => ∃ (kq : Nat) (x31_4 : Bool), v31 = .bool x31_4 ∧ Aside0 (impl_Reverse.j0 kq a2 a3 x31_4 l1_0 a1_1 = some (r1, r2, r3, r4, r5)) ∧ Aside0 (kq ≤ k) ∧ Aside0 (wc.heap[gb17001]? = some (.cells #[(.slice A0_0 l0_0.length c0_0), .int .i64 a0_1, .int .i64 a0_2] 26 (0, 0))) ∧ Aside0 (wc.heap[gb17002]? = some (.cells #[(.slice A1_0 l1_0.length c1_0), .int .i64 a1_1] 29 (0, 0))) ∧ Aside0 (wc.heap[gb17003]? = some (.cells #[.int .i64 0, .int .i64 0, .string (⟨#[]⟩ : ByteArray), (.slice none 0 0)] 34 (0, 0))) ∧ Aside0 (Below w.heap.size w wc))
  case first =>
    have H := HC5.out
    clear HC5
    replace H := Option.bind_eq_some_iff.mp H
    obtain ⟨t17004, A90, H⟩ := H
    replace H : (if t17004 = true then (if a2 < 0 then (impl_Reverse.j0 k a2 a3 true l1_0 a1_1) else (if a2 ≥ (l1_0.length : Int) then (impl_Reverse.j0 k a2 a3 true l1_0 a1_1) else ((impl_isDay.f a3).bind fun t17005 => (impl_Reverse.j0 k a2 a3 (!t17005) l1_0 a1_1)))) else (impl_Reverse.j0 k a2 a3 true l1_0 a1_1)) = some (r1, r2, r3, r4, r5) := H
    have A9 := Aside0.mk A90
    clear A90
    by_cases c10 : t17004 = true
    · subst c10
      have H1 : (if a2 < 0 then (impl_Reverse.j0 k a2 a3 true l1_0 a1_1) else (if a2 ≥ (l1_0.length : Int) then (impl_Reverse.j0 k a2 a3 true l1_0 a1_1) else ((impl_isDay.f a3).bind fun t17005 => (impl_Reverse.j0 k a2 a3 (!t17005) l1_0 a1_1)))) = some (r1, r2, r3, r4, r5) := by rw [if_pos rfl] at H; exact H
      clear H
      have H := H1
      clear H1
      by_cases c11 : a2 < 0
      · rw [if_pos c11] at H
        have c11b0 : decide (a2 < 0) = true := decide_eq_true c11
        clear c11
        (first | rw [c11b0] | (simp only [i64_w, i32_w]; rw [c11b0]) | skip)
        have H' := Aside0.mk H
        clear H
        have hnb12 := NB17001_17002.out
        have hnc12 := NB17002_17001.out
        have hnb13 := NB17001_17003.out
        have hnc13 := NB17003_17001.out
        have hcz14_0 : w8.cell? ⟨gb17001, 0, none⟩ = some (.slice A0_0 l0_0.length c0_0) := (blk_cell BK17001.out 0).trans rfl
        have hcz14_1 : w8.cell? ⟨gb17001, 1, none⟩ = some (.int .i64 a0_1) := (blk_cell BK17001.out 1).trans rfl
        have hcz14_2 : w8.cell? ⟨gb17001, 2, none⟩ = some (.int .i64 a0_2) := (blk_cell BK17001.out 2).trans rfl
        have hfz14_0 := blk_frozen BK17001.out 0
        have hfz14_1 := blk_frozen BK17001.out 1
        have hfz14_2 := blk_frozen BK17001.out 2
        have hnb15 := NB17002_17003.out
        have hnc15 := NB17003_17002.out
        have hcz16_0 : w8.cell? ⟨gb17002, 0, none⟩ = some (.slice A1_0 l1_0.length c1_0) := (blk_cell BK17002.out 0).trans rfl
        have hcz16_1 : w8.cell? ⟨gb17002, 1, none⟩ = some (.int .i64 a1_1) := (blk_cell BK17002.out 1).trans rfl
        have hfz16_0 := blk_frozen BK17002.out 0
        have hfz16_1 := blk_frozen BK17002.out 1
        go_wp2_with (first | ((with_reducible refine gate_callee (f := 22) rfl ?_); refine goesL_ (some 14) rfl rfl Try.func22 (by kernel_rfl) rfl #[.agg #[.slice A0_0 l0_0.length c0_0, .int .i64 a0_1, .int .i64 a0_2], .agg #[.slice A1_0 l1_0.length c1_0, .int .i64 a1_1]] rfl (by (try simp only [List.map_toArray, List.map_cons, List.map_nil]); first | done | rfl | (simp only [List.length_drop, List.length_take]; rfl)) ?_; (with_reducible refine (impl_LedgerOk.calls _ _ l0_0 a0_1 a0_2 _ _ l1_0 a1_1 true _ ?side1 ?side2 ?side3 ?side4 A9.out).mono ?_); (case side1 => repeat (first | exact (Kd.C_below HR0_0.out HB.out) | (with_reducible refine Kd.C_alloc ?_ _) | (with_reducible refine Kd.C_drewN ?_ _) | (with_reducible refine Kd.C_drew ?_))); (case side2 => exact HC0_0.out); (case side3 => repeat (first | exact (Kd.C_below HR1_0.out HB.out) | (with_reducible refine Kd.C_alloc ?_ _) | (with_reducible refine Kd.C_drewN ?_ _) | (with_reducible refine Kd.C_drew ?_))); (case side4 => exact HC1_0.out); rintro e w17 ⟨rfl, hb⟩; refine ⟨_, rfl, ?_⟩; have n0_ := Aside0.mk (blk_below (g := gb17001) (o := .cells #[.slice A0_0 l0_0.length c0_0, .int .i64 a0_1, .int .i64 a0_2] 26 (0, 0)) (by (with_reducible repeat (first | refine blk_drewN ?_ _ | refine blk_drew ?_ | refine blk_alloc ?_ _)); exact BK17001.out) hb); have n1_ := Aside0.mk (blk_below (g := gb17002) (o := .cells #[.slice A1_0 l1_0.length c1_0, .int .i64 a1_1] 29 (0, 0)) (by (with_reducible repeat (first | refine blk_drewN ?_ _ | refine blk_drew ?_ | refine blk_alloc ?_ _)); exact BK17002.out) hb); have n2_ := Aside0.mk (blk_below (g := gb17003) (o := .cells #[.int .i64 0, .int .i64 0, .string (⟨#[]⟩ : ByteArray), .slice none 0 0] 34 (0, 0)) (by (with_reducible repeat (first | refine blk_drewN ?_ _ | refine blk_drew ?_ | refine blk_alloc ?_ _)); exact BK17003.out) hb); have n3_ := Aside0.mk (below_step (by repeat (first | (with_reducible first | exact HB.out | apply below_alloc | apply pw_below_drewN | apply below_drew1 | refine below_set ?_ GE17001.out | refine below_set ?_ GE17002.out | refine below_set ?_ GE17003.out) | exact HB.out)) hb); clear BK17001; clear BK17002; clear BK17003; clear HB; have BK17001 := n0_; have BK17002 := n1_; have BK17003 := n2_; have HB := n3_; clear n0_ n1_ n2_ n3_; (try clear hb); (try clear hb2); (try clear hk); (try clear hi)))
        go_meet
        case rel => exact ⟨_, (true), (by first | rfl | (simp; done) | (simp [*]; done)), H', ⟨by first | omega | exact Nat.le_refl _⟩, ⟨by (with_reducible repeat (first | refine blk_drewN ?_ _ | refine blk_drew ?_ | refine blk_alloc ?_ _)); exact BK17001.out⟩, ⟨by (with_reducible repeat (first | refine blk_drewN ?_ _ | refine blk_drew ?_ | refine blk_alloc ?_ _)); exact BK17002.out⟩, ⟨by (with_reducible repeat (first | refine blk_drewN ?_ _ | refine blk_drew ?_ | refine blk_alloc ?_ _)); exact BK17003.out⟩, ⟨by repeat (first | (with_reducible first | exact HB.out | apply below_alloc | apply pw_below_drewN | apply below_drew1 | refine below_set ?_ GE17001.out | refine below_set ?_ GE17002.out | refine below_set ?_ GE17003.out) | exact HB.out)⟩⟩
      · rw [if_neg c11] at H
        have c11b0 : decide (a2 < 0) = false := decide_eq_false c11
        clear c11
        (first | rw [c11b0] | (simp only [i64_w, i32_w]; rw [c11b0]) | skip)
        by_cases c18 : a2 ≥ (l1_0.length : Int)
        · rw [if_pos c18] at H
          have c18b0 : decide ((l1_0.length : Int) ≤ a2) = true := decide_eq_true c18
          clear c18
          have H' := Aside0.mk H
          clear H
          have hnb19 := NB17001_17002.out
          have hnc19 := NB17002_17001.out
          have hnb20 := NB17001_17003.out
          have hnc20 := NB17003_17001.out
          have hcz21_0 : w8.cell? ⟨gb17001, 0, none⟩ = some (.slice A0_0 l0_0.length c0_0) := (blk_cell BK17001.out 0).trans rfl
          have hcz21_1 : w8.cell? ⟨gb17001, 1, none⟩ = some (.int .i64 a0_1) := (blk_cell BK17001.out 1).trans rfl
          have hcz21_2 : w8.cell? ⟨gb17001, 2, none⟩ = some (.int .i64 a0_2) := (blk_cell BK17001.out 2).trans rfl
          have hfz21_0 := blk_frozen BK17001.out 0
          have hfz21_1 := blk_frozen BK17001.out 1
          have hfz21_2 := blk_frozen BK17001.out 2
          have hnb22 := NB17002_17003.out
          have hnc22 := NB17003_17002.out
          have hcz23_0 : w8.cell? ⟨gb17002, 0, none⟩ = some (.slice A1_0 l1_0.length c1_0) := (blk_cell BK17002.out 0).trans rfl
          have hcz23_1 : w8.cell? ⟨gb17002, 1, none⟩ = some (.int .i64 a1_1) := (blk_cell BK17002.out 1).trans rfl
          have hfz23_0 := blk_frozen BK17002.out 0
          have hfz23_1 := blk_frozen BK17002.out 1
          go_wp2_with (first | ((with_reducible refine gate_callee (f := 22) rfl ?_); refine goesL_ (some 14) rfl rfl Try.func22 (by kernel_rfl) rfl #[.agg #[.slice A0_0 l0_0.length c0_0, .int .i64 a0_1, .int .i64 a0_2], .agg #[.slice A1_0 l1_0.length c1_0, .int .i64 a1_1]] rfl (by (try simp only [List.map_toArray, List.map_cons, List.map_nil]); first | done | rfl | (simp only [List.length_drop, List.length_take]; rfl)) ?_; (with_reducible refine (impl_LedgerOk.calls _ _ l0_0 a0_1 a0_2 _ _ l1_0 a1_1 true _ ?side1 ?side2 ?side3 ?side4 A9.out).mono ?_); (case side1 => repeat (first | exact (Kd.C_below HR0_0.out HB.out) | (with_reducible refine Kd.C_alloc ?_ _) | (with_reducible refine Kd.C_drewN ?_ _) | (with_reducible refine Kd.C_drew ?_))); (case side2 => exact HC0_0.out); (case side3 => repeat (first | exact (Kd.C_below HR1_0.out HB.out) | (with_reducible refine Kd.C_alloc ?_ _) | (with_reducible refine Kd.C_drewN ?_ _) | (with_reducible refine Kd.C_drew ?_))); (case side4 => exact HC1_0.out); rintro e w24 ⟨rfl, hb⟩; refine ⟨_, rfl, ?_⟩; have n0_ := Aside0.mk (blk_below (g := gb17001) (o := .cells #[.slice A0_0 l0_0.length c0_0, .int .i64 a0_1, .int .i64 a0_2] 26 (0, 0)) (by (with_reducible repeat (first | refine blk_drewN ?_ _ | refine blk_drew ?_ | refine blk_alloc ?_ _)); exact BK17001.out) hb); have n1_ := Aside0.mk (blk_below (g := gb17002) (o := .cells #[.slice A1_0 l1_0.length c1_0, .int .i64 a1_1] 29 (0, 0)) (by (with_reducible repeat (first | refine blk_drewN ?_ _ | refine blk_drew ?_ | refine blk_alloc ?_ _)); exact BK17002.out) hb); have n2_ := Aside0.mk (blk_below (g := gb17003) (o := .cells #[.int .i64 0, .int .i64 0, .string (⟨#[]⟩ : ByteArray), .slice none 0 0] 34 (0, 0)) (by (with_reducible repeat (first | refine blk_drewN ?_ _ | refine blk_drew ?_ | refine blk_alloc ?_ _)); exact BK17003.out) hb); have n3_ := Aside0.mk (below_step (by repeat (first | (with_reducible first | exact HB.out | apply below_alloc | apply pw_below_drewN | apply below_drew1 | refine below_set ?_ GE17001.out | refine below_set ?_ GE17002.out | refine below_set ?_ GE17003.out) | exact HB.out)) hb); clear BK17001; clear BK17002; clear BK17003; clear HB; have BK17001 := n0_; have BK17002 := n1_; have BK17003 := n2_; have HB := n3_; clear n0_ n1_ n2_ n3_; (try clear hb); (try clear hb2); (try clear hk); (try clear hi); have hcz25_0 : w24.cell? ⟨gb17002, 0, none⟩ = some (.slice A1_0 l1_0.length c1_0) := (blk_cell BK17002.out 0).trans rfl; have hcz25_1 : w24.cell? ⟨gb17002, 1, none⟩ = some (.int .i64 a1_1) := (blk_cell BK17002.out 1).trans rfl; have hfz25_0 := blk_frozen BK17002.out 0; have hfz25_1 := blk_frozen BK17002.out 1))
          go_meet
          case rel => exact ⟨_, (true), (by first | rfl | (simp; done) | (simp [*]; done)), H', ⟨by first | omega | exact Nat.le_refl _⟩, ⟨by (with_reducible repeat (first | refine blk_drewN ?_ _ | refine blk_drew ?_ | refine blk_alloc ?_ _)); exact BK17001.out⟩, ⟨by (with_reducible repeat (first | refine blk_drewN ?_ _ | refine blk_drew ?_ | refine blk_alloc ?_ _)); exact BK17002.out⟩, ⟨by (with_reducible repeat (first | refine blk_drewN ?_ _ | refine blk_drew ?_ | refine blk_alloc ?_ _)); exact BK17003.out⟩, ⟨by repeat (first | (with_reducible first | exact HB.out | apply below_alloc | apply pw_below_drewN | apply below_drew1 | refine below_set ?_ GE17001.out | refine below_set ?_ GE17002.out | refine below_set ?_ GE17003.out) | exact HB.out)⟩⟩
        · rw [if_neg c18] at H
          have c18b0 : decide ((l1_0.length : Int) ≤ a2) = false := decide_eq_false c18
          clear c18
          replace H := Option.bind_eq_some_iff.mp H
          obtain ⟨t17005, A260, H⟩ := H
          replace H : (impl_Reverse.j0 k a2 a3 (!t17005) l1_0 a1_1) = some (r1, r2, r3, r4, r5) := H
          have A26 := Aside0.mk A260
          clear A260
          have H' := Aside0.mk H
          clear H
          have hnb27 := NB17001_17002.out
          have hnc27 := NB17002_17001.out
          have hnb28 := NB17001_17003.out
          have hnc28 := NB17003_17001.out
          have hcz29_0 : w8.cell? ⟨gb17001, 0, none⟩ = some (.slice A0_0 l0_0.length c0_0) := (blk_cell BK17001.out 0).trans rfl
          have hcz29_1 : w8.cell? ⟨gb17001, 1, none⟩ = some (.int .i64 a0_1) := (blk_cell BK17001.out 1).trans rfl
          have hcz29_2 : w8.cell? ⟨gb17001, 2, none⟩ = some (.int .i64 a0_2) := (blk_cell BK17001.out 2).trans rfl
          have hfz29_0 := blk_frozen BK17001.out 0
          have hfz29_1 := blk_frozen BK17001.out 1
          have hfz29_2 := blk_frozen BK17001.out 2
          have hnb30 := NB17002_17003.out
          have hnc30 := NB17003_17002.out
          have hcz31_0 : w8.cell? ⟨gb17002, 0, none⟩ = some (.slice A1_0 l1_0.length c1_0) := (blk_cell BK17002.out 0).trans rfl
          have hcz31_1 : w8.cell? ⟨gb17002, 1, none⟩ = some (.int .i64 a1_1) := (blk_cell BK17002.out 1).trans rfl
          have hfz31_0 := blk_frozen BK17002.out 0
          have hfz31_1 := blk_frozen BK17002.out 1
          go_wp2_with (first | ((with_reducible refine gate_callee (f := 22) rfl ?_); refine goesL_ (some 14) rfl rfl Try.func22 (by kernel_rfl) rfl #[.agg #[.slice A0_0 l0_0.length c0_0, .int .i64 a0_1, .int .i64 a0_2], .agg #[.slice A1_0 l1_0.length c1_0, .int .i64 a1_1]] rfl (by (try simp only [List.map_toArray, List.map_cons, List.map_nil]); first | done | rfl | (simp only [List.length_drop, List.length_take]; rfl)) ?_; (with_reducible refine (impl_LedgerOk.calls _ _ l0_0 a0_1 a0_2 _ _ l1_0 a1_1 true _ ?side1 ?side2 ?side3 ?side4 A9.out).mono ?_); (case side1 => repeat (first | exact (Kd.C_below HR0_0.out HB.out) | (with_reducible refine Kd.C_alloc ?_ _) | (with_reducible refine Kd.C_drewN ?_ _) | (with_reducible refine Kd.C_drew ?_))); (case side2 => exact HC0_0.out); (case side3 => repeat (first | exact (Kd.C_below HR1_0.out HB.out) | (with_reducible refine Kd.C_alloc ?_ _) | (with_reducible refine Kd.C_drewN ?_ _) | (with_reducible refine Kd.C_drew ?_))); (case side4 => exact HC1_0.out); rintro e w32 ⟨rfl, hb⟩; refine ⟨_, rfl, ?_⟩; have n0_ := Aside0.mk (blk_below (g := gb17001) (o := .cells #[.slice A0_0 l0_0.length c0_0, .int .i64 a0_1, .int .i64 a0_2] 26 (0, 0)) (by (with_reducible repeat (first | refine blk_drewN ?_ _ | refine blk_drew ?_ | refine blk_alloc ?_ _)); exact BK17001.out) hb); have n1_ := Aside0.mk (blk_below (g := gb17002) (o := .cells #[.slice A1_0 l1_0.length c1_0, .int .i64 a1_1] 29 (0, 0)) (by (with_reducible repeat (first | refine blk_drewN ?_ _ | refine blk_drew ?_ | refine blk_alloc ?_ _)); exact BK17002.out) hb); have n2_ := Aside0.mk (blk_below (g := gb17003) (o := .cells #[.int .i64 0, .int .i64 0, .string (⟨#[]⟩ : ByteArray), .slice none 0 0] 34 (0, 0)) (by (with_reducible repeat (first | refine blk_drewN ?_ _ | refine blk_drew ?_ | refine blk_alloc ?_ _)); exact BK17003.out) hb); have n3_ := Aside0.mk (below_step (by repeat (first | (with_reducible first | exact HB.out | apply below_alloc | apply pw_below_drewN | apply below_drew1 | refine below_set ?_ GE17001.out | refine below_set ?_ GE17002.out | refine below_set ?_ GE17003.out) | exact HB.out)) hb); clear BK17001; clear BK17002; clear BK17003; clear HB; have BK17001 := n0_; have BK17002 := n1_; have BK17003 := n2_; have HB := n3_; clear n0_ n1_ n2_ n3_; (try clear hb); (try clear hb2); (try clear hk); (try clear hi); have hcz33_0 : w32.cell? ⟨gb17002, 0, none⟩ = some (.slice A1_0 l1_0.length c1_0) := (blk_cell BK17002.out 0).trans rfl; have hcz33_1 : w32.cell? ⟨gb17002, 1, none⟩ = some (.int .i64 a1_1) := (blk_cell BK17002.out 1).trans rfl; have hfz33_0 := blk_frozen BK17002.out 0; have hfz33_1 := blk_frozen BK17002.out 1) | (go_at_call 75; (with_reducible refine (impl_isDay.calls a3 t17005 _ A26.out).mono ?_); rintro e w' ⟨rfl, ⟨nd, rfl⟩⟩))
          go_meet
          case rel => exact ⟨_, (!t17005), (by first | rfl | (simp; done) | (simp [*]; done)), H', ⟨by first | omega | exact Nat.le_refl _⟩, ⟨by (with_reducible repeat (first | refine blk_drewN ?_ _ | refine blk_drew ?_ | refine blk_alloc ?_ _)); exact BK17001.out⟩, ⟨by (with_reducible repeat (first | refine blk_drewN ?_ _ | refine blk_drew ?_ | refine blk_alloc ?_ _)); exact BK17002.out⟩, ⟨by (with_reducible repeat (first | refine blk_drewN ?_ _ | refine blk_drew ?_ | refine blk_alloc ?_ _)); exact BK17003.out⟩, ⟨by repeat (first | (with_reducible first | exact HB.out | apply below_alloc | apply pw_below_drewN | apply below_drew1 | refine below_set ?_ GE17001.out | refine below_set ?_ GE17002.out | refine below_set ?_ GE17003.out) | exact HB.out)⟩⟩
    · replace c10 := Bool.eq_false_iff.mpr c10
      subst c10
      have H1 : (impl_Reverse.j0 k a2 a3 true l1_0 a1_1) = some (r1, r2, r3, r4, r5) := by rw [if_neg (show ¬ (false = true) by decide)] at H; exact H
      clear H
      have H := H1
      clear H1
      have H' := Aside0.mk H
      clear H
      have hnb34 := NB17001_17002.out
      have hnc34 := NB17002_17001.out
      have hnb35 := NB17001_17003.out
      have hnc35 := NB17003_17001.out
      have hcz36_0 : w8.cell? ⟨gb17001, 0, none⟩ = some (.slice A0_0 l0_0.length c0_0) := (blk_cell BK17001.out 0).trans rfl
      have hcz36_1 : w8.cell? ⟨gb17001, 1, none⟩ = some (.int .i64 a0_1) := (blk_cell BK17001.out 1).trans rfl
      have hcz36_2 : w8.cell? ⟨gb17001, 2, none⟩ = some (.int .i64 a0_2) := (blk_cell BK17001.out 2).trans rfl
      have hfz36_0 := blk_frozen BK17001.out 0
      have hfz36_1 := blk_frozen BK17001.out 1
      have hfz36_2 := blk_frozen BK17001.out 2
      have hnb37 := NB17002_17003.out
      have hnc37 := NB17003_17002.out
      have hcz38_0 : w8.cell? ⟨gb17002, 0, none⟩ = some (.slice A1_0 l1_0.length c1_0) := (blk_cell BK17002.out 0).trans rfl
      have hcz38_1 : w8.cell? ⟨gb17002, 1, none⟩ = some (.int .i64 a1_1) := (blk_cell BK17002.out 1).trans rfl
      have hfz38_0 := blk_frozen BK17002.out 0
      have hfz38_1 := blk_frozen BK17002.out 1
      go_wp2_with (first | ((with_reducible refine gate_callee (f := 22) rfl ?_); refine goesL_ (some 14) rfl rfl Try.func22 (by kernel_rfl) rfl #[.agg #[.slice A0_0 l0_0.length c0_0, .int .i64 a0_1, .int .i64 a0_2], .agg #[.slice A1_0 l1_0.length c1_0, .int .i64 a1_1]] rfl (by (try simp only [List.map_toArray, List.map_cons, List.map_nil]); first | done | rfl | (simp only [List.length_drop, List.length_take]; rfl)) ?_; (with_reducible refine (impl_LedgerOk.calls _ _ l0_0 a0_1 a0_2 _ _ l1_0 a1_1 false _ ?side1 ?side2 ?side3 ?side4 A9.out).mono ?_); (case side1 => repeat (first | exact (Kd.C_below HR0_0.out HB.out) | (with_reducible refine Kd.C_alloc ?_ _) | (with_reducible refine Kd.C_drewN ?_ _) | (with_reducible refine Kd.C_drew ?_))); (case side2 => exact HC0_0.out); (case side3 => repeat (first | exact (Kd.C_below HR1_0.out HB.out) | (with_reducible refine Kd.C_alloc ?_ _) | (with_reducible refine Kd.C_drewN ?_ _) | (with_reducible refine Kd.C_drew ?_))); (case side4 => exact HC1_0.out); rintro e w39 ⟨rfl, hb⟩; refine ⟨_, rfl, ?_⟩; have n0_ := Aside0.mk (blk_below (g := gb17001) (o := .cells #[.slice A0_0 l0_0.length c0_0, .int .i64 a0_1, .int .i64 a0_2] 26 (0, 0)) (by (with_reducible repeat (first | refine blk_drewN ?_ _ | refine blk_drew ?_ | refine blk_alloc ?_ _)); exact BK17001.out) hb); have n1_ := Aside0.mk (blk_below (g := gb17002) (o := .cells #[.slice A1_0 l1_0.length c1_0, .int .i64 a1_1] 29 (0, 0)) (by (with_reducible repeat (first | refine blk_drewN ?_ _ | refine blk_drew ?_ | refine blk_alloc ?_ _)); exact BK17002.out) hb); have n2_ := Aside0.mk (blk_below (g := gb17003) (o := .cells #[.int .i64 0, .int .i64 0, .string (⟨#[]⟩ : ByteArray), .slice none 0 0] 34 (0, 0)) (by (with_reducible repeat (first | refine blk_drewN ?_ _ | refine blk_drew ?_ | refine blk_alloc ?_ _)); exact BK17003.out) hb); have n3_ := Aside0.mk (below_step (by repeat (first | (with_reducible first | exact HB.out | apply below_alloc | apply pw_below_drewN | apply below_drew1 | refine below_set ?_ GE17001.out | refine below_set ?_ GE17002.out | refine below_set ?_ GE17003.out) | exact HB.out)) hb); clear BK17001; clear BK17002; clear BK17003; clear HB; have BK17001 := n0_; have BK17002 := n1_; have BK17003 := n2_; have HB := n3_; clear n0_ n1_ n2_ n3_; (try clear hb); (try clear hb2); (try clear hk); (try clear hi)))
      go_meet
      case rel => exact ⟨_, (true), (by first | rfl | (simp; done) | (simp [*]; done)), H', ⟨by first | omega | exact Nat.le_refl _⟩, ⟨by (with_reducible repeat (first | refine blk_drewN ?_ _ | refine blk_drew ?_ | refine blk_alloc ?_ _)); exact BK17001.out⟩, ⟨by (with_reducible repeat (first | refine blk_drewN ?_ _ | refine blk_drew ?_ | refine blk_alloc ?_ _)); exact BK17002.out⟩, ⟨by (with_reducible repeat (first | refine blk_drewN ?_ _ | refine blk_drew ?_ | refine blk_alloc ?_ _)); exact BK17003.out⟩, ⟨by repeat (first | (with_reducible first | exact HB.out | apply below_alloc | apply pw_below_drewN | apply below_drew1 | refine below_set ?_ GE17001.out | refine below_set ?_ GE17002.out | refine below_set ?_ GE17003.out) | exact HB.out)⟩⟩
  case rest =>
    clear HC5
    try clear c1
    try clear c2
    try clear p2
    try clear c3
    try clear c10
    try clear c11
    try clear c11b0
    try clear c12
    try clear c13
    try clear c15
    try clear c16
    try clear c18
    try clear c18b0
    try clear c19
    try clear c20
    try clear c22
    try clear c27
    try clear c28
    try clear c30
    try clear c34
    try clear c35
    try clear c37
    try clear hcz14_0
    try clear hcz14_1
    try clear hcz14_2
    try clear hcz16_0
    try clear hcz16_1
    try clear hcz21_0
    try clear hcz21_1
    try clear hcz21_2
    try clear hcz23_0
    try clear hcz23_1
    try clear hcz25_0
    try clear hcz25_1
    try clear hcz29_0
    try clear hcz29_1
    try clear hcz29_2
    try clear hcz31_0
    try clear hcz31_1
    try clear hcz33_0
    try clear hcz33_1
    try clear hcz36_0
    try clear hcz36_1
    try clear hcz36_2
    try clear hcz38_0
    try clear hcz38_1
    try clear hfz14_0
    try clear hfz14_1
    try clear hfz14_2
    try clear hfz16_0
    try clear hfz16_1
    try clear hfz21_0
    try clear hfz21_1
    try clear hfz21_2
    try clear hfz23_0
    try clear hfz23_1
    try clear hfz25_0
    try clear hfz25_1
    try clear hfz29_0
    try clear hfz29_1
    try clear hfz29_2
    try clear hfz31_0
    try clear hfz31_1
    try clear hfz33_0
    try clear hfz33_1
    try clear hfz36_0
    try clear hfz36_1
    try clear hfz36_2
    try clear hfz38_0
    try clear hfz38_1
    obtain ⟨kq, x31_4, rfl, HA, HJ4, BK17001, BK17002, BK17003, HB⟩ := hcut
    cases kq with
    | zero => exact absurd HA.out (by simp [impl_Reverse.j0])
    | succ kj4 =>
      have H := HA.out
      clear HA
      simp only [impl_Reverse.j0] at H
      by_cases c40 : x31_4 = true
      · subst c40
        have H1 : (some (0, 0, (⟨#[]⟩ : ByteArray), ([] : List (S112)), false)) = some (r1, r2, r3, r4, r5) := by rw [if_pos rfl] at H; exact H
        clear H
        have H := H1
        clear H1
        simp only [Option.some.injEq, Prod.mk.injEq] at H
        obtain ⟨rfl, rfl, rfl, rfl, rfl⟩ := H
        have hnb41 := NB17003_17001.out
        have hnc41 := NB17001_17003.out
        have hnb42 := NB17003_17002.out
        have hnc42 := NB17002_17003.out
        have hcz43_0 : wc.cell? ⟨gb17003, 0, none⟩ = some (.int .i64 0) := (blk_cell BK17003.out 0).trans rfl
        have hcz43_1 : wc.cell? ⟨gb17003, 1, none⟩ = some (.int .i64 0) := (blk_cell BK17003.out 1).trans rfl
        have hcz43_2 : wc.cell? ⟨gb17003, 2, none⟩ = some (.string (⟨#[]⟩ : ByteArray)) := (blk_cell BK17003.out 2).trans rfl
        have hcz43_3 : wc.cell? ⟨gb17003, 3, none⟩ = some (.slice none 0 0) := (blk_cell BK17003.out 3).trans rfl
        have hfz43_0 := blk_frozen BK17003.out 0
        have hfz43_1 := blk_frozen BK17003.out 1
        have hfz43_2 := blk_frozen BK17003.out 2
        have hfz43_3 := blk_frozen BK17003.out 3
        go_wp2
        refine bodyPost_ret (results_ct rfl _ _ gb17003 34 #[.int .i64 0, .int .i64 0, .string (⟨#[]⟩ : ByteArray), .slice none 0 0] (0, 0) _ rfl (by (with_reducible repeat (first | refine blk_drewN ?_ _ | refine blk_drew ?_ | refine blk_alloc ?_ _)); refine blk_put (cs := #[.int .i64 0, .int .i64 0, .string (⟨#[]⟩ : ByteArray), .slice none 0 0]) ?_ 3 _ rfl; (with_reducible repeat (first | refine blk_drewN ?_ _ | refine blk_drew ?_ | refine blk_alloc ?_ _)); refine blk_put (cs := #[.int .i64 0, .int .i64 0, .string (⟨#[]⟩ : ByteArray), .slice none 0 0]) ?_ 2 _ rfl; (with_reducible repeat (first | refine blk_drewN ?_ _ | refine blk_drew ?_ | refine blk_alloc ?_ _)); refine blk_put (cs := #[.int .i64 0, .int .i64 0, .string (⟨#[]⟩ : ByteArray), .slice none 0 0]) ?_ 1 _ rfl; (with_reducible repeat (first | refine blk_drewN ?_ _ | refine blk_drew ?_ | refine blk_alloc ?_ _)); refine blk_put (cs := #[.int .i64 0, .int .i64 0, .string (⟨#[]⟩ : ByteArray), .slice none 0 0]) ?_ 0 _ rfl; (with_reducible repeat (first | refine blk_drewN ?_ _ | refine blk_drew ?_ | refine blk_alloc ?_ _)); exact BK17003.out) Try.underlying34 rfl (by kernel_rfl)) rfl ?_
        exact ⟨_, by first | rfl | (simp [errW_none, errW_some] <;> rfl) | (simp [*, errW_none, errW_some] <;> rfl), by first | exact Kd.R_nil _ _ _ _ _ | exact Kd.N_nil _ _ _ _ _ | exact Kd.V_nil _ _ _ _ _ | exact Kd.Q_nil _ _ _ _ _ | exact Kd.S_nil _ _ _ _ _, by repeat (first | (with_reducible first | exact HB.out | apply below_alloc | apply pw_below_drewN | apply below_drew1 | refine below_set ?_ GE17001.out | refine below_set ?_ GE17002.out | refine below_set ?_ GE17003.out) | exact HB.out)⟩
      · replace c40 := Bool.eq_false_iff.mpr c40
        subst c40
        have H1 : (if 0 ≤ a2 then (if a2 < (l1_0.length : Int) then ((impl_copyEntry.f ((rd_T34 l1_0 a2).f0) ((rd_T34 l1_0 a2).f1) ((rd_T34 l1_0 a2).f2) ((rd_T34 l1_0 a2).f3)).bind fun bt17007 => ((impl_decimal.f kj4 (wrap64 (a2 + 1))).bind fun t17014 => (if 8 + t17014.size ≤ 9223372036854775807 then (impl_Reverse.l0 kj4 (bt17007.2.2.2.length : Int) 0 a3 (wrap64 (a2 + 1)) ((⟨#[114, 101, 118, 101, 114, 115, 101, 32]⟩ : ByteArray) ++ t17014) bt17007.2.2.2) else (none)))) else (none)) else (none)) = some (r1, r2, r3, r4, r5) := by rw [if_neg (show ¬ (false = true) by decide)] at H; exact H
        clear H
        have H := H1
        clear H1
        by_cases c44 : 0 ≤ a2
        · rw [if_pos c44] at H
          have c44b0 : decide (0 ≤ a2) = true := decide_eq_true c44
          clear c44
          by_cases c45 : a2 < (l1_0.length : Int)
          · rw [if_pos c45] at H
            have c45b0 : decide (a2 < (l1_0.length : Int)) = true := decide_eq_true c45
            clear c45
            replace H := Option.bind_eq_some_iff.mp H
            obtain ⟨⟨t17007, t17008, t17009, t17010⟩, A460, H⟩ := H
            replace H : ((impl_decimal.f kj4 (wrap64 (a2 + 1))).bind fun t17014 => (if 8 + t17014.size ≤ 9223372036854775807 then (impl_Reverse.l0 kj4 (t17010.length : Int) 0 a3 (wrap64 (a2 + 1)) ((⟨#[114, 101, 118, 101, 114, 115, 101, 32]⟩ : ByteArray) ++ t17014) t17010) else (none))) = some (r1, r2, r3, r4, r5) := H
            have A46 := Aside0.mk A460
            clear A460
            replace H := Option.bind_eq_some_iff.mp H
            obtain ⟨t17014, A470, H⟩ := H
            replace H : (if 8 + t17014.size ≤ 9223372036854775807 then (impl_Reverse.l0 kj4 (t17010.length : Int) 0 a3 (wrap64 (a2 + 1)) ((⟨#[114, 101, 118, 101, 114, 115, 101, 32]⟩ : ByteArray) ++ t17014) t17010) else (none)) = some (r1, r2, r3, r4, r5) := H
            have A47 := Aside0.mk A470
            clear A470
            by_cases c48 : 8 + t17014.size ≤ 9223372036854775807
            · rw [if_pos c48] at H
              have c48b0 := eq_true c48
              have c48b1 : decide (8 + t17014.size ≤ 9223372036854775807) = true := decide_eq_true c48
              try have c48b2 : (9223372036854775807 < 8 + t17014.size) = False := eq_false (Nat.not_lt.2 c48)
              have H' := Aside0.mk H
              clear H
              have hnb49 := NB17002_17001.out
              have hnc49 := NB17001_17002.out
              have hnb50 := NB17002_17003.out
              have hnc50 := NB17003_17002.out
              have hcz51_0 : wc.cell? ⟨gb17002, 0, none⟩ = some (.slice A1_0 l1_0.length c1_0) := (blk_cell BK17002.out 0).trans rfl
              have hcz51_1 : wc.cell? ⟨gb17002, 1, none⟩ = some (.int .i64 a1_1) := (blk_cell BK17002.out 1).trans rfl
              have hfz51_0 := blk_frozen BK17002.out 0
              have hfz51_1 := blk_frozen BK17002.out 1
              have p17006 : 0 ≤ (a2 : Int) := of_decide_eq_true (by first | (with_reducible assumption) | assumption)
              have q17006 : a2 < (l1_0.length : Int) := of_decide_eq_true (by first | (with_reducible assumption) | assumption)
              obtain ⟨ad17006, A17006_3, c17006_3, e17006, hx17006_0, hx17006_1, hx17006_2, hx17006_3, hl17006_3, hi17006_3⟩ := at_T34 HR1_0.out a2 p17006 q17006
              cases e17006
              replace hx17006_0 := (HB.out.cell (World.block_lt_of_cell? w _ hx17006_0)).trans hx17006_0
              replace hx17006_1 := (HB.out.cell (World.block_lt_of_cell? w _ hx17006_1)).trans hx17006_1
              replace hx17006_2 := (HB.out.cell (World.block_lt_of_cell? w _ hx17006_2)).trans hx17006_2
              replace hx17006_3 := (HB.out.cell (World.block_lt_of_cell? w _ hx17006_3)).trans hx17006_3
              have HR17006_3 := Aside0.mk hi17006_3
              have HC17006_3 := Aside0.mk hl17006_3
              clear hi17006_3 hl17006_3
              replace p17006 := eq_true p17006
              replace q17006 := eq_true q17006
              go_wp2_with (first | ((with_reducible refine gate_callee (f := 76) rfl ?_); refine goesL_ (some 38) rfl rfl Try.func76 (by kernel_rfl) rfl #[.agg #[.int .i64 ((rd_T34 l1_0 a2).f0), .int .i64 ((rd_T34 l1_0 a2).f1), .string ((rd_T34 l1_0 a2).f2), .slice A17006_3 ((rd_T34 l1_0 a2).f3).length c17006_3]] rfl (by (try simp only [List.map_toArray, List.map_cons, List.map_nil]); first | done | rfl | (simp only [List.length_drop, List.length_take]; rfl)) ?_; (with_reducible refine (impl_copyEntry.calls ((rd_T34 l1_0 a2).f0) ((rd_T34 l1_0 a2).f1) ((rd_T34 l1_0 a2).f2) _ _ ((rd_T34 l1_0 a2).f3) t17007 t17008 t17009 t17010 _ ?side1 ?side2 A46.out).mono ?_); (case side1 => repeat (first | exact (Kd.C_below HR17006_3.out HB.out) | (with_reducible refine Kd.C_alloc ?_ _) | (with_reducible refine Kd.C_drewN ?_ _) | (with_reducible refine Kd.C_drew ?_))); (case side2 => exact HC17006_3.out); rintro e w52 ⟨v17011, rfl, ho0, hb⟩; refine ⟨_, rfl, ?_⟩; have n0_ := Aside0.mk (Kd.R_lower ho0 (below_size (by repeat (first | (with_reducible first | exact HB.out | apply below_alloc | apply pw_below_drewN | apply below_drew1 | refine below_set ?_ GE17001.out | refine below_set ?_ GE17002.out | refine below_set ?_ GE17003.out) | exact HB.out)))); have n1_ := Aside0.mk (blk_below (g := gb17001) (o := .cells #[.slice A0_0 l0_0.length c0_0, .int .i64 a0_1, .int .i64 a0_2] 26 (0, 0)) (by (with_reducible repeat (first | refine blk_drewN ?_ _ | refine blk_drew ?_ | refine blk_alloc ?_ _)); exact BK17001.out) hb); have n2_ := Aside0.mk (blk_below (g := gb17002) (o := .cells #[.slice (some ad17006) l1_0.length c1_0, .int .i64 a1_1] 29 (0, 0)) (by (with_reducible repeat (first | refine blk_drewN ?_ _ | refine blk_drew ?_ | refine blk_alloc ?_ _)); exact BK17002.out) hb); have n3_ := Aside0.mk (blk_below (g := gb17003) (o := .cells #[.int .i64 0, .int .i64 0, .string (⟨#[]⟩ : ByteArray), .slice none 0 0] 34 (0, 0)) (by (with_reducible repeat (first | refine blk_drewN ?_ _ | refine blk_drew ?_ | refine blk_alloc ?_ _)); exact BK17003.out) hb); have n4_ := Aside0.mk (below_step (by repeat (first | (with_reducible first | exact HB.out | apply below_alloc | apply pw_below_drewN | apply below_drew1 | refine below_set ?_ GE17001.out | refine below_set ?_ GE17002.out | refine below_set ?_ GE17003.out) | exact HB.out)) hb); clear BK17001; clear BK17002; clear BK17003; clear HB; have HO17012 := n0_; have BK17001 := n1_; have BK17002 := n2_; have BK17003 := n3_; have HB := n4_; clear n0_ n1_ n2_ n3_ n4_; (try clear hb); (try clear hb2); (try clear hk); (try clear hi); (try clear ho0)) | ((with_reducible refine gate_dst (N := 10) rfl ?_); (try (refine gate_guard (by rfl) ?_; dsimp only)); refine box_event ?hg (N := 10) ?hd (cs := #[.int .i64 0, .int .i64 0, .string (⟨#[]⟩ : ByteArray), .slice none 0 0]) (t := 34) ?hr ?_; (case hd => rfl); (case hg => rfl); (case hr => first | (go_simp; done) | (go_simp; rfl)); intro gb17013 hg w53 hbox hb; have n0_ := Aside0.mk (Kd.R_below (by (with_reducible repeat (first | apply Kd.R_alloc | apply Kd.R_drewN | apply Kd.R_drew)); exact HO17012.out) hb); have n1_ := Aside0.mk (blk_below (g := gb17001) (o := .cells #[.slice A0_0 l0_0.length c0_0, .int .i64 a0_1, .int .i64 a0_2] 26 (0, 0)) (by (with_reducible repeat (first | refine blk_drewN ?_ _ | refine blk_drew ?_ | refine blk_alloc ?_ _)); exact BK17001.out) hb); have n2_ := Aside0.mk (blk_below (g := gb17002) (o := .cells #[.slice (some ad17006) l1_0.length c1_0, .int .i64 a1_1] 29 (0, 0)) (by (with_reducible repeat (first | refine blk_drewN ?_ _ | refine blk_drew ?_ | refine blk_alloc ?_ _)); exact BK17002.out) hb); have n3_ := Aside0.mk (blk_below (g := gb17003) (o := .cells #[.int .i64 0, .int .i64 0, .string (⟨#[]⟩ : ByteArray), .slice none 0 0] 34 (0, 0)) (by (with_reducible repeat (first | refine blk_drewN ?_ _ | refine blk_drew ?_ | refine blk_alloc ?_ _)); exact BK17003.out) hb); have n4_ := Aside0.mk (below_step (by repeat (first | (with_reducible first | exact HB.out | apply below_alloc | apply pw_below_drewN | apply below_drew1 | refine below_set ?_ GE17001.out | refine below_set ?_ GE17002.out | refine below_set ?_ GE17003.out) | exact HB.out)) hb); have n5_ := Aside0.mk (hbox); have n6_ := Aside0.mk ((by rw [hg]; exact (below_size (by repeat (first | (with_reducible first | exact HB.out | apply below_alloc | apply pw_below_drewN | apply below_drew1 | refine below_set ?_ GE17001.out | refine below_set ?_ GE17002.out | refine below_set ?_ GE17003.out) | exact HB.out))) : w.heap.size ≤ gb17013)); have n7_ := Aside0.mk ((by rw [hg]; exact (below_size (by repeat (first | (with_reducible first | exact HB.out | apply below_alloc | apply pw_below_drewN | apply below_drew1 | refine below_set ?_ GE17001.out | refine below_set ?_ GE17002.out | refine below_set ?_ GE17003.out) | exact HB.out))) : w.heap.size ≤ gb17013)); have n8_ := Aside0.mk ((by rw [hg]; exact Nat.ne_of_lt (blk_lt (g := gb17001) (o := .cells #[.slice A0_0 l0_0.length c0_0, .int .i64 a0_1, .int .i64 a0_2] 26 (0, 0)) (by (with_reducible repeat (first | refine blk_drewN ?_ _ | refine blk_drew ?_ | refine blk_alloc ?_ _)); exact BK17001.out)) : gb17001 ≠ gb17013)); have n9_ := Aside0.mk ((by rw [hg]; exact Nat.ne_of_gt (blk_lt (g := gb17001) (o := .cells #[.slice A0_0 l0_0.length c0_0, .int .i64 a0_1, .int .i64 a0_2] 26 (0, 0)) (by (with_reducible repeat (first | refine blk_drewN ?_ _ | refine blk_drew ?_ | refine blk_alloc ?_ _)); exact BK17001.out)) : gb17013 ≠ gb17001)); have n10_ := Aside0.mk ((by rw [hg]; exact Nat.ne_of_lt (blk_lt (g := gb17002) (o := .cells #[.slice (some ad17006) l1_0.length c1_0, .int .i64 a1_1] 29 (0, 0)) (by (with_reducible repeat (first | refine blk_drewN ?_ _ | refine blk_drew ?_ | refine blk_alloc ?_ _)); exact BK17002.out)) : gb17002 ≠ gb17013)); have n11_ := Aside0.mk ((by rw [hg]; exact Nat.ne_of_gt (blk_lt (g := gb17002) (o := .cells #[.slice (some ad17006) l1_0.length c1_0, .int .i64 a1_1] 29 (0, 0)) (by (with_reducible repeat (first | refine blk_drewN ?_ _ | refine blk_drew ?_ | refine blk_alloc ?_ _)); exact BK17002.out)) : gb17013 ≠ gb17002)); have n12_ := Aside0.mk ((by rw [hg]; exact Nat.ne_of_lt (blk_lt (g := gb17003) (o := .cells #[.int .i64 0, .int .i64 0, .string (⟨#[]⟩ : ByteArray), .slice none 0 0] 34 (0, 0)) (by (with_reducible repeat (first | refine blk_drewN ?_ _ | refine blk_drew ?_ | refine blk_alloc ?_ _)); exact BK17003.out)) : gb17003 ≠ gb17013)); have n13_ := Aside0.mk ((by rw [hg]; exact Nat.ne_of_gt (blk_lt (g := gb17003) (o := .cells #[.int .i64 0, .int .i64 0, .string (⟨#[]⟩ : ByteArray), .slice none 0 0] 34 (0, 0)) (by (with_reducible repeat (first | refine blk_drewN ?_ _ | refine blk_drew ?_ | refine blk_alloc ?_ _)); exact BK17003.out)) : gb17013 ≠ gb17003)); clear HO17012; clear BK17001; clear BK17002; clear BK17003; clear HB; have HO17012 := n0_; have BK17001 := n1_; have BK17002 := n2_; have BK17003 := n3_; have HB := n4_; have BK17013 := n5_; have GW17013 := n6_; have GE17013 := n7_; have NB17001_17013 := n8_; have NB17013_17001 := n9_; have NB17002_17013 := n10_; have NB17013_17002 := n11_; have NB17003_17013 := n12_; have NB17013_17003 := n13_; clear n0_ n1_ n2_ n3_ n4_ n5_ n6_ n7_ n8_ n9_ n10_ n11_ n12_ n13_; clear hb hbox hg; have hnb54 := NB17013_17001.out; have hnc54 := NB17001_17013.out; have hnb55 := NB17013_17002.out; have hnc55 := NB17002_17013.out; have hnb56 := NB17013_17003.out; have hnc56 := NB17003_17013.out; have hcz57_0 : w53.cell? ⟨gb17013, 0, none⟩ = some (.int .i64 0) := (blk_cell BK17013.out 0).trans rfl; have hcz57_1 : w53.cell? ⟨gb17013, 1, none⟩ = some (.int .i64 0) := (blk_cell BK17013.out 1).trans rfl; have hcz57_2 : w53.cell? ⟨gb17013, 2, none⟩ = some (.string (⟨#[]⟩ : ByteArray)) := (blk_cell BK17013.out 2).trans rfl; have hcz57_3 : w53.cell? ⟨gb17013, 3, none⟩ = some (.slice none 0 0) := (blk_cell BK17013.out 3).trans rfl; have hfz57_0 := blk_frozen BK17013.out 0; have hfz57_1 := blk_frozen BK17013.out 1; have hfz57_2 := blk_frozen BK17013.out 2; have hfz57_3 := blk_frozen BK17013.out 3; obtain ⟨Ao58, co58, eo58⟩ := Kd.R_slice HO17012.out; subst eo58) | ((with_reducible refine gate_callee (f := 77) rfl ?_); refine goesL_ (some 44) rfl rfl Try.func77 (by kernel_rfl) rfl #[.int .i64 (wrap64 (a2 + 1))] rfl (by (try simp only [List.map_toArray, List.map_cons, List.map_nil]); first | done | rfl | (simp only [List.length_drop, List.length_take]; rfl)) ?_; (with_reducible refine (impl_decimal.calls kj4 (wrap64 (a2 + 1)) t17014 _ A47.out).mono ?_); rintro e w59 ⟨rfl, hb⟩; refine ⟨_, rfl, ?_⟩; have n0_ := Aside0.mk (Kd.R_below (by (with_reducible repeat (first | apply Kd.R_alloc | apply Kd.R_drewN | apply Kd.R_drew)); exact (Kd.R_mono (Kd.R_far (p := ⟨gb17013, 3, none⟩) (Kd.R_far (p := ⟨gb17013, 2, none⟩) (Kd.R_far (p := ⟨gb17013, 1, none⟩) (Kd.R_far (p := ⟨gb17013, 0, none⟩) (Kd.R_types HO17012.out BK17013.out (by decide)) (fun _ hk => hk.2) (.int .i64 t17007)) (fun _ hk => hk.2) (.int .i64 t17008)) (fun _ hk => hk.2) (.string t17009)) (fun _ hk => hk.2) (.slice Ao58 t17010.length co58)) (fun _ h_ => h_.1))) hb); have n1_ := Aside0.mk (blk_below (g := gb17001) (o := .cells #[.slice A0_0 l0_0.length c0_0, .int .i64 a0_1, .int .i64 a0_2] 26 (0, 0)) (by (with_reducible repeat (first | refine blk_drewN ?_ _ | refine blk_drew ?_ | refine blk_alloc ?_ _)); refine blk_far ?_ NB17001_17013.out _; (with_reducible repeat (first | refine blk_drewN ?_ _ | refine blk_drew ?_ | refine blk_alloc ?_ _)); refine blk_far ?_ NB17001_17013.out _; (with_reducible repeat (first | refine blk_drewN ?_ _ | refine blk_drew ?_ | refine blk_alloc ?_ _)); refine blk_far ?_ NB17001_17013.out _; (with_reducible repeat (first | refine blk_drewN ?_ _ | refine blk_drew ?_ | refine blk_alloc ?_ _)); refine blk_far ?_ NB17001_17013.out _; (with_reducible repeat (first | refine blk_drewN ?_ _ | refine blk_drew ?_ | refine blk_alloc ?_ _)); exact BK17001.out) hb); have n2_ := Aside0.mk (blk_below (g := gb17002) (o := .cells #[.slice (some ad17006) l1_0.length c1_0, .int .i64 a1_1] 29 (0, 0)) (by (with_reducible repeat (first | refine blk_drewN ?_ _ | refine blk_drew ?_ | refine blk_alloc ?_ _)); refine blk_far ?_ NB17002_17013.out _; (with_reducible repeat (first | refine blk_drewN ?_ _ | refine blk_drew ?_ | refine blk_alloc ?_ _)); refine blk_far ?_ NB17002_17013.out _; (with_reducible repeat (first | refine blk_drewN ?_ _ | refine blk_drew ?_ | refine blk_alloc ?_ _)); refine blk_far ?_ NB17002_17013.out _; (with_reducible repeat (first | refine blk_drewN ?_ _ | refine blk_drew ?_ | refine blk_alloc ?_ _)); refine blk_far ?_ NB17002_17013.out _; (with_reducible repeat (first | refine blk_drewN ?_ _ | refine blk_drew ?_ | refine blk_alloc ?_ _)); exact BK17002.out) hb); have n3_ := Aside0.mk (blk_below (g := gb17003) (o := .cells #[.int .i64 0, .int .i64 0, .string (⟨#[]⟩ : ByteArray), .slice none 0 0] 34 (0, 0)) (by (with_reducible repeat (first | refine blk_drewN ?_ _ | refine blk_drew ?_ | refine blk_alloc ?_ _)); refine blk_far ?_ NB17003_17013.out _; (with_reducible repeat (first | refine blk_drewN ?_ _ | refine blk_drew ?_ | refine blk_alloc ?_ _)); refine blk_far ?_ NB17003_17013.out _; (with_reducible repeat (first | refine blk_drewN ?_ _ | refine blk_drew ?_ | refine blk_alloc ?_ _)); refine blk_far ?_ NB17003_17013.out _; (with_reducible repeat (first | refine blk_drewN ?_ _ | refine blk_drew ?_ | refine blk_alloc ?_ _)); refine blk_far ?_ NB17003_17013.out _; (with_reducible repeat (first | refine blk_drewN ?_ _ | refine blk_drew ?_ | refine blk_alloc ?_ _)); exact BK17003.out) hb); have n4_ := Aside0.mk (blk_below (g := gb17013) (o := .cells #[.int .i64 t17007, .int .i64 t17008, .string t17009, .slice Ao58 t17010.length co58] 34 (0, 0)) (by (with_reducible repeat (first | refine blk_drewN ?_ _ | refine blk_drew ?_ | refine blk_alloc ?_ _)); refine blk_put (cs := #[.int .i64 t17007, .int .i64 t17008, .string t17009, .slice none 0 0]) ?_ 3 _ rfl; (with_reducible repeat (first | refine blk_drewN ?_ _ | refine blk_drew ?_ | refine blk_alloc ?_ _)); refine blk_put (cs := #[.int .i64 t17007, .int .i64 t17008, .string (⟨#[]⟩ : ByteArray), .slice none 0 0]) ?_ 2 _ rfl; (with_reducible repeat (first | refine blk_drewN ?_ _ | refine blk_drew ?_ | refine blk_alloc ?_ _)); refine blk_put (cs := #[.int .i64 t17007, .int .i64 0, .string (⟨#[]⟩ : ByteArray), .slice none 0 0]) ?_ 1 _ rfl; (with_reducible repeat (first | refine blk_drewN ?_ _ | refine blk_drew ?_ | refine blk_alloc ?_ _)); refine blk_put (cs := #[.int .i64 0, .int .i64 0, .string (⟨#[]⟩ : ByteArray), .slice none 0 0]) ?_ 0 _ rfl; (with_reducible repeat (first | refine blk_drewN ?_ _ | refine blk_drew ?_ | refine blk_alloc ?_ _)); exact BK17013.out) hb); have n5_ := Aside0.mk (below_step (by repeat (first | (with_reducible first | exact HB.out | apply below_alloc | apply pw_below_drewN | apply below_drew1 | refine below_set ?_ GE17001.out | refine below_set ?_ GE17002.out | refine below_set ?_ GE17003.out | refine below_set ?_ GE17013.out) | exact HB.out)) hb); clear HO17012; clear BK17001; clear BK17002; clear BK17003; clear BK17013; clear HB; have HO17012 := n0_; have BK17001 := n1_; have BK17002 := n2_; have BK17003 := n3_; have BK17013 := n4_; have HB := n5_; clear n0_ n1_ n2_ n3_ n4_ n5_; (try clear hb); (try clear hb2); (try clear hk); (try clear hi); have hcz60_0 : w59.cell? ⟨gb17013, 0, none⟩ = some (.int .i64 t17007) := (blk_cell BK17013.out 0).trans rfl; have hcz60_1 : w59.cell? ⟨gb17013, 1, none⟩ = some (.int .i64 t17008) := (blk_cell BK17013.out 1).trans rfl; have hcz60_2 : w59.cell? ⟨gb17013, 2, none⟩ = some (.string t17009) := (blk_cell BK17013.out 2).trans rfl; have hcz60_3 : w59.cell? ⟨gb17013, 3, none⟩ = some (.slice Ao58 t17010.length co58) := (blk_cell BK17013.out 3).trans rfl; have hfz60_0 := blk_frozen BK17013.out 0; have hfz60_1 := blk_frozen BK17013.out 1; have hfz60_2 := blk_frozen BK17013.out 2; have hfz60_3 := blk_frozen BK17013.out 3))
              go_loopg [52] kj4 (fun kq v52 w' => ∃ (x52_2 : Int) (x17014003_2 : List (S112)) (u17014003 : Value), v52 = .int .i64 x52_2 ∧ Aside0 (impl_Reverse.l0 kq (t17010.length : Int) x52_2 a3 (wrap64 (a2 + 1)) ((⟨#[114, 101, 118, 101, 114, 115, 101, 32]⟩ : ByteArray) ++ t17014) x17014003_2 = some (r1, r2, r3, r4, r5)) ∧ Aside0 (kq ≤ kj4) ∧ Aside0 (Kd.R k112 112 w' w.heap.size (fun _ => True) u17014003 x17014003_2) ∧ Aside0 (w'.heap[gb17001]? = some (.cells #[(.slice A0_0 l0_0.length c0_0), .int .i64 a0_1, .int .i64 a0_2] 26 (0, 0))) ∧ Aside0 (w'.heap[gb17002]? = some (.cells #[(.slice (some ad17006) l1_0.length c1_0), .int .i64 a1_1] 29 (0, 0))) ∧ Aside0 (w'.heap[gb17003]? = some (.cells #[.int .i64 0, .int .i64 0, .string (⟨#[]⟩ : ByteArray), (.slice none 0 0)] 34 (0, 0))) ∧ Aside0 (w'.heap[gb17013]? = some (.cells #[.int .i64 a3, .int .i64 (wrap64 (a2 + 1)), .string ((⟨#[114, 101, 118, 101, 114, 115, 101, 32]⟩ : ByteArray) ++ t17014), u17014003] 34 (0, 0))) ∧ Aside0 (Below w.heap.size w w'))
              case atStart => exact ⟨(0), (t17010), (.slice Ao58 t17010.length co58), (by first | rfl | (simp; done) | (simp [*]; done)), H', ⟨Nat.le_refl _⟩, ⟨by (with_reducible repeat (first | apply Kd.R_alloc | apply Kd.R_drewN | apply Kd.R_drew)); exact Kd.R_mono (Kd.R_far (p := ⟨gb17013, 2, none⟩) (Kd.R_far (p := ⟨gb17013, 1, none⟩) (Kd.R_far (p := ⟨gb17013, 0, none⟩) (Kd.R_types HO17012.out BK17013.out (by decide)) (fun _ hk => hk.2) (.int .i64 a3)) (fun _ hk => hk.2) (.int .i64 (wrap64 (a2 + 1)))) (fun _ hk => hk.2) (.string ((⟨#[114, 101, 118, 101, 114, 115, 101, 32]⟩ : ByteArray) ++ t17014))) (fun _ hk => trivial)⟩, ⟨by (with_reducible repeat (first | refine blk_drewN ?_ _ | refine blk_drew ?_ | refine blk_alloc ?_ _)); refine blk_far ?_ NB17001_17013.out _; (with_reducible repeat (first | refine blk_drewN ?_ _ | refine blk_drew ?_ | refine blk_alloc ?_ _)); refine blk_far ?_ NB17001_17013.out _; (with_reducible repeat (first | refine blk_drewN ?_ _ | refine blk_drew ?_ | refine blk_alloc ?_ _)); refine blk_far ?_ NB17001_17013.out _; (with_reducible repeat (first | refine blk_drewN ?_ _ | refine blk_drew ?_ | refine blk_alloc ?_ _)); exact BK17001.out⟩, ⟨by (with_reducible repeat (first | refine blk_drewN ?_ _ | refine blk_drew ?_ | refine blk_alloc ?_ _)); refine blk_far ?_ NB17002_17013.out _; (with_reducible repeat (first | refine blk_drewN ?_ _ | refine blk_drew ?_ | refine blk_alloc ?_ _)); refine blk_far ?_ NB17002_17013.out _; (with_reducible repeat (first | refine blk_drewN ?_ _ | refine blk_drew ?_ | refine blk_alloc ?_ _)); refine blk_far ?_ NB17002_17013.out _; (with_reducible repeat (first | refine blk_drewN ?_ _ | refine blk_drew ?_ | refine blk_alloc ?_ _)); exact BK17002.out⟩, ⟨by (with_reducible repeat (first | refine blk_drewN ?_ _ | refine blk_drew ?_ | refine blk_alloc ?_ _)); refine blk_far ?_ NB17003_17013.out _; (with_reducible repeat (first | refine blk_drewN ?_ _ | refine blk_drew ?_ | refine blk_alloc ?_ _)); refine blk_far ?_ NB17003_17013.out _; (with_reducible repeat (first | refine blk_drewN ?_ _ | refine blk_drew ?_ | refine blk_alloc ?_ _)); refine blk_far ?_ NB17003_17013.out _; (with_reducible repeat (first | refine blk_drewN ?_ _ | refine blk_drew ?_ | refine blk_alloc ?_ _)); exact BK17003.out⟩, ⟨by (with_reducible repeat (first | refine blk_drewN ?_ _ | refine blk_drew ?_ | refine blk_alloc ?_ _)); refine blk_put (cs := #[.int .i64 a3, .int .i64 (wrap64 (a2 + 1)), .string t17009, .slice Ao58 t17010.length co58]) ?_ 2 _ rfl; (with_reducible repeat (first | refine blk_drewN ?_ _ | refine blk_drew ?_ | refine blk_alloc ?_ _)); refine blk_put (cs := #[.int .i64 a3, .int .i64 t17008, .string t17009, .slice Ao58 t17010.length co58]) ?_ 1 _ rfl; (with_reducible repeat (first | refine blk_drewN ?_ _ | refine blk_drew ?_ | refine blk_alloc ?_ _)); refine blk_put (cs := #[.int .i64 t17007, .int .i64 t17008, .string t17009, .slice Ao58 t17010.length co58]) ?_ 0 _ rfl; (with_reducible repeat (first | refine blk_drewN ?_ _ | refine blk_drew ?_ | refine blk_alloc ?_ _)); exact BK17013.out⟩, ⟨by repeat (first | (with_reducible first | exact HB.out | apply below_alloc | apply pw_below_drewN | apply below_drew1 | refine below_set ?_ GE17001.out | refine below_set ?_ GE17002.out | refine below_set ?_ GE17003.out | refine below_set ?_ GE17013.out) | exact HB.out)⟩⟩
              case round =>
                clear H'
                try clear c1
                try clear p1
                try clear q1
                try clear hx1
                try clear c2
                try clear p2
                try clear c3
                try clear c4
                try clear c5
                try clear p6
                try clear c7
                try clear c10
                try clear c11
                try clear c11b0
                try clear c12
                try clear c13
                try clear c15
                try clear c16
                try clear c17
                try clear p17
                try clear q17
                try clear hx17
                try clear c18
                try clear c18b0
                try clear c19
                try clear c20
                try clear c22
                try clear c27
                try clear c28
                try clear c30
                try clear c34
                try clear c35
                try clear c37
                try clear c40
                try clear c41
                try clear c42
                try clear c44
                try clear c44b0
                try clear c45
                try clear c45b0
                try clear c48
                try clear c48b0
                try clear c48b1
                try clear c48b2
                try clear c49
                try clear c50
                try clear c54
                try clear c55
                try clear c56
                try clear hcz14_0
                try clear hcz14_1
                try clear hcz14_2
                try clear hcz16_0
                try clear hcz16_1
                try clear hcz21_0
                try clear hcz21_1
                try clear hcz21_2
                try clear hcz23_0
                try clear hcz23_1
                try clear hcz25_0
                try clear hcz25_1
                try clear hcz29_0
                try clear hcz29_1
                try clear hcz29_2
                try clear hcz31_0
                try clear hcz31_1
                try clear hcz33_0
                try clear hcz33_1
                try clear hcz36_0
                try clear hcz36_1
                try clear hcz36_2
                try clear hcz38_0
                try clear hcz38_1
                try clear hcz43_0
                try clear hcz43_1
                try clear hcz43_2
                try clear hcz43_3
                try clear hcz51_0
                try clear hcz51_1
                try clear hcz57_0
                try clear hcz57_1
                try clear hcz57_2
                try clear hcz57_3
                try clear hcz60_0
                try clear hcz60_1
                try clear hcz60_2
                try clear hcz60_3
                try clear hfz14_0
                try clear hfz14_1
                try clear hfz14_2
                try clear hfz16_0
                try clear hfz16_1
                try clear hfz21_0
                try clear hfz21_1
                try clear hfz21_2
                try clear hfz23_0
                try clear hfz23_1
                try clear hfz25_0
                try clear hfz25_1
                try clear hfz29_0
                try clear hfz29_1
                try clear hfz29_2
                try clear hfz31_0
                try clear hfz31_1
                try clear hfz33_0
                try clear hfz33_1
                try clear hfz36_0
                try clear hfz36_1
                try clear hfz36_2
                try clear hfz38_0
                try clear hfz38_1
                try clear hfz43_0
                try clear hfz43_1
                try clear hfz43_2
                try clear hfz43_3
                try clear hfz51_0
                try clear hfz51_1
                try clear hfz57_0
                try clear hfz57_1
                try clear hfz57_2
                try clear hfz57_3
                try clear hfz60_0
                try clear hfz60_1
                try clear hfz60_2
                try clear hfz60_3
                try clear hx17006_0
                try clear hx17006_1
                try clear hx17006_2
                try clear hx17006_3
                try clear p17006
                try clear p2
                try clear q17006
                obtain ⟨x52_2, x17014003_2, u17014003, rfl, HA, HK2, HO_17014003, BK17001, BK17002, BK17003, BK17013, HB⟩ := hrel
                cases gk with
                | zero => exact absurd HA.out (by simp [impl_Reverse.l0])
                | succ k2 =>
                  have H := HA.out
                  clear HA
                  simp only [impl_Reverse.l0] at H
                  by_cases c61 : x52_2 < (t17010.length : Int)
                  · rw [if_pos c61] at H
                    have c61b0 : decide (x52_2 < (t17010.length : Int)) = true := decide_eq_true c61
                    clear c61
                    by_cases c62 : 0 ≤ x52_2
                    · rw [if_pos c62] at H
                      have c62b0 : decide (0 ≤ x52_2) = true := decide_eq_true c62
                      clear c62
                      by_cases c63 : x52_2 < (x17014003_2.length : Int)
                      · rw [if_pos c63] at H
                        have c63b0 : decide (x52_2 < (x17014003_2.length : Int)) = true := decide_eq_true c63
                        clear c63
                        obtain ⟨y17016, hy17016⟩ : ∃ y_ : List (S112), y_ = (x17014003_2.set (x52_2 : Int).toNat (⟨(rd_T112 x17014003_2 x52_2).f0, (rd_T112 x17014003_2 x52_2).f1, (rd_T112 x17014003_2 x52_2).f2, wrap64 (-((rd_T112 x17014003_2 x52_2).f3)), (rd_T112 x17014003_2 x52_2).f4⟩ : S112)) := ⟨_, rfl⟩
                        replace H : (impl_Reverse.l0 k2 (t17010.length : Int) (wrap64 (x52_2 + 1)) a3 (wrap64 (a2 + 1)) ((⟨#[114, 101, 118, 101, 114, 115, 101, 32]⟩ : ByteArray) ++ t17014) (y17016.set (x52_2 : Int).toNat (⟨(rd_T112 y17016 x52_2).f0, (rd_T112 y17016 x52_2).f1, (rd_T112 y17016 x52_2).f2, (rd_T112 y17016 x52_2).f3, wrap64 (-((rd_T112 y17016 x52_2).f4))⟩ : S112))) = some (r1, r2, r3, r4, r5) := by first | (rw [hy17016]; with_reducible exact H) | (have H2_ := (Option.bind_some _ _).symm.trans H; rw [hy17016]; with_reducible exact H2_) | (have H2_ := (Option.bind_some _ _).symm.trans H; with_reducible exact H2_) | with_reducible exact H | (rw [hy17016]; exact H) | exact H
                        have Ny17016 := Aside0.mk hy17016
                        clear hy17016
                        obtain ⟨y17018, hy17018⟩ : ∃ y_ : List (S112), y_ = (y17016.set (x52_2 : Int).toNat (⟨(rd_T112 y17016 x52_2).f0, (rd_T112 y17016 x52_2).f1, (rd_T112 y17016 x52_2).f2, (rd_T112 y17016 x52_2).f3, wrap64 (-((rd_T112 y17016 x52_2).f4))⟩ : S112)) := ⟨_, rfl⟩
                        replace H : (impl_Reverse.l0 k2 (t17010.length : Int) (wrap64 (x52_2 + 1)) a3 (wrap64 (a2 + 1)) ((⟨#[114, 101, 118, 101, 114, 115, 101, 32]⟩ : ByteArray) ++ t17014) y17018) = some (r1, r2, r3, r4, r5) := by first | (rw [hy17018]; with_reducible exact H) | (have H2_ := (Option.bind_some _ _).symm.trans H; rw [hy17018]; with_reducible exact H2_) | (have H2_ := (Option.bind_some _ _).symm.trans H; with_reducible exact H2_) | with_reducible exact H | (rw [hy17018]; exact H) | exact H
                        have Ny17018 := Aside0.mk hy17018
                        clear hy17018
                        have H' := Aside0.mk H
                        clear H
                        try go_wp2
                        have n0_ := Aside0.mk (Kd.R_drew HO_17014003.out)
                        have n1_ := Aside0.mk (blk_drew BK17001.out)
                        have n2_ := Aside0.mk (blk_drew BK17002.out)
                        have n3_ := Aside0.mk (blk_drew BK17003.out)
                        have n4_ := Aside0.mk (blk_drew BK17013.out)
                        have n5_ := Aside0.mk (below_drew1 HB.out)
                        clear HO_17014003
                        clear BK17001
                        clear BK17002
                        clear BK17003
                        clear BK17013
                        clear HB
                        have HO_17014003 := n0_
                        have BK17001 := n1_
                        have BK17002 := n2_
                        have BK17003 := n3_
                        have BK17013 := n4_
                        have HB := n5_
                        clear n0_ n1_ n2_ n3_ n4_ n5_
                        obtain ⟨Ao67, co67, eo67⟩ := Kd.R_slice HO_17014003.out
                        (first | subst eo67 | (injection eo67 with f1_ f2_ f3_; have f4_ := f1_.symm; have f5_ := f3_.symm; clear f1_ f2_ f3_; subst f4_; subst f5_))
                        have p17015 : 0 ≤ (x52_2 : Int) := of_decide_eq_true (by first | (with_reducible assumption) | assumption)
                        have q17015 : x52_2 < (x17014003_2.length : Int) := of_decide_eq_true (by first | (with_reducible assumption) | assumption)
                        obtain ⟨ad17015, e17015, hx17015_0, hx17015_1, hx17015_2, hx17015_3, hx17015_4⟩ := at_T112 (Kd.R_reads' HO_17014003.out).2.2 x52_2 p17015 q17015
                        cases e17015
                        replace p17015 := eq_true p17015
                        replace q17015 := eq_true q17015
                        have p64 : 0 ≤ (x52_2 : Int) := of_decide_eq_true (by first | (with_reducible assumption) | assumption)
                        have q64 : (x52_2 : Int) < ((x17014003_2.length : Int) : Int) := of_decide_eq_true (by first | (with_reducible assumption) | assumption)
                        obtain ⟨go64, co64, eo64, gb64, gl64, cl64, HG64⟩ := Kd.R_form HO_17014003.out (by omega)
                        (first | cases eo64 | (injection eo64 with ea_ en_ ec_; (first | subst ea_ | (injection ea_ with ea_; subst ea_)); subst ec_; clear en_))
                        have GB64 := Aside0.mk gb64
                        have GG64 := Aside0.mk HG64
                        clear gb64 gl64 HG64
                        (first | simp only [add_plain] at hx17015_0 | skip)
                        (first | simp only [add_plain] at hx17015_1 | skip)
                        (first | simp only [add_plain] at hx17015_2 | skip)
                        (first | simp only [add_plain] at hx17015_3 | skip)
                        (first | simp only [add_plain] at hx17015_4 | skip)
                        obtain ⟨ce64, hcl64, hM64, hcc64, hfr64⟩ := Kd.R_elem HO_17014003.out z112 (x52_2 : Int) p64 q64
                        obtain rfl := k112_openM hM64
                        have hx64_0 : World.cell? _ ⟨go64, (x52_2 : Int).toNat * 5, none⟩ = some (.int .i64 ((rd_T112 x17014003_2 x52_2).f0)) := hcc64 0 _ rfl
                        have hx64_1 : World.cell? _ ⟨go64, (x52_2 : Int).toNat * 5 + 1, none⟩ = some (.int .i64 ((rd_T112 x17014003_2 x52_2).f1)) := hcc64 1 _ rfl
                        have hx64_2 : World.cell? _ ⟨go64, (x52_2 : Int).toNat * 5 + 2, none⟩ = some (.int .i64 ((rd_T112 x17014003_2 x52_2).f2)) := hcc64 2 _ rfl
                        have hx64_3 : World.cell? _ ⟨go64, (x52_2 : Int).toNat * 5 + 3, none⟩ = some (.int .i64 ((rd_T112 x17014003_2 x52_2).f3)) := hcc64 3 _ rfl
                        have hx64_4 : World.cell? _ ⟨go64, (x52_2 : Int).toNat * 5 + 4, none⟩ = some (.int .i64 ((rd_T112 x17014003_2 x52_2).f4)) := hcc64 4 _ rfl
                        have hf64_0 : World.frozen? _ ⟨go64, (x52_2 : Int).toNat * 5, none⟩ = false := hfr64 0
                        have hf64_1 : World.frozen? _ ⟨go64, (x52_2 : Int).toNat * 5 + 1, none⟩ = false := hfr64 1
                        have hf64_2 : World.frozen? _ ⟨go64, (x52_2 : Int).toNat * 5 + 2, none⟩ = false := hfr64 2
                        have hf64_3 : World.frozen? _ ⟨go64, (x52_2 : Int).toNat * 5 + 3, none⟩ = false := hfr64 3
                        have hf64_4 : World.frozen? _ ⟨go64, (x52_2 : Int).toNat * 5 + 4, none⟩ = false := hfr64 4
                        clear hcl64 hcc64 hfr64 hM64
                        replace p64 := eq_true p64
                        replace q64 := eq_true q64
                        obtain ⟨ce68, hcl68, hM68, hcc68, hfr68⟩ := Kd.R_elem HO_17014003.out z112 (x52_2 : Int) (of_decide_eq_true (by first | (with_reducible assumption) | assumption)) (by have h_ : (x52_2 : Int) < ((x17014003_2.length : Int) : Int) := of_decide_eq_true (by first | (with_reducible assumption) | assumption); first | exact h_ | (have e_ := (Kd.R_reads' HO_17014003.out).1; omega) | simpa using h_)
                        obtain rfl := k112_openM hM68
                        have HP68 := (Kd.R_seg HO_17014003.out (x52_2 : Int) (of_decide_eq_true (by first | (with_reducible assumption) | assumption)) (by have h_ : (x52_2 : Int) < ((x17014003_2.length : Int) : Int) := of_decide_eq_true (by first | (with_reducible assumption) | assumption); first | exact h_ | (have e_ := (Kd.R_reads' HO_17014003.out).1; omega) | simpa using h_) (seg := [.int .i64 (wrap64 (-((rd_T112 x17014003_2 x52_2).f3)))]) (j := 3) hcl68 hcc68 (show 4 ≤ 5 from by decide) (x' := (⟨(rd_T112 x17014003_2 x52_2).f0, (rd_T112 x17014003_2 x52_2).f1, (rd_T112 x17014003_2 x52_2).f2, wrap64 (-((rd_T112 x17014003_2 x52_2).f3)), (rd_T112 x17014003_2 x52_2).f4⟩ : S112)) (k112_mkM _ _ _ (⟨(rd_T112 x17014003_2 x52_2).f0, (rd_T112 x17014003_2 x52_2).f1, (rd_T112 x17014003_2 x52_2).f2, wrap64 (-((rd_T112 x17014003_2 x52_2).f3)), (rd_T112 x17014003_2 x52_2).f4⟩ : S112) ) (fun _ hk => hk)).1
                        rw [← Ny17016.out] at HP68
                        have HQ68 := Aside0.mk HP68
                        clear hcl68 hcc68 hfr68 hM68 HP68
                        refine start_ (n := 13) (S := fun w' => w'.cell? ⟨gb17013, 0, none⟩ = some (.int .i64 a3) ∧ w'.cell? ⟨gb17013, 1, none⟩ = some (.int .i64 (wrap64 (a2 + 1))) ∧ w'.cell? ⟨gb17013, 2, none⟩ = some (.string ((⟨#[114, 101, 118, 101, 114, 115, 101, 32]⟩ : ByteArray) ++ t17014)) ∧ w'.cell? ⟨gb17013, 3, none⟩ = some (.slice (some ⟨go64, 0, none⟩) x17014003_2.length co67) ∧ w'.cell? ⟨go64, ((x52_2).toNat * 5), none⟩ = some (.int .i64 ((rd_T112 x17014003_2 x52_2).f0)) ∧ w'.cell? ⟨go64, ((x52_2).toNat * 5) + 1, none⟩ = some (.int .i64 ((rd_T112 x17014003_2 x52_2).f1)) ∧ w'.cell? ⟨go64, ((x52_2).toNat * 5) + 2, none⟩ = some (.int .i64 ((rd_T112 x17014003_2 x52_2).f2)) ∧ w'.cell? ⟨go64, ((x52_2).toNat * 5) + 3, none⟩ = some (.int .i64 ((rd_T112 x17014003_2 x52_2).f3)) ∧ w'.cell? ⟨go64, ((x52_2).toNat * 5) + 4, none⟩ = some (.int .i64 ((rd_T112 x17014003_2 x52_2).f4))) (ds := [12]) #[false, false, false, false, false, false, false, false, false, false, false, false, false] (by kernel_rfl) rfl rfl ⟨(blk_cell BK17013.out 0).trans rfl, (blk_cell BK17013.out 1).trans rfl, (blk_cell BK17013.out 2).trans rfl, (blk_cell BK17013.out 3).trans rfl, hx17015_0, hx17015_1, hx17015_2, hx17015_3, hx17015_4⟩ (fun hHeld => ?_); refine with_tabW impl_Reverse.tab8 impl_Reverse.bits8 (fun HT_ HW_ => ?_)
                        generalize wr.drew = w66 at HO_17014003 BK17001 BK17002 BK17003 BK17013 HB GG64 HQ68 hf64_0 hf64_1 hf64_2 hf64_3 hf64_4 hx17015_0 hx17015_1 hx17015_2 hx17015_3 hx17015_4 hx64_0 hx64_1 hx64_2 hx64_3 hx64_4 hHeld ⊢
                        refine pure_ (i := 0) (N := some 55) (v := ?_) (a' := ?_) #[true, false, false, false, false, false, false, false, false, false, false, false, false] rfl rfl (any_of HT_.out (by kernel_rfl)) (fun _ _ _ h => h) (Or.inl ⟨by rfl, ?_⟩) ?_ ?_
                        rotate_left
                        · intro w'
                          go_simp
                          with_reducible rfl
                        rotate_left
                        · simp only [Act.put, List.setIfInBounds_toArray, List.set_cons_zero, List.set_cons_succ, i64_w, i32_w]
                          rfl
                        refine pure_ (i := 2) (N := some 57) (v := ?_) (a' := ?_) #[true, false, true, false, false, false, false, false, false, false, false, false, false] rfl rfl (any_of HT_.out (by kernel_rfl)) (fun _ _ _ h => h) (Or.inl ⟨by rfl, ?_⟩) ?_ ?_
                        rotate_left
                        · intro w'
                          go_simp
                          with_reducible rfl
                        rotate_left
                        · simp only [Act.put, List.setIfInBounds_toArray, List.set_cons_zero, List.set_cons_succ, i64_w, i32_w]
                          rfl
                        refine pure_ (i := 3) (N := some 58) (v := ?_) (a' := ?_) #[true, false, true, true, false, false, false, false, false, false, false, false, false] rfl rfl (any_of HT_.out (by kernel_rfl)) (fun _ _ _ h => h) (Or.inl ⟨by rfl, ?_⟩) ?_ ?_
                        rotate_left
                        · intro w'
                          go_simp
                          with_reducible rfl
                        rotate_left
                        · simp only [Act.put, List.setIfInBounds_toArray, List.set_cons_zero, List.set_cons_succ, i64_w, i32_w]
                          rfl
                        refine pure_ (i := 5) (N := some 60) (v := ?_) (a' := ?_) #[true, false, true, true, false, true, false, false, false, false, false, false, false] rfl rfl (any_of HT_.out (by kernel_rfl)) (fun _ _ _ h => h) (Or.inl ⟨by rfl, ?_⟩) ?_ ?_
                        rotate_left
                        · intro w'
                          go_simp
                          with_reducible rfl
                        rotate_left
                        · simp only [Act.put, List.setIfInBounds_toArray, List.set_cons_zero, List.set_cons_succ, i64_w, i32_w]
                          rfl
                        refine take_ (i := 1) (N := some 56) (v := ?_) (a' := ?_) #[true, true, true, true, false, true, false, false, false, false, false, false, false] rfl rfl (take_ofW HT_.out HW_.out (by kernel_rfl)) (fun _ _ _ h => h) (Or.inl ⟨by rfl, ?_⟩) hHeld ?_ ?_
                        rotate_left
                        · rintro w' ⟨s0, s1, s2, s3, s4, s5, s6, s7, s8⟩
                          go_simp
                          with_reducible rfl
                        rotate_left
                        · simp only [Act.put, List.setIfInBounds_toArray, List.set_cons_zero, List.set_cons_succ, i64_w, i32_w]
                          rfl
                        refine take_ (i := 4) (N := some 59) (v := ?_) (a' := ?_) #[true, true, true, true, true, true, false, false, false, false, false, false, false] rfl rfl (take_ofW HT_.out HW_.out (by kernel_rfl)) (fun _ _ _ h => h) (Or.inl ⟨by rfl, ?_⟩) hHeld ?_ ?_
                        rotate_left
                        · rintro w' ⟨s0, s1, s2, s3, s4, s5, s6, s7, s8⟩
                          go_simp
                          with_reducible rfl
                        rotate_left
                        · simp only [Act.put, List.setIfInBounds_toArray, List.set_cons_zero, List.set_cons_succ, i64_w, i32_w]
                          rfl
                        refine pure_ (i := 6) (N := some 61) (v := ?_) (a' := ?_) #[true, true, true, true, true, true, true, false, false, false, false, false, false] rfl rfl (any_of HT_.out (by kernel_rfl)) (fun _ _ _ h => h) (Or.inl ⟨by rfl, ?_⟩) ?_ ?_
                        rotate_left
                        · intro w'
                          go_simp
                          with_reducible rfl
                        rotate_left
                        · simp only [Act.put, List.setIfInBounds_toArray, List.set_cons_zero, List.set_cons_succ, i64_w, i32_w]
                          rfl
                        refine pure_ (i := 7) (N := some 62) (v := ?_) (a' := ?_) #[true, true, true, true, true, true, true, true, false, false, false, false, false] rfl rfl (any_of HT_.out (by kernel_rfl)) (fun _ _ _ h => h) (Or.inl ⟨by rfl, ?_⟩) ?_ ?_
                        rotate_left
                        · intro w'
                          go_simp
                          with_reducible rfl
                        rotate_left
                        · simp only [Act.put, List.setIfInBounds_toArray, List.set_cons_zero, List.set_cons_succ, i64_w, i32_w]
                          rfl
                        refine take_ (i := 8) (N := some 63) (v := ?_) (a' := ?_) #[true, true, true, true, true, true, true, true, true, false, false, false, false] rfl rfl (take_ofW HT_.out HW_.out (by kernel_rfl)) (fun _ _ _ h => h) (Or.inl ⟨by rfl, ?_⟩) hHeld ?_ ?_
                        rotate_left
                        · rintro w' ⟨s0, s1, s2, s3, s4, s5, s6, s7, s8⟩
                          go_simp
                          with_reducible rfl
                        rotate_left
                        · simp only [Act.put, List.setIfInBounds_toArray, List.set_cons_zero, List.set_cons_succ, i64_w, i32_w]
                          rfl
                        refine pure_ (i := 9) (N := some 64) (v := ?_) (a' := ?_) #[true, true, true, true, true, true, true, true, true, true, false, false, false] rfl rfl (any_of HT_.out (by kernel_rfl)) (fun _ _ _ h => h) (Or.inl ⟨by rfl, ?_⟩) ?_ ?_
                        rotate_left
                        · intro w'
                          go_simp
                          with_reducible rfl
                        rotate_left
                        · simp only [Act.put, List.setIfInBounds_toArray, List.set_cons_zero, List.set_cons_succ, i64_w, i32_w]
                          rfl
                        refine pure_ (i := 10) (N := some 65) (v := ?_) (a' := ?_) #[true, true, true, true, true, true, true, true, true, true, true, false, false] rfl rfl (any_of HT_.out (by kernel_rfl)) (fun _ _ _ h => h) (Or.inl ⟨by rfl, ?_⟩) ?_ ?_
                        rotate_left
                        · intro w'
                          go_simp
                          with_reducible rfl
                        rotate_left
                        · simp only [Act.put, List.setIfInBounds_toArray, List.set_cons_zero, List.set_cons_succ, i64_w, i32_w]
                          rfl
                        refine pure_ (i := 11) (N := some 66) (v := ?_) (a' := ?_) #[true, true, true, true, true, true, true, true, true, true, true, true, false] rfl rfl (any_of HT_.out (by kernel_rfl)) (fun _ _ _ h => h) (Or.inl ⟨by rfl, ?_⟩) ?_ ?_
                        rotate_left
                        · intro w'
                          go_simp
                          with_reducible rfl
                        rotate_left
                        · simp only [Act.put, List.setIfInBounds_toArray, List.set_cons_zero, List.set_cons_succ, i64_w, i32_w]
                          rfl
                        refine last_ (i := 12) (N := none) #[true, true, true, true, true, true, true, true, true, true, true, true, true] rfl rfl (one_of HT_.out (by kernel_rfl)) (by decide) (fun K hK => ?_)
                        refine skip_ (w1 := ?_) (by rfl) rfl ?_ ?_
                        rotate_left
                        · go_simp
                          rfl
                        refine hK.out _ _ ?_
                        clear hK K
                        refine done_ (done_of HT_.out (by kernel_rfl)) ?_
                        try go_wp2
                        have n0_ : Aside0 (Kd.R k112 112 (w66.setCell ⟨go64, (x52_2 : Int).toNat * 5 + 3, none⟩ (.int .i64 (wrap64 (-((rd_T112 x17014003_2 x52_2).f3))))) w.heap.size (fun _ => True) (.slice (some ⟨go64, 0, none⟩) x17014003_2.length co67) y17016) := ⟨by (with_reducible repeat (first | apply Kd.R_alloc | apply Kd.R_drewN | apply Kd.R_drew)); exact HQ68.out⟩
                        have n1_ : Aside0 ((w66.setCell ⟨go64, (x52_2 : Int).toNat * 5 + 3, none⟩ (.int .i64 (wrap64 (-((rd_T112 x17014003_2 x52_2).f3))))).heap[gb17001]? = some (.cells #[.slice A0_0 l0_0.length c0_0, .int .i64 a0_1, .int .i64 a0_2] 26 (0, 0))) := ⟨by (with_reducible repeat (first | refine blk_drewN ?_ _ | refine blk_drew ?_ | refine blk_alloc ?_ _)); refine blk_far ?_ (by have h_ := Kd.R_ne HO_17014003.out BK17001.out (by decide); intro e_; exact h_ (by rw [e_]; rfl)) _; (with_reducible repeat (first | refine blk_drewN ?_ _ | refine blk_drew ?_ | refine blk_alloc ?_ _)); exact BK17001.out⟩
                        have n2_ : Aside0 ((w66.setCell ⟨go64, (x52_2 : Int).toNat * 5 + 3, none⟩ (.int .i64 (wrap64 (-((rd_T112 x17014003_2 x52_2).f3))))).heap[gb17002]? = some (.cells #[.slice (some ad17006) l1_0.length c1_0, .int .i64 a1_1] 29 (0, 0))) := ⟨by (with_reducible repeat (first | refine blk_drewN ?_ _ | refine blk_drew ?_ | refine blk_alloc ?_ _)); refine blk_far ?_ (by have h_ := Kd.R_ne HO_17014003.out BK17002.out (by decide); intro e_; exact h_ (by rw [e_]; rfl)) _; (with_reducible repeat (first | refine blk_drewN ?_ _ | refine blk_drew ?_ | refine blk_alloc ?_ _)); exact BK17002.out⟩
                        have n3_ : Aside0 ((w66.setCell ⟨go64, (x52_2 : Int).toNat * 5 + 3, none⟩ (.int .i64 (wrap64 (-((rd_T112 x17014003_2 x52_2).f3))))).heap[gb17003]? = some (.cells #[.int .i64 0, .int .i64 0, .string (⟨#[]⟩ : ByteArray), .slice none 0 0] 34 (0, 0))) := ⟨by (with_reducible repeat (first | refine blk_drewN ?_ _ | refine blk_drew ?_ | refine blk_alloc ?_ _)); refine blk_far ?_ (by have h_ := Kd.R_ne HO_17014003.out BK17003.out (by decide); intro e_; exact h_ (by rw [e_]; rfl)) _; (with_reducible repeat (first | refine blk_drewN ?_ _ | refine blk_drew ?_ | refine blk_alloc ?_ _)); exact BK17003.out⟩
                        have n4_ : Aside0 ((w66.setCell ⟨go64, (x52_2 : Int).toNat * 5 + 3, none⟩ (.int .i64 (wrap64 (-((rd_T112 x17014003_2 x52_2).f3))))).heap[gb17013]? = some (.cells #[.int .i64 a3, .int .i64 (wrap64 (a2 + 1)), .string ((⟨#[114, 101, 118, 101, 114, 115, 101, 32]⟩ : ByteArray) ++ t17014), .slice (some ⟨go64, 0, none⟩) x17014003_2.length co67] 34 (0, 0))) := ⟨by (with_reducible repeat (first | refine blk_drewN ?_ _ | refine blk_drew ?_ | refine blk_alloc ?_ _)); refine blk_far ?_ (by have h_ := Kd.R_ne HO_17014003.out BK17013.out (by decide); intro e_; exact h_ (by rw [e_]; rfl)) _; (with_reducible repeat (first | refine blk_drewN ?_ _ | refine blk_drew ?_ | refine blk_alloc ?_ _)); exact BK17013.out⟩
                        have n5_ : Aside0 (Below w.heap.size w (w66.setCell ⟨go64, (x52_2 : Int).toNat * 5 + 3, none⟩ (.int .i64 (wrap64 (-((rd_T112 x17014003_2 x52_2).f3)))))) := ⟨by repeat (first | (with_reducible first | exact HB.out | apply below_alloc | apply pw_below_drewN | apply below_drew1 | refine below_set ?_ GB64.out | refine below_set ?_ GE17001.out | refine below_set ?_ GE17002.out | refine below_set ?_ GE17003.out | refine below_set ?_ GE17013.out) | exact HB.out)⟩
                        (try clear HO_17014003)
                        (try clear BK17001)
                        (try clear BK17002)
                        (try clear BK17003)
                        (try clear BK17013)
                        (try clear HB)
                        generalize (w66.setCell ⟨go64, (x52_2 : Int).toNat * 5 + 3, none⟩ (.int .i64 (wrap64 (-((rd_T112 x17014003_2 x52_2).f3))))) = w69 at n0_ n1_ n2_ n3_ n4_ n5_ ⊢
                        have HO_17014003 := n0_
                        have BK17001 := n1_
                        have BK17002 := n2_
                        have BK17003 := n3_
                        have BK17013 := n4_
                        have HB := n5_
                        clear n0_ n1_ n2_ n3_ n4_ n5_
                        have n0_ := Aside0.mk (Kd.R_drew HO_17014003.out)
                        have n1_ := Aside0.mk (blk_drew BK17001.out)
                        have n2_ := Aside0.mk (blk_drew BK17002.out)
                        have n3_ := Aside0.mk (blk_drew BK17003.out)
                        have n4_ := Aside0.mk (blk_drew BK17013.out)
                        have n5_ := Aside0.mk (below_drew1 HB.out)
                        clear HO_17014003
                        clear BK17001
                        clear BK17002
                        clear BK17003
                        clear BK17013
                        clear HB
                        have HO_17014003 := n0_
                        have BK17001 := n1_
                        have BK17002 := n2_
                        have BK17003 := n3_
                        have BK17013 := n4_
                        have HB := n5_
                        clear n0_ n1_ n2_ n3_ n4_ n5_
                        have p17017 : 0 ≤ (x52_2 : Int) := of_decide_eq_true (by first | (with_reducible assumption) | assumption)
                        have q17017 : x52_2 < (y17016.length : Int) := (by have h_ : (x52_2 : Int) < ((x17014003_2.length : Int) : Int) := of_decide_eq_true (by first | (with_reducible assumption) | assumption); first | (have e_ := (Kd.R_reads' HO_17014003.out).1; omega) | simpa only [Ny17016.out, List.length_set] using h_)
                        have ql17017 : ((x52_2 : Int) < ((x17014003_2.length : Int) : Int)) = True := eq_true (of_decide_eq_true (by first | (with_reducible assumption) | assumption))
                        obtain ⟨ad17017, e17017, hx17017_0, hx17017_1, hx17017_2, hx17017_3, hx17017_4⟩ := at_T112 (Kd.R_reads' HO_17014003.out).2.2 x52_2 p17017 q17017
                        obtain rfl : (⟨go64, 0, none⟩ : Addr) = ad17017 := (by injection e17017)
                        (first | simp only [add_plain] at hx17017_0 | simp only [add_at] at hx17017_0 | simp only [Addr.add, Nat.zero_add] at hx17017_0 | skip)
                        (first | simp only [add_plain] at hx17017_1 | simp only [add_at] at hx17017_1 | simp only [Addr.add, Nat.zero_add] at hx17017_1 | skip)
                        (first | simp only [add_plain] at hx17017_2 | simp only [add_at] at hx17017_2 | simp only [Addr.add, Nat.zero_add] at hx17017_2 | skip)
                        (first | simp only [add_plain] at hx17017_3 | simp only [add_at] at hx17017_3 | simp only [Addr.add, Nat.zero_add] at hx17017_3 | skip)
                        (first | simp only [add_plain] at hx17017_4 | simp only [add_at] at hx17017_4 | simp only [Addr.add, Nat.zero_add] at hx17017_4 | skip)
                        replace p17017 := eq_true p17017
                        replace q17017 := eq_true q17017
                        have p65 : 0 ≤ (x52_2 : Int) := of_decide_eq_true (by first | (with_reducible assumption) | assumption)
                        have q65 : (x52_2 : Int) < ((x17014003_2.length : Int) : Int) := of_decide_eq_true (by first | (with_reducible assumption) | assumption)
                        obtain ⟨ce65, hcl65, hM65, hcc65, hfr65⟩ := Kd.R_elem HO_17014003.out z112 (x52_2 : Int) p65 q65
                        obtain rfl := k112_openM hM65
                        have hx65_0 : World.cell? _ ⟨go64, (x52_2 : Int).toNat * 5, none⟩ = some (.int .i64 ((rd_T112 y17016 x52_2).f0)) := hcc65 0 _ rfl
                        have hx65_1 : World.cell? _ ⟨go64, (x52_2 : Int).toNat * 5 + 1, none⟩ = some (.int .i64 ((rd_T112 y17016 x52_2).f1)) := hcc65 1 _ rfl
                        have hx65_2 : World.cell? _ ⟨go64, (x52_2 : Int).toNat * 5 + 2, none⟩ = some (.int .i64 ((rd_T112 y17016 x52_2).f2)) := hcc65 2 _ rfl
                        have hx65_3 : World.cell? _ ⟨go64, (x52_2 : Int).toNat * 5 + 3, none⟩ = some (.int .i64 ((rd_T112 y17016 x52_2).f3)) := hcc65 3 _ rfl
                        have hx65_4 : World.cell? _ ⟨go64, (x52_2 : Int).toNat * 5 + 4, none⟩ = some (.int .i64 ((rd_T112 y17016 x52_2).f4)) := hcc65 4 _ rfl
                        have hf65_0 : World.frozen? _ ⟨go64, (x52_2 : Int).toNat * 5, none⟩ = false := hfr65 0
                        have hf65_1 : World.frozen? _ ⟨go64, (x52_2 : Int).toNat * 5 + 1, none⟩ = false := hfr65 1
                        have hf65_2 : World.frozen? _ ⟨go64, (x52_2 : Int).toNat * 5 + 2, none⟩ = false := hfr65 2
                        have hf65_3 : World.frozen? _ ⟨go64, (x52_2 : Int).toNat * 5 + 3, none⟩ = false := hfr65 3
                        have hf65_4 : World.frozen? _ ⟨go64, (x52_2 : Int).toNat * 5 + 4, none⟩ = false := hfr65 4
                        clear hcl65 hcc65 hfr65 hM65
                        replace p65 := eq_true p65
                        replace q65 := eq_true q65
                        obtain ⟨ce71, hcl71, hM71, hcc71, hfr71⟩ := Kd.R_elem HO_17014003.out z112 (x52_2 : Int) (of_decide_eq_true (by first | (with_reducible assumption) | assumption)) (by have h_ : (x52_2 : Int) < ((x17014003_2.length : Int) : Int) := of_decide_eq_true (by first | (with_reducible assumption) | assumption); first | exact h_ | (have e_ := (Kd.R_reads' HO_17014003.out).1; omega) | simpa using h_)
                        obtain rfl := k112_openM hM71
                        have HP71 := (Kd.R_seg HO_17014003.out (x52_2 : Int) (of_decide_eq_true (by first | (with_reducible assumption) | assumption)) (by have h_ : (x52_2 : Int) < ((x17014003_2.length : Int) : Int) := of_decide_eq_true (by first | (with_reducible assumption) | assumption); first | exact h_ | (have e_ := (Kd.R_reads' HO_17014003.out).1; omega) | simpa using h_) (seg := [.int .i64 (wrap64 (-((rd_T112 y17016 x52_2).f4)))]) (j := 4) hcl71 hcc71 (show 5 ≤ 5 from by decide) (x' := (⟨(rd_T112 y17016 x52_2).f0, (rd_T112 y17016 x52_2).f1, (rd_T112 y17016 x52_2).f2, (rd_T112 y17016 x52_2).f3, wrap64 (-((rd_T112 y17016 x52_2).f4))⟩ : S112)) (k112_mkM _ _ _ (⟨(rd_T112 y17016 x52_2).f0, (rd_T112 y17016 x52_2).f1, (rd_T112 y17016 x52_2).f2, (rd_T112 y17016 x52_2).f3, wrap64 (-((rd_T112 y17016 x52_2).f4))⟩ : S112) ) (fun _ hk => hk)).1
                        rw [← Ny17018.out] at HP71
                        have HQ71 := Aside0.mk HP71
                        clear hcl71 hcc71 hfr71 hM71 HP71
                        refine start_ (n := 13) (S := fun w' => w'.cell? ⟨gb17013, 0, none⟩ = some (.int .i64 a3) ∧ w'.cell? ⟨gb17013, 1, none⟩ = some (.int .i64 (wrap64 (a2 + 1))) ∧ w'.cell? ⟨gb17013, 2, none⟩ = some (.string ((⟨#[114, 101, 118, 101, 114, 115, 101, 32]⟩ : ByteArray) ++ t17014)) ∧ w'.cell? ⟨gb17013, 3, none⟩ = some (.slice (some ⟨go64, 0, none⟩) x17014003_2.length co67) ∧ w'.cell? ⟨go64, (x52_2).toNat * 5, none⟩ = some (.int .i64 ((rd_T112 y17016 x52_2).f0)) ∧ w'.cell? ⟨go64, (x52_2).toNat * 5 + 1, none⟩ = some (.int .i64 ((rd_T112 y17016 x52_2).f1)) ∧ w'.cell? ⟨go64, (x52_2).toNat * 5 + 2, none⟩ = some (.int .i64 ((rd_T112 y17016 x52_2).f2)) ∧ w'.cell? ⟨go64, (x52_2).toNat * 5 + 3, none⟩ = some (.int .i64 ((rd_T112 y17016 x52_2).f3)) ∧ w'.cell? ⟨go64, (x52_2).toNat * 5 + 4, none⟩ = some (.int .i64 ((rd_T112 y17016 x52_2).f4))) (ds := [12]) #[false, false, false, false, false, false, false, false, false, false, false, false, false] (by kernel_rfl) rfl rfl ⟨(blk_cell BK17013.out 0).trans rfl, (blk_cell BK17013.out 1).trans rfl, (blk_cell BK17013.out 2).trans rfl, (blk_cell BK17013.out 3).trans rfl, hx17017_0, hx17017_1, hx17017_2, hx17017_3, hx17017_4⟩ (fun hHeld => ?_); refine with_tabW impl_Reverse.tab9 impl_Reverse.bits9 (fun HT_ HW_ => ?_)
                        generalize w69.drew = w70 at HO_17014003 BK17001 BK17002 BK17003 BK17013 HB HQ68 HQ71 hf65_0 hf65_1 hf65_2 hf65_3 hf65_4 hx17017_0 hx17017_1 hx17017_2 hx17017_3 hx17017_4 hx65_0 hx65_1 hx65_2 hx65_3 hx65_4 hHeld ⊢
                        refine pure_ (i := 0) (N := some 67) (v := ?_) (a' := ?_) #[true, false, false, false, false, false, false, false, false, false, false, false, false] rfl rfl (any_of HT_.out (by kernel_rfl)) (fun _ _ _ h => h) (Or.inl ⟨by rfl, ?_⟩) ?_ ?_
                        rotate_left
                        · intro w'
                          go_simp
                          with_reducible rfl
                        rotate_left
                        · simp only [Act.put, List.setIfInBounds_toArray, List.set_cons_zero, List.set_cons_succ, i64_w, i32_w]
                          rfl
                        refine pure_ (i := 2) (N := some 69) (v := ?_) (a' := ?_) #[true, false, true, false, false, false, false, false, false, false, false, false, false] rfl rfl (any_of HT_.out (by kernel_rfl)) (fun _ _ _ h => h) (Or.inl ⟨by rfl, ?_⟩) ?_ ?_
                        rotate_left
                        · intro w'
                          go_simp
                          with_reducible rfl
                        rotate_left
                        · simp only [Act.put, List.setIfInBounds_toArray, List.set_cons_zero, List.set_cons_succ, i64_w, i32_w]
                          rfl
                        refine pure_ (i := 3) (N := some 70) (v := ?_) (a' := ?_) #[true, false, true, true, false, false, false, false, false, false, false, false, false] rfl rfl (any_of HT_.out (by kernel_rfl)) (fun _ _ _ h => h) (Or.inl ⟨by rfl, ?_⟩) ?_ ?_
                        rotate_left
                        · intro w'
                          go_simp
                          with_reducible rfl
                        rotate_left
                        · simp only [Act.put, List.setIfInBounds_toArray, List.set_cons_zero, List.set_cons_succ, i64_w, i32_w]
                          rfl
                        refine pure_ (i := 5) (N := some 72) (v := ?_) (a' := ?_) #[true, false, true, true, false, true, false, false, false, false, false, false, false] rfl rfl (any_of HT_.out (by kernel_rfl)) (fun _ _ _ h => h) (Or.inl ⟨by rfl, ?_⟩) ?_ ?_
                        rotate_left
                        · intro w'
                          go_simp
                          with_reducible rfl
                        rotate_left
                        · simp only [Act.put, List.setIfInBounds_toArray, List.set_cons_zero, List.set_cons_succ, i64_w, i32_w]
                          rfl
                        refine take_ (i := 1) (N := some 68) (v := ?_) (a' := ?_) #[true, true, true, true, false, true, false, false, false, false, false, false, false] rfl rfl (take_ofW HT_.out HW_.out (by kernel_rfl)) (fun _ _ _ h => h) (Or.inl ⟨by rfl, ?_⟩) hHeld ?_ ?_
                        rotate_left
                        · rintro w' ⟨s0, s1, s2, s3, s4, s5, s6, s7, s8⟩
                          go_simp
                          with_reducible rfl
                        rotate_left
                        · simp only [Act.put, List.setIfInBounds_toArray, List.set_cons_zero, List.set_cons_succ, i64_w, i32_w]
                          rfl
                        refine take_ (i := 4) (N := some 71) (v := ?_) (a' := ?_) #[true, true, true, true, true, true, false, false, false, false, false, false, false] rfl rfl (take_ofW HT_.out HW_.out (by kernel_rfl)) (fun _ _ _ h => h) (Or.inl ⟨by rfl, ?_⟩) hHeld ?_ ?_
                        rotate_left
                        · rintro w' ⟨s0, s1, s2, s3, s4, s5, s6, s7, s8⟩
                          go_simp
                          with_reducible rfl
                        rotate_left
                        · simp only [Act.put, List.setIfInBounds_toArray, List.set_cons_zero, List.set_cons_succ, i64_w, i32_w]
                          rfl
                        refine pure_ (i := 6) (N := some 73) (v := ?_) (a' := ?_) #[true, true, true, true, true, true, true, false, false, false, false, false, false] rfl rfl (any_of HT_.out (by kernel_rfl)) (fun _ _ _ h => h) (Or.inl ⟨by rfl, ?_⟩) ?_ ?_
                        rotate_left
                        · intro w'
                          go_simp
                          with_reducible rfl
                        rotate_left
                        · simp only [Act.put, List.setIfInBounds_toArray, List.set_cons_zero, List.set_cons_succ, i64_w, i32_w]
                          rfl
                        refine pure_ (i := 7) (N := some 74) (v := ?_) (a' := ?_) #[true, true, true, true, true, true, true, true, false, false, false, false, false] rfl rfl (any_of HT_.out (by kernel_rfl)) (fun _ _ _ h => h) (Or.inl ⟨by rfl, ?_⟩) ?_ ?_
                        rotate_left
                        · intro w'
                          go_simp
                          with_reducible rfl
                        rotate_left
                        · simp only [Act.put, List.setIfInBounds_toArray, List.set_cons_zero, List.set_cons_succ, i64_w, i32_w]
                          rfl
                        refine take_ (i := 8) (N := some 75) (v := ?_) (a' := ?_) #[true, true, true, true, true, true, true, true, true, false, false, false, false] rfl rfl (take_ofW HT_.out HW_.out (by kernel_rfl)) (fun _ _ _ h => h) (Or.inl ⟨by rfl, ?_⟩) hHeld ?_ ?_
                        rotate_left
                        · rintro w' ⟨s0, s1, s2, s3, s4, s5, s6, s7, s8⟩
                          go_simp
                          with_reducible rfl
                        rotate_left
                        · simp only [Act.put, List.setIfInBounds_toArray, List.set_cons_zero, List.set_cons_succ, i64_w, i32_w]
                          rfl
                        refine pure_ (i := 9) (N := some 76) (v := ?_) (a' := ?_) #[true, true, true, true, true, true, true, true, true, true, false, false, false] rfl rfl (any_of HT_.out (by kernel_rfl)) (fun _ _ _ h => h) (Or.inl ⟨by rfl, ?_⟩) ?_ ?_
                        rotate_left
                        · intro w'
                          go_simp
                          with_reducible rfl
                        rotate_left
                        · simp only [Act.put, List.setIfInBounds_toArray, List.set_cons_zero, List.set_cons_succ, i64_w, i32_w]
                          rfl
                        refine pure_ (i := 10) (N := some 77) (v := ?_) (a' := ?_) #[true, true, true, true, true, true, true, true, true, true, true, false, false] rfl rfl (any_of HT_.out (by kernel_rfl)) (fun _ _ _ h => h) (Or.inl ⟨by rfl, ?_⟩) ?_ ?_
                        rotate_left
                        · intro w'
                          go_simp
                          with_reducible rfl
                        rotate_left
                        · simp only [Act.put, List.setIfInBounds_toArray, List.set_cons_zero, List.set_cons_succ, i64_w, i32_w]
                          rfl
                        refine pure_ (i := 11) (N := some 78) (v := ?_) (a' := ?_) #[true, true, true, true, true, true, true, true, true, true, true, true, false] rfl rfl (any_of HT_.out (by kernel_rfl)) (fun _ _ _ h => h) (Or.inl ⟨by rfl, ?_⟩) ?_ ?_
                        rotate_left
                        · intro w'
                          go_simp
                          with_reducible rfl
                        rotate_left
                        · simp only [Act.put, List.setIfInBounds_toArray, List.set_cons_zero, List.set_cons_succ, i64_w, i32_w]
                          rfl
                        refine last_ (i := 12) (N := none) #[true, true, true, true, true, true, true, true, true, true, true, true, true] rfl rfl (one_of HT_.out (by kernel_rfl)) (by decide) (fun K hK => ?_)
                        refine skip_ (w1 := ?_) (by rfl) rfl ?_ ?_
                        rotate_left
                        · go_simp
                          rfl
                        refine hK.out _ _ ?_
                        clear hK K
                        refine done_ (done_of HT_.out (by kernel_rfl)) ?_
                        try go_wp2
                        go_roundg k2
                        case measure => have := HJ4.out; have := HK2.out; omega
                        case rel => exact ⟨(wrap64 (x52_2 + 1)), (y17018), (.slice (some ⟨go64, 0, none⟩) x17014003_2.length co67), (by first | rfl | (simp; done) | (simp [*]; done)), H', ⟨by have := HJ4.out; have := HK2.out; omega⟩, ⟨by (with_reducible repeat (first | apply Kd.R_alloc | apply Kd.R_drewN | apply Kd.R_drew)); exact HQ71.out⟩, ⟨by (with_reducible repeat (first | refine blk_drewN ?_ _ | refine blk_drew ?_ | refine blk_alloc ?_ _)); refine blk_far ?_ (by have h_ := Kd.R_ne HO_17014003.out BK17001.out (by decide); intro e_; exact h_ (by rw [e_]; rfl)) _; (with_reducible repeat (first | refine blk_drewN ?_ _ | refine blk_drew ?_ | refine blk_alloc ?_ _)); exact BK17001.out⟩, ⟨by (with_reducible repeat (first | refine blk_drewN ?_ _ | refine blk_drew ?_ | refine blk_alloc ?_ _)); refine blk_far ?_ (by have h_ := Kd.R_ne HO_17014003.out BK17002.out (by decide); intro e_; exact h_ (by rw [e_]; rfl)) _; (with_reducible repeat (first | refine blk_drewN ?_ _ | refine blk_drew ?_ | refine blk_alloc ?_ _)); exact BK17002.out⟩, ⟨by (with_reducible repeat (first | refine blk_drewN ?_ _ | refine blk_drew ?_ | refine blk_alloc ?_ _)); refine blk_far ?_ (by have h_ := Kd.R_ne HO_17014003.out BK17003.out (by decide); intro e_; exact h_ (by rw [e_]; rfl)) _; (with_reducible repeat (first | refine blk_drewN ?_ _ | refine blk_drew ?_ | refine blk_alloc ?_ _)); exact BK17003.out⟩, ⟨by (with_reducible repeat (first | refine blk_drewN ?_ _ | refine blk_drew ?_ | refine blk_alloc ?_ _)); refine blk_far ?_ (by have h_ := Kd.R_ne HO_17014003.out BK17013.out (by decide); intro e_; exact h_ (by rw [e_]; rfl)) _; (with_reducible repeat (first | refine blk_drewN ?_ _ | refine blk_drew ?_ | refine blk_alloc ?_ _)); exact BK17013.out⟩, ⟨by repeat (first | (with_reducible first | exact HB.out | apply below_alloc | apply pw_below_drewN | apply below_drew1 | refine below_set ?_ GB64.out | refine below_set ?_ GE17001.out | refine below_set ?_ GE17002.out | refine below_set ?_ GE17003.out | refine below_set ?_ GE17013.out) | exact HB.out)⟩⟩
                      · rw [if_neg c63] at H
                        exact absurd H (by simp)
                    · rw [if_neg c62] at H
                      exact absurd H (by simp)
                  · rw [if_neg c61] at H
                    have c61b0 : decide (x52_2 < (t17010.length : Int)) = false := decide_eq_false c61
                    clear c61
                    simp only [Option.some.injEq, Prod.mk.injEq] at H
                    obtain ⟨rfl, rfl, rfl, rfl, rfl⟩ := H
                    have hnb72 := NB17013_17001.out
                    have hnc72 := NB17001_17013.out
                    have hnb73 := NB17013_17002.out
                    have hnc73 := NB17002_17013.out
                    have hnb74 := NB17013_17003.out
                    have hnc74 := NB17003_17013.out
                    have hcz75_0 : wr.cell? ⟨gb17013, 0, none⟩ = some (.int .i64 a3) := (blk_cell BK17013.out 0).trans rfl
                    have hcz75_1 : wr.cell? ⟨gb17013, 1, none⟩ = some (.int .i64 (wrap64 (a2 + 1))) := (blk_cell BK17013.out 1).trans rfl
                    have hcz75_2 : wr.cell? ⟨gb17013, 2, none⟩ = some (.string ((⟨#[114, 101, 118, 101, 114, 115, 101, 32]⟩ : ByteArray) ++ t17014)) := (blk_cell BK17013.out 2).trans rfl
                    have hcz75_3 : wr.cell? ⟨gb17013, 3, none⟩ = some (u17014003) := (blk_cell BK17013.out 3).trans rfl
                    have hfz75_0 := blk_frozen BK17013.out 0
                    have hfz75_1 := blk_frozen BK17013.out 1
                    have hfz75_2 := blk_frozen BK17013.out 2
                    have hfz75_3 := blk_frozen BK17013.out 3
                    have hnb76 := NB17003_17001.out
                    have hnc76 := NB17001_17003.out
                    have hnb77 := NB17003_17002.out
                    have hnc77 := NB17002_17003.out
                    have hcz78_0 : wr.cell? ⟨gb17003, 0, none⟩ = some (.int .i64 0) := (blk_cell BK17003.out 0).trans rfl
                    have hcz78_1 : wr.cell? ⟨gb17003, 1, none⟩ = some (.int .i64 0) := (blk_cell BK17003.out 1).trans rfl
                    have hcz78_2 : wr.cell? ⟨gb17003, 2, none⟩ = some (.string (⟨#[]⟩ : ByteArray)) := (blk_cell BK17003.out 2).trans rfl
                    have hcz78_3 : wr.cell? ⟨gb17003, 3, none⟩ = some (.slice none 0 0) := (blk_cell BK17003.out 3).trans rfl
                    have hfz78_0 := blk_frozen BK17003.out 0
                    have hfz78_1 := blk_frozen BK17003.out 1
                    have hfz78_2 := blk_frozen BK17003.out 2
                    have hfz78_3 := blk_frozen BK17003.out 3
                    obtain ⟨Ao79, co79, eo79⟩ := Kd.R_slice HO_17014003.out
                    subst eo79
                    go_wp2
                    refine bodyPost_ret (results_ct rfl _ _ gb17003 34 #[.int .i64 a3, .int .i64 (wrap64 (a2 + 1)), .string ((⟨#[114, 101, 118, 101, 114, 115, 101, 32]⟩ : ByteArray) ++ t17014), .slice Ao79 x17014003_2.length co79] (0, 0) _ rfl (by (with_reducible repeat (first | refine blk_drewN ?_ _ | refine blk_drew ?_ | refine blk_alloc ?_ _)); refine blk_put (cs := #[.int .i64 a3, .int .i64 (wrap64 (a2 + 1)), .string ((⟨#[114, 101, 118, 101, 114, 115, 101, 32]⟩ : ByteArray) ++ t17014), .slice none 0 0]) ?_ 3 _ rfl; (with_reducible repeat (first | refine blk_drewN ?_ _ | refine blk_drew ?_ | refine blk_alloc ?_ _)); refine blk_put (cs := #[.int .i64 a3, .int .i64 (wrap64 (a2 + 1)), .string (⟨#[]⟩ : ByteArray), .slice none 0 0]) ?_ 2 _ rfl; (with_reducible repeat (first | refine blk_drewN ?_ _ | refine blk_drew ?_ | refine blk_alloc ?_ _)); refine blk_put (cs := #[.int .i64 a3, .int .i64 0, .string (⟨#[]⟩ : ByteArray), .slice none 0 0]) ?_ 1 _ rfl; (with_reducible repeat (first | refine blk_drewN ?_ _ | refine blk_drew ?_ | refine blk_alloc ?_ _)); refine blk_put (cs := #[.int .i64 0, .int .i64 0, .string (⟨#[]⟩ : ByteArray), .slice none 0 0]) ?_ 0 _ rfl; (with_reducible repeat (first | refine blk_drewN ?_ _ | refine blk_drew ?_ | refine blk_alloc ?_ _)); exact BK17003.out) Try.underlying34 rfl (by kernel_rfl)) rfl ?_
                    exact ⟨_, by first | rfl | (simp [errW_none, errW_some] <;> rfl) | (simp [*, errW_none, errW_some] <;> rfl), by (with_reducible repeat (first | apply Kd.R_alloc | apply Kd.R_drewN | apply Kd.R_drew)); exact Kd.R_mono (Kd.R_far (p := ⟨gb17003, 3, none⟩) (Kd.R_far (p := ⟨gb17003, 2, none⟩) (Kd.R_far (p := ⟨gb17003, 1, none⟩) (Kd.R_far (p := ⟨gb17003, 0, none⟩) (Kd.R_types HO_17014003.out BK17003.out (by decide)) (fun _ hk => hk.2) (.int .i64 a3)) (fun _ hk => hk.2) (.int .i64 (wrap64 (a2 + 1)))) (fun _ hk => hk.2) (.string ((⟨#[114, 101, 118, 101, 114, 115, 101, 32]⟩ : ByteArray) ++ t17014))) (fun _ hk => hk.2) (.slice Ao79 x17014003_2.length co79)) (fun _ hk => trivial), by repeat (first | (with_reducible first | exact HB.out | apply below_alloc | apply pw_below_drewN | apply below_drew1 | refine below_set ?_ GE17001.out | refine below_set ?_ GE17002.out | refine below_set ?_ GE17003.out | refine below_set ?_ GE17013.out) | exact HB.out)⟩
            · rw [if_neg c48] at H
              exact absurd H (by simp)
          · rw [if_neg c45] at H
            exact absurd H (by simp)
        · rw [if_neg c44] at H
          exact absurd H (by simp)
end Go.Proofs.Ytphmnkcfjgallaa.Q
