/- Parts of the proof: what functions of the program and of the reference answer.
   No condition. -/
import Derived.Test.YtphmnkcfjgallaaZReversed1
import Derived.Test.YtphmnkcfjgallaaZReversed2
import Derived.Test.YtphmnkcfjgallaaZReversed15
import Derived.Test.YtphmnkcfjgallaaZReversed4
namespace Go.Proofs.Ytphmnkcfjgallaa.Q
open Go.RowKit Go.Proofs.YtphmnkcfjgallaaW.PrintWords Go.Proofs.YtphmnkcfjgallaaW.PrintLast Go.Proofs.YtphmnkcfjgallaaW.PrintMore
attribute [local go_sem] max2_int min2_int max_two min_two max_three min_three max_four min_four   -- for this text's walks alone
set_option linter.unusedVariables false
set_option linter.unusedSimpArgs false
mutual
noncomputable def spec_Reverse.j0 : Nat → Int → Int → Bool → List (S34) → Int → Option (Int × Int × ByteArray × (List (S112)) × Bool)
  | 0, _, _, _, _, _ => none
  | k + 1, x2, x3, x29, x18003000, x18003001 => if x29 = true then (some (0, 0, (⟨#[]⟩ : ByteArray), ([] : List (S112)), false)) else (if 0 ≤ x2 then (if x2 < (x18003000.length : Int) then ((spec_l5Entry.f ((rd_T34 x18003000 x2).f0) ((rd_T34 x18003000 x2).f1) ((rd_T34 x18003000 x2).f2) ((rd_T34 x18003000 x2).f3)).bind fun bt18008 => ((spec_l1Text.f (wrap64 (x2 + 1))).bind fun t18015 => (if 8 + t18015.size ≤ 9223372036854775807 then (spec_Reverse.l0 k 0 x3 (wrap64 (x2 + 1)) ((⟨#[114, 101, 118, 101, 114, 115, 101, 32]⟩ : ByteArray) ++ t18015) bt18008.2.2.2) else (none)))) else (none)) else (none))
noncomputable def spec_Reverse.l0 : Nat → Int → Int → Int → ByteArray → List (S112) → Option (Int × Int × ByteArray × (List (S112)) × Bool)
  | 0, _, _, _, _, _ => none
  | k + 1, x11, x18015000, x18015001, x18015002, x18015003 => if x11 < (x18015003.length : Int) then (if 0 ≤ x11 then ((some (x18015003.set (x11 : Int).toNat (⟨(rd_T112 x18015003 x11).f0, (rd_T112 x18015003 x11).f1, (rd_T112 x18015003 x11).f2, wrap64 (-((rd_T112 x18015003 x11).f3)), (rd_T112 x18015003 x11).f4⟩ : S112) : List (S112))).bind fun y18017 => (spec_Reverse.l0 k (wrap64 (x11 + 1)) x18015000 x18015001 x18015002 (y18017.set (x11 : Int).toNat (⟨(rd_T112 y18017 x11).f0, (rd_T112 y18017 x11).f1, (rd_T112 y18017 x11).f2, (rd_T112 y18017 x11).f3, wrap64 (-((rd_T112 y18017 x11).f4))⟩ : S112)))) else (none)) else (some (x18015000, x18015001, x18015002, x18015003, true))
end
noncomputable def spec_Reverse.f (k : Nat) (l0_0 : List (S131)) (a0_1 : Int) (a0_2 : Int) (l1_0 : List (S34)) (a1_1 : Int) (a2 : Int) (a3 : Int) : Option (Int × Int × ByteArray × (List (S112)) × Bool) := (spec_LedgerOk.f l0_0 a0_1 a0_2 l1_0 a1_1).bind fun t18004 => (if t18004 = true then ((spec_l1In.f a2 0 (wrap64 ((l1_0.length : Int) - 1))).bind fun t18005 => (if t18005 = true then ((spec_l2Day.f a3).bind fun t18006 => (spec_Reverse.j0 k a2 a3 (!t18006) l1_0 a1_1)) else (spec_Reverse.j0 k a2 a3 true l1_0 a1_1))) else (spec_Reverse.j0 k a2 a3 true l1_0 a1_1))
def spec_Reverse.T10 : Bool × List (List Nat × List Nat) := (true, [([], []), ([0], [0]), ([], []), ([], []), ([3], [3]), ([], []), ([4, 5], [4, 5]), ([6], [6]), ([7], [7]), ([8], [8]), ([1, 2, 0, 1, 2, 3, 4, 5, 6, 7, 8, 9], [1, 2]), ([10, 0, 1, 2, 3, 4, 5, 6, 7, 8, 9], [10]), ([11, 9, 0, 1, 2, 3, 4, 5, 6, 7, 8, 9], [9, 11])])
def spec_Reverse.B10 : List Nat := [0, 1, 0, 0, 8, 0, 56, 120, 248, 504, 1023, 2047, 4095]
theorem spec_Reverse.tab10 : rtab .any (opsOf Try.f17 10) = spec_Reverse.T10 := by kernel_rfl
theorem spec_Reverse.bits10 : waitsOk spec_Reverse.T10.2 spec_Reverse.B10 = true := by kernel_rfl
def spec_Reverse.T11 : Bool × List (List Nat × List Nat) := (true, [([], []), ([0], [0]), ([], []), ([], []), ([3], [3]), ([], []), ([4, 5], [4, 5]), ([6], [6]), ([7], [7]), ([8], [8]), ([1, 2, 0, 1, 2, 3, 4, 5, 6, 7, 8, 9], [1, 2]), ([10, 0, 1, 2, 3, 4, 5, 6, 7, 8, 9], [10]), ([11, 9, 0, 1, 2, 3, 4, 5, 6, 7, 8, 9], [9, 11])])
def spec_Reverse.B11 : List Nat := [0, 1, 0, 0, 8, 0, 56, 120, 248, 504, 1023, 2047, 4095]
theorem spec_Reverse.tab11 : rtab .any (opsOf Try.f17 11) = spec_Reverse.T11 := by kernel_rfl
theorem spec_Reverse.bits11 : waitsOk spec_Reverse.T11.2 spec_Reverse.B11 = true := by kernel_rfl
set_option maxHeartbeats 8000000 in
set_option maxRecDepth 100000 in
theorem spec_Reverse.calls (k : Nat) (A0_0 : Option Addr) (c0_0 : Nat) (l0_0 : List (S131)) (a0_1 : Int) (a0_2 : Int) (A1_0 : Option Addr) (c1_0 : Nat) (l1_0 : List (S34)) (a1_1 : Int) (a2 : Int) (a3 : Int) (r1 : Int) (r2 : Int) (r3 : ByteArray) (r4 : List (S112)) (r5 : Bool) (w : World) (hr0_0 : Kd.C k131 w A0_0 l0_0.length l0_0) (hc0_0 : l0_0.length ≤ c0_0) (hr1_0 : Kd.C k34 w A1_0 l1_0.length l1_0) (hc1_0 : l1_0.length ≤ c1_0) (h : spec_Reverse.f k l0_0 a0_1 a0_2 l1_0 a1_1 a2 a3 = some (r1, r2, r3, r4, r5)) :
    Calls Try.prog 17 #[.agg #[.slice A0_0 l0_0.length c0_0, .int .i64 a0_1, .int .i64 a0_2], .agg #[.slice A1_0 l1_0.length c1_0, .int .i64 a1_1], .int .i64 a2, .int .i64 a3] w fun e w' => ∃ v3_ : Value, e = .returned (.tuple #[.agg #[.int .i64 r1, .int .i64 r2, .string r3, v3_], .bool r5]) ∧ Kd.R k112 112 w' w.heap.size (fun _ => True) v3_ r4 ∧ Below w.heap.size w w' := by
  have hu26 := Try.underlying26
  have hu29 := Try.underlying29
  have hu34 := Try.underlying34
  have HR0_0 := Aside0.mk hr0_0
  have HC0_0 := Aside0.mk hc0_0
  clear hr0_0 hc0_0
  have HR1_0 := Aside0.mk hr1_0
  have HC1_0 := Aside0.mk hc1_0
  clear hr1_0 hc1_0
  have HB := Aside0.mk (Below.refl w.heap.size w)
  have H : ((spec_LedgerOk.f l0_0 a0_1 a0_2 l1_0 a1_1).bind fun t18004 => (if t18004 = true then ((spec_l1In.f a2 0 (wrap64 ((l1_0.length : Int) - 1))).bind fun t18005 => (if t18005 = true then ((spec_l2Day.f a3).bind fun t18006 => (spec_Reverse.j0 k a2 a3 (!t18006) l1_0 a1_1)) else (spec_Reverse.j0 k a2 a3 true l1_0 a1_1))) else (spec_Reverse.j0 k a2 a3 true l1_0 a1_1))) = some (r1, r2, r3, r4, r5) := h
  clear h
  have HC5 := Aside0.mk H
  clear H
  go_enter Try.func17, Try.ntmps17
  go_upto_region 1 with (first | ((with_reducible refine gate_dst (N := 4) rfl ?_); (try (refine gate_guard (by rfl) ?_; dsimp only)); refine box_event ?hg (N := 4) ?hd (cs := #[.slice A0_0 l0_0.length c0_0, .int .i64 a0_1, .int .i64 a0_2]) (t := 26) ?hr ?_; (case hd => rfl); (case hg => rfl); (case hr => first | (go_simp; done) | (go_simp; rfl)); intro gb18001 hg w6 hbox hb; have n0_ := Aside0.mk (below_step (by repeat (first | (with_reducible first | exact HB.out | apply below_alloc | apply pw_below_drewN | apply below_drew1) | exact HB.out)) hb); have n1_ := Aside0.mk (hbox); have n2_ := Aside0.mk ((by rw [hg]; exact (below_size (by repeat (first | (with_reducible first | exact HB.out | apply below_alloc | apply pw_below_drewN | apply below_drew1) | exact HB.out))) : w.heap.size ≤ gb18001)); have n3_ := Aside0.mk ((by rw [hg]; exact (below_size (by repeat (first | (with_reducible first | exact HB.out | apply below_alloc | apply pw_below_drewN | apply below_drew1) | exact HB.out))) : w.heap.size ≤ gb18001)); clear HB; have HB := n0_; have BK18001 := n1_; have GW18001 := n2_; have GE18001 := n3_; clear n0_ n1_ n2_ n3_; clear hb hbox hg) | ((with_reducible refine gate_dst (N := 5) rfl ?_); (try (refine gate_guard (by rfl) ?_; dsimp only)); refine box_event ?hg (N := 5) ?hd (cs := #[.slice A1_0 l1_0.length c1_0, .int .i64 a1_1]) (t := 29) ?hr ?_; (case hd => rfl); (case hg => rfl); (case hr => first | (go_simp; done) | (go_simp; rfl)); intro gb18002 hg w7 hbox hb; have n0_ := Aside0.mk (blk_below (g := gb18001) (o := .cells #[.slice A0_0 l0_0.length c0_0, .int .i64 a0_1, .int .i64 a0_2] 26 (0, 0)) (by (with_reducible repeat (first | refine blk_drewN ?_ _ | refine blk_drew ?_ | refine blk_alloc ?_ _)); exact BK18001.out) hb); have n1_ := Aside0.mk (below_step (by repeat (first | (with_reducible first | exact HB.out | apply below_alloc | apply pw_below_drewN | apply below_drew1 | refine below_set ?_ GE18001.out) | exact HB.out)) hb); have n2_ := Aside0.mk (hbox); have n3_ := Aside0.mk ((by rw [hg]; exact (below_size (by repeat (first | (with_reducible first | exact HB.out | apply below_alloc | apply pw_below_drewN | apply below_drew1 | refine below_set ?_ GE18001.out) | exact HB.out))) : w.heap.size ≤ gb18002)); have n4_ := Aside0.mk ((by rw [hg]; exact (below_size (by repeat (first | (with_reducible first | exact HB.out | apply below_alloc | apply pw_below_drewN | apply below_drew1 | refine below_set ?_ GE18001.out) | exact HB.out))) : w.heap.size ≤ gb18002)); have n5_ := Aside0.mk ((by rw [hg]; exact Nat.ne_of_lt (blk_lt (g := gb18001) (o := .cells #[.slice A0_0 l0_0.length c0_0, .int .i64 a0_1, .int .i64 a0_2] 26 (0, 0)) (by (with_reducible repeat (first | refine blk_drewN ?_ _ | refine blk_drew ?_ | refine blk_alloc ?_ _)); exact BK18001.out)) : gb18001 ≠ gb18002)); have n6_ := Aside0.mk ((by rw [hg]; exact Nat.ne_of_gt (blk_lt (g := gb18001) (o := .cells #[.slice A0_0 l0_0.length c0_0, .int .i64 a0_1, .int .i64 a0_2] 26 (0, 0)) (by (with_reducible repeat (first | refine blk_drewN ?_ _ | refine blk_drew ?_ | refine blk_alloc ?_ _)); exact BK18001.out)) : gb18002 ≠ gb18001)); clear BK18001; clear HB; have BK18001 := n0_; have HB := n1_; have BK18002 := n2_; have GW18002 := n3_; have GE18002 := n4_; have NB18001_18002 := n5_; have NB18002_18001 := n6_; clear n0_ n1_ n2_ n3_ n4_ n5_ n6_; clear hb hbox hg) | ((with_reducible refine gate_dst (N := 8) rfl ?_); (try (refine gate_guard (by rfl) ?_; dsimp only)); refine box_event ?hg (N := 8) ?hd (cs := #[.int .i64 0, .int .i64 0, .string (⟨#[]⟩ : ByteArray), .slice none 0 0]) (t := 34) ?hr ?_; (case hd => rfl); (case hg => rfl); (case hr => first | (go_simp; done) | (go_simp; rfl)); intro gb18003 hg w8 hbox hb; have n0_ := Aside0.mk (blk_below (g := gb18001) (o := .cells #[.slice A0_0 l0_0.length c0_0, .int .i64 a0_1, .int .i64 a0_2] 26 (0, 0)) (by (with_reducible repeat (first | refine blk_drewN ?_ _ | refine blk_drew ?_ | refine blk_alloc ?_ _)); exact BK18001.out) hb); have n1_ := Aside0.mk (blk_below (g := gb18002) (o := .cells #[.slice A1_0 l1_0.length c1_0, .int .i64 a1_1] 29 (0, 0)) (by (with_reducible repeat (first | refine blk_drewN ?_ _ | refine blk_drew ?_ | refine blk_alloc ?_ _)); exact BK18002.out) hb); have n2_ := Aside0.mk (below_step (by repeat (first | (with_reducible first | exact HB.out | apply below_alloc | apply pw_below_drewN | apply below_drew1 | refine below_set ?_ GE18001.out | refine below_set ?_ GE18002.out) | exact HB.out)) hb); have n3_ := Aside0.mk (hbox); have n4_ := Aside0.mk ((by rw [hg]; exact (below_size (by repeat (first | (with_reducible first | exact HB.out | apply below_alloc | apply pw_below_drewN | apply below_drew1 | refine below_set ?_ GE18001.out | refine below_set ?_ GE18002.out) | exact HB.out))) : w.heap.size ≤ gb18003)); have n5_ := Aside0.mk ((by rw [hg]; exact (below_size (by repeat (first | (with_reducible first | exact HB.out | apply below_alloc | apply pw_below_drewN | apply below_drew1 | refine below_set ?_ GE18001.out | refine below_set ?_ GE18002.out) | exact HB.out))) : w.heap.size ≤ gb18003)); have n6_ := Aside0.mk ((by rw [hg]; exact Nat.ne_of_lt (blk_lt (g := gb18001) (o := .cells #[.slice A0_0 l0_0.length c0_0, .int .i64 a0_1, .int .i64 a0_2] 26 (0, 0)) (by (with_reducible repeat (first | refine blk_drewN ?_ _ | refine blk_drew ?_ | refine blk_alloc ?_ _)); exact BK18001.out)) : gb18001 ≠ gb18003)); have n7_ := Aside0.mk ((by rw [hg]; exact Nat.ne_of_gt (blk_lt (g := gb18001) (o := .cells #[.slice A0_0 l0_0.length c0_0, .int .i64 a0_1, .int .i64 a0_2] 26 (0, 0)) (by (with_reducible repeat (first | refine blk_drewN ?_ _ | refine blk_drew ?_ | refine blk_alloc ?_ _)); exact BK18001.out)) : gb18003 ≠ gb18001)); have n8_ := Aside0.mk ((by rw [hg]; exact Nat.ne_of_lt (blk_lt (g := gb18002) (o := .cells #[.slice A1_0 l1_0.length c1_0, .int .i64 a1_1] 29 (0, 0)) (by (with_reducible repeat (first | refine blk_drewN ?_ _ | refine blk_drew ?_ | refine blk_alloc ?_ _)); exact BK18002.out)) : gb18002 ≠ gb18003)); have n9_ := Aside0.mk ((by rw [hg]; exact Nat.ne_of_gt (blk_lt (g := gb18002) (o := .cells #[.slice A1_0 l1_0.length c1_0, .int .i64 a1_1] 29 (0, 0)) (by (with_reducible repeat (first | refine blk_drewN ?_ _ | refine blk_drew ?_ | refine blk_alloc ?_ _)); exact BK18002.out)) : gb18003 ≠ gb18002)); clear BK18001; clear BK18002; clear HB; have BK18001 := n0_; have BK18002 := n1_; have HB := n2_; have BK18003 := n3_; have GW18003 := n4_; have GE18003 := n5_; have NB18001_18003 := n6_; have NB18003_18001 := n7_; have NB18002_18003 := n8_; have NB18003_18002 := n9_; clear n0_ n1_ n2_ n3_ n4_ n5_ n6_ n7_ n8_ n9_; clear hb hbox hg))
  (try simp only [Act.put, List.setIfInBounds_toArray, List.set_cons_zero, List.set_cons_succ])
  go_cut [29] (fun v29 wc => ∃ (kq : Nat) (x29_4 : Bool), v29 = .bool x29_4 ∧ Aside0 (spec_Reverse.j0 kq a2 a3 x29_4 l1_0 a1_1 = some (r1, r2, r3, r4, r5)) ∧ Aside0 (kq ≤ k) ∧ Aside0 (wc.heap[gb18001]? = some (.cells #[(.slice A0_0 l0_0.length c0_0), .int .i64 a0_1, .int .i64 a0_2] 26 (0, 0))) ∧ Aside0 (wc.heap[gb18002]? = some (.cells #[(.slice A1_0 l1_0.length c1_0), .int .i64 a1_1] 29 (0, 0))) ∧ Aside0 (wc.heap[gb18003]? = some (.cells #[.int .i64 0, .int .i64 0, .string (⟨#[]⟩ : ByteArray), (.slice none 0 0)] 34 (0, 0))) ∧ Aside0 (Below w.heap.size w wc))
  case first =>
    have H := HC5.out
    clear HC5
    replace H := Option.bind_eq_some_iff.mp H
    obtain ⟨t18004, A90, H⟩ := H
    replace H : (if t18004 = true then ((spec_l1In.f a2 0 (wrap64 ((l1_0.length : Int) - 1))).bind fun t18005 => (if t18005 = true then ((spec_l2Day.f a3).bind fun t18006 => (spec_Reverse.j0 k a2 a3 (!t18006) l1_0 a1_1)) else (spec_Reverse.j0 k a2 a3 true l1_0 a1_1))) else (spec_Reverse.j0 k a2 a3 true l1_0 a1_1)) = some (r1, r2, r3, r4, r5) := H
    have A9 := Aside0.mk A90
    clear A90
    by_cases c10 : t18004 = true
    · subst c10
      have H1 : ((spec_l1In.f a2 0 (wrap64 ((l1_0.length : Int) - 1))).bind fun t18005 => (if t18005 = true then ((spec_l2Day.f a3).bind fun t18006 => (spec_Reverse.j0 k a2 a3 (!t18006) l1_0 a1_1)) else (spec_Reverse.j0 k a2 a3 true l1_0 a1_1))) = some (r1, r2, r3, r4, r5) := by rw [if_pos rfl] at H; exact H
      clear H
      have H := H1
      clear H1
      replace H := Option.bind_eq_some_iff.mp H
      obtain ⟨t18005, A110, H⟩ := H
      replace H : (if t18005 = true then ((spec_l2Day.f a3).bind fun t18006 => (spec_Reverse.j0 k a2 a3 (!t18006) l1_0 a1_1)) else (spec_Reverse.j0 k a2 a3 true l1_0 a1_1)) = some (r1, r2, r3, r4, r5) := H
      have A11 := Aside0.mk A110
      clear A110
      by_cases c12 : t18005 = true
      · subst c12
        have H1 : ((spec_l2Day.f a3).bind fun t18006 => (spec_Reverse.j0 k a2 a3 (!t18006) l1_0 a1_1)) = some (r1, r2, r3, r4, r5) := by rw [if_pos rfl] at H; exact H
        clear H
        have H := H1
        clear H1
        replace H := Option.bind_eq_some_iff.mp H
        obtain ⟨t18006, A130, H⟩ := H
        replace H : (spec_Reverse.j0 k a2 a3 (!t18006) l1_0 a1_1) = some (r1, r2, r3, r4, r5) := H
        have A13 := Aside0.mk A130
        clear A130
        have H' := Aside0.mk H
        clear H
        have hnb14 := NB18001_18002.out
        have hnc14 := NB18002_18001.out
        have hnb15 := NB18001_18003.out
        have hnc15 := NB18003_18001.out
        have hcz16_0 : w8.cell? ⟨gb18001, 0, none⟩ = some (.slice A0_0 l0_0.length c0_0) := (blk_cell BK18001.out 0).trans rfl
        have hcz16_1 : w8.cell? ⟨gb18001, 1, none⟩ = some (.int .i64 a0_1) := (blk_cell BK18001.out 1).trans rfl
        have hcz16_2 : w8.cell? ⟨gb18001, 2, none⟩ = some (.int .i64 a0_2) := (blk_cell BK18001.out 2).trans rfl
        have hfz16_0 := blk_frozen BK18001.out 0
        have hfz16_1 := blk_frozen BK18001.out 1
        have hfz16_2 := blk_frozen BK18001.out 2
        have hnb17 := NB18002_18003.out
        have hnc17 := NB18003_18002.out
        have hcz18_0 : w8.cell? ⟨gb18002, 0, none⟩ = some (.slice A1_0 l1_0.length c1_0) := (blk_cell BK18002.out 0).trans rfl
        have hcz18_1 : w8.cell? ⟨gb18002, 1, none⟩ = some (.int .i64 a1_1) := (blk_cell BK18002.out 1).trans rfl
        have hfz18_0 := blk_frozen BK18002.out 0
        have hfz18_1 := blk_frozen BK18002.out 1
        go_wp2_with (first | ((with_reducible refine gate_callee (f := 78) rfl ?_); refine goesL_ (some 14) rfl rfl Try.func78 (by kernel_rfl) rfl #[.agg #[.slice A0_0 l0_0.length c0_0, .int .i64 a0_1, .int .i64 a0_2], .agg #[.slice A1_0 l1_0.length c1_0, .int .i64 a1_1]] rfl (by (try simp only [List.map_toArray, List.map_cons, List.map_nil]); first | done | rfl | (simp only [List.length_drop, List.length_take]; rfl)) ?_; (with_reducible refine (spec_LedgerOk.calls _ _ l0_0 a0_1 a0_2 _ _ l1_0 a1_1 true _ ?side1 ?side2 ?side3 ?side4 A9.out).mono ?_); (case side1 => repeat (first | exact (Kd.C_below HR0_0.out HB.out) | (with_reducible refine Kd.C_alloc ?_ _) | (with_reducible refine Kd.C_drewN ?_ _) | (with_reducible refine Kd.C_drew ?_))); (case side2 => exact HC0_0.out); (case side3 => repeat (first | exact (Kd.C_below HR1_0.out HB.out) | (with_reducible refine Kd.C_alloc ?_ _) | (with_reducible refine Kd.C_drewN ?_ _) | (with_reducible refine Kd.C_drew ?_))); (case side4 => exact HC1_0.out); rintro e w19 ⟨rfl, hb⟩; refine ⟨_, rfl, ?_⟩; have n0_ := Aside0.mk (blk_below (g := gb18001) (o := .cells #[.slice A0_0 l0_0.length c0_0, .int .i64 a0_1, .int .i64 a0_2] 26 (0, 0)) (by (with_reducible repeat (first | refine blk_drewN ?_ _ | refine blk_drew ?_ | refine blk_alloc ?_ _)); exact BK18001.out) hb); have n1_ := Aside0.mk (blk_below (g := gb18002) (o := .cells #[.slice A1_0 l1_0.length c1_0, .int .i64 a1_1] 29 (0, 0)) (by (with_reducible repeat (first | refine blk_drewN ?_ _ | refine blk_drew ?_ | refine blk_alloc ?_ _)); exact BK18002.out) hb); have n2_ := Aside0.mk (blk_below (g := gb18003) (o := .cells #[.int .i64 0, .int .i64 0, .string (⟨#[]⟩ : ByteArray), .slice none 0 0] 34 (0, 0)) (by (with_reducible repeat (first | refine blk_drewN ?_ _ | refine blk_drew ?_ | refine blk_alloc ?_ _)); exact BK18003.out) hb); have n3_ := Aside0.mk (below_step (by repeat (first | (with_reducible first | exact HB.out | apply below_alloc | apply pw_below_drewN | apply below_drew1 | refine below_set ?_ GE18001.out | refine below_set ?_ GE18002.out | refine below_set ?_ GE18003.out) | exact HB.out)) hb); clear BK18001; clear BK18002; clear BK18003; clear HB; have BK18001 := n0_; have BK18002 := n1_; have BK18003 := n2_; have HB := n3_; clear n0_ n1_ n2_ n3_; (try clear hb); (try clear hb2); (try clear hk); (try clear hi); have hcz20_0 : w19.cell? ⟨gb18002, 0, none⟩ = some (.slice A1_0 l1_0.length c1_0) := (blk_cell BK18002.out 0).trans rfl; have hcz20_1 : w19.cell? ⟨gb18002, 1, none⟩ = some (.int .i64 a1_1) := (blk_cell BK18002.out 1).trans rfl; have hfz20_0 := blk_frozen BK18002.out 0; have hfz20_1 := blk_frozen BK18002.out 1) | (go_at_call 79; (with_reducible refine (spec_l1In.calls a2 0 (wrap64 ((l1_0.length : Int) - 1)) true _ A11.out).mono ?_); rintro e w' ⟨rfl, ⟨nd, rfl⟩⟩) | (go_at_call 80; (with_reducible refine (spec_l2Day.calls a3 t18006 _ A13.out).mono ?_); rintro e w' ⟨rfl, ⟨nd, rfl⟩⟩))
        go_meet
        case rel => exact ⟨_, (!t18006), (by first | rfl | (simp; done) | (simp [*]; done)), H', ⟨by first | omega | exact Nat.le_refl _⟩, ⟨by (with_reducible repeat (first | refine blk_drewN ?_ _ | refine blk_drew ?_ | refine blk_alloc ?_ _)); exact BK18001.out⟩, ⟨by (with_reducible repeat (first | refine blk_drewN ?_ _ | refine blk_drew ?_ | refine blk_alloc ?_ _)); exact BK18002.out⟩, ⟨by (with_reducible repeat (first | refine blk_drewN ?_ _ | refine blk_drew ?_ | refine blk_alloc ?_ _)); exact BK18003.out⟩, ⟨by repeat (first | (with_reducible first | exact HB.out | apply below_alloc | apply pw_below_drewN | apply below_drew1 | refine below_set ?_ GE18001.out | refine below_set ?_ GE18002.out | refine below_set ?_ GE18003.out) | exact HB.out)⟩⟩
      · replace c12 := Bool.eq_false_iff.mpr c12
        subst c12
        have H1 : (spec_Reverse.j0 k a2 a3 true l1_0 a1_1) = some (r1, r2, r3, r4, r5) := by rw [if_neg (show ¬ (false = true) by decide)] at H; exact H
        clear H
        have H := H1
        clear H1
        have H' := Aside0.mk H
        clear H
        have hnb21 := NB18001_18002.out
        have hnc21 := NB18002_18001.out
        have hnb22 := NB18001_18003.out
        have hnc22 := NB18003_18001.out
        have hcz23_0 : w8.cell? ⟨gb18001, 0, none⟩ = some (.slice A0_0 l0_0.length c0_0) := (blk_cell BK18001.out 0).trans rfl
        have hcz23_1 : w8.cell? ⟨gb18001, 1, none⟩ = some (.int .i64 a0_1) := (blk_cell BK18001.out 1).trans rfl
        have hcz23_2 : w8.cell? ⟨gb18001, 2, none⟩ = some (.int .i64 a0_2) := (blk_cell BK18001.out 2).trans rfl
        have hfz23_0 := blk_frozen BK18001.out 0
        have hfz23_1 := blk_frozen BK18001.out 1
        have hfz23_2 := blk_frozen BK18001.out 2
        have hnb24 := NB18002_18003.out
        have hnc24 := NB18003_18002.out
        have hcz25_0 : w8.cell? ⟨gb18002, 0, none⟩ = some (.slice A1_0 l1_0.length c1_0) := (blk_cell BK18002.out 0).trans rfl
        have hcz25_1 : w8.cell? ⟨gb18002, 1, none⟩ = some (.int .i64 a1_1) := (blk_cell BK18002.out 1).trans rfl
        have hfz25_0 := blk_frozen BK18002.out 0
        have hfz25_1 := blk_frozen BK18002.out 1
        go_wp2_with (first | ((with_reducible refine gate_callee (f := 78) rfl ?_); refine goesL_ (some 14) rfl rfl Try.func78 (by kernel_rfl) rfl #[.agg #[.slice A0_0 l0_0.length c0_0, .int .i64 a0_1, .int .i64 a0_2], .agg #[.slice A1_0 l1_0.length c1_0, .int .i64 a1_1]] rfl (by (try simp only [List.map_toArray, List.map_cons, List.map_nil]); first | done | rfl | (simp only [List.length_drop, List.length_take]; rfl)) ?_; (with_reducible refine (spec_LedgerOk.calls _ _ l0_0 a0_1 a0_2 _ _ l1_0 a1_1 true _ ?side1 ?side2 ?side3 ?side4 A9.out).mono ?_); (case side1 => repeat (first | exact (Kd.C_below HR0_0.out HB.out) | (with_reducible refine Kd.C_alloc ?_ _) | (with_reducible refine Kd.C_drewN ?_ _) | (with_reducible refine Kd.C_drew ?_))); (case side2 => exact HC0_0.out); (case side3 => repeat (first | exact (Kd.C_below HR1_0.out HB.out) | (with_reducible refine Kd.C_alloc ?_ _) | (with_reducible refine Kd.C_drewN ?_ _) | (with_reducible refine Kd.C_drew ?_))); (case side4 => exact HC1_0.out); rintro e w26 ⟨rfl, hb⟩; refine ⟨_, rfl, ?_⟩; have n0_ := Aside0.mk (blk_below (g := gb18001) (o := .cells #[.slice A0_0 l0_0.length c0_0, .int .i64 a0_1, .int .i64 a0_2] 26 (0, 0)) (by (with_reducible repeat (first | refine blk_drewN ?_ _ | refine blk_drew ?_ | refine blk_alloc ?_ _)); exact BK18001.out) hb); have n1_ := Aside0.mk (blk_below (g := gb18002) (o := .cells #[.slice A1_0 l1_0.length c1_0, .int .i64 a1_1] 29 (0, 0)) (by (with_reducible repeat (first | refine blk_drewN ?_ _ | refine blk_drew ?_ | refine blk_alloc ?_ _)); exact BK18002.out) hb); have n2_ := Aside0.mk (blk_below (g := gb18003) (o := .cells #[.int .i64 0, .int .i64 0, .string (⟨#[]⟩ : ByteArray), .slice none 0 0] 34 (0, 0)) (by (with_reducible repeat (first | refine blk_drewN ?_ _ | refine blk_drew ?_ | refine blk_alloc ?_ _)); exact BK18003.out) hb); have n3_ := Aside0.mk (below_step (by repeat (first | (with_reducible first | exact HB.out | apply below_alloc | apply pw_below_drewN | apply below_drew1 | refine below_set ?_ GE18001.out | refine below_set ?_ GE18002.out | refine below_set ?_ GE18003.out) | exact HB.out)) hb); clear BK18001; clear BK18002; clear BK18003; clear HB; have BK18001 := n0_; have BK18002 := n1_; have BK18003 := n2_; have HB := n3_; clear n0_ n1_ n2_ n3_; (try clear hb); (try clear hb2); (try clear hk); (try clear hi); have hcz27_0 : w26.cell? ⟨gb18002, 0, none⟩ = some (.slice A1_0 l1_0.length c1_0) := (blk_cell BK18002.out 0).trans rfl; have hcz27_1 : w26.cell? ⟨gb18002, 1, none⟩ = some (.int .i64 a1_1) := (blk_cell BK18002.out 1).trans rfl; have hfz27_0 := blk_frozen BK18002.out 0; have hfz27_1 := blk_frozen BK18002.out 1) | (go_at_call 79; (with_reducible refine (spec_l1In.calls a2 0 (wrap64 ((l1_0.length : Int) - 1)) false _ A11.out).mono ?_); rintro e w' ⟨rfl, ⟨nd, rfl⟩⟩))
        go_meet
        case rel => exact ⟨_, (true), (by first | rfl | (simp; done) | (simp [*]; done)), H', ⟨by first | omega | exact Nat.le_refl _⟩, ⟨by (with_reducible repeat (first | refine blk_drewN ?_ _ | refine blk_drew ?_ | refine blk_alloc ?_ _)); exact BK18001.out⟩, ⟨by (with_reducible repeat (first | refine blk_drewN ?_ _ | refine blk_drew ?_ | refine blk_alloc ?_ _)); exact BK18002.out⟩, ⟨by (with_reducible repeat (first | refine blk_drewN ?_ _ | refine blk_drew ?_ | refine blk_alloc ?_ _)); exact BK18003.out⟩, ⟨by repeat (first | (with_reducible first | exact HB.out | apply below_alloc | apply pw_below_drewN | apply below_drew1 | refine below_set ?_ GE18001.out | refine below_set ?_ GE18002.out | refine below_set ?_ GE18003.out) | exact HB.out)⟩⟩
    · replace c10 := Bool.eq_false_iff.mpr c10
      subst c10
      have H1 : (spec_Reverse.j0 k a2 a3 true l1_0 a1_1) = some (r1, r2, r3, r4, r5) := by rw [if_neg (show ¬ (false = true) by decide)] at H; exact H
      clear H
      have H := H1
      clear H1
      have H' := Aside0.mk H
      clear H
      have hnb28 := NB18001_18002.out
      have hnc28 := NB18002_18001.out
      have hnb29 := NB18001_18003.out
      have hnc29 := NB18003_18001.out
      have hcz30_0 : w8.cell? ⟨gb18001, 0, none⟩ = some (.slice A0_0 l0_0.length c0_0) := (blk_cell BK18001.out 0).trans rfl
      have hcz30_1 : w8.cell? ⟨gb18001, 1, none⟩ = some (.int .i64 a0_1) := (blk_cell BK18001.out 1).trans rfl
      have hcz30_2 : w8.cell? ⟨gb18001, 2, none⟩ = some (.int .i64 a0_2) := (blk_cell BK18001.out 2).trans rfl
      have hfz30_0 := blk_frozen BK18001.out 0
      have hfz30_1 := blk_frozen BK18001.out 1
      have hfz30_2 := blk_frozen BK18001.out 2
      have hnb31 := NB18002_18003.out
      have hnc31 := NB18003_18002.out
      have hcz32_0 : w8.cell? ⟨gb18002, 0, none⟩ = some (.slice A1_0 l1_0.length c1_0) := (blk_cell BK18002.out 0).trans rfl
      have hcz32_1 : w8.cell? ⟨gb18002, 1, none⟩ = some (.int .i64 a1_1) := (blk_cell BK18002.out 1).trans rfl
      have hfz32_0 := blk_frozen BK18002.out 0
      have hfz32_1 := blk_frozen BK18002.out 1
      go_wp2_with (first | ((with_reducible refine gate_callee (f := 78) rfl ?_); refine goesL_ (some 14) rfl rfl Try.func78 (by kernel_rfl) rfl #[.agg #[.slice A0_0 l0_0.length c0_0, .int .i64 a0_1, .int .i64 a0_2], .agg #[.slice A1_0 l1_0.length c1_0, .int .i64 a1_1]] rfl (by (try simp only [List.map_toArray, List.map_cons, List.map_nil]); first | done | rfl | (simp only [List.length_drop, List.length_take]; rfl)) ?_; (with_reducible refine (spec_LedgerOk.calls _ _ l0_0 a0_1 a0_2 _ _ l1_0 a1_1 false _ ?side1 ?side2 ?side3 ?side4 A9.out).mono ?_); (case side1 => repeat (first | exact (Kd.C_below HR0_0.out HB.out) | (with_reducible refine Kd.C_alloc ?_ _) | (with_reducible refine Kd.C_drewN ?_ _) | (with_reducible refine Kd.C_drew ?_))); (case side2 => exact HC0_0.out); (case side3 => repeat (first | exact (Kd.C_below HR1_0.out HB.out) | (with_reducible refine Kd.C_alloc ?_ _) | (with_reducible refine Kd.C_drewN ?_ _) | (with_reducible refine Kd.C_drew ?_))); (case side4 => exact HC1_0.out); rintro e w33 ⟨rfl, hb⟩; refine ⟨_, rfl, ?_⟩; have n0_ := Aside0.mk (blk_below (g := gb18001) (o := .cells #[.slice A0_0 l0_0.length c0_0, .int .i64 a0_1, .int .i64 a0_2] 26 (0, 0)) (by (with_reducible repeat (first | refine blk_drewN ?_ _ | refine blk_drew ?_ | refine blk_alloc ?_ _)); exact BK18001.out) hb); have n1_ := Aside0.mk (blk_below (g := gb18002) (o := .cells #[.slice A1_0 l1_0.length c1_0, .int .i64 a1_1] 29 (0, 0)) (by (with_reducible repeat (first | refine blk_drewN ?_ _ | refine blk_drew ?_ | refine blk_alloc ?_ _)); exact BK18002.out) hb); have n2_ := Aside0.mk (blk_below (g := gb18003) (o := .cells #[.int .i64 0, .int .i64 0, .string (⟨#[]⟩ : ByteArray), .slice none 0 0] 34 (0, 0)) (by (with_reducible repeat (first | refine blk_drewN ?_ _ | refine blk_drew ?_ | refine blk_alloc ?_ _)); exact BK18003.out) hb); have n3_ := Aside0.mk (below_step (by repeat (first | (with_reducible first | exact HB.out | apply below_alloc | apply pw_below_drewN | apply below_drew1 | refine below_set ?_ GE18001.out | refine below_set ?_ GE18002.out | refine below_set ?_ GE18003.out) | exact HB.out)) hb); clear BK18001; clear BK18002; clear BK18003; clear HB; have BK18001 := n0_; have BK18002 := n1_; have BK18003 := n2_; have HB := n3_; clear n0_ n1_ n2_ n3_; (try clear hb); (try clear hb2); (try clear hk); (try clear hi)))
      go_meet
      case rel => exact ⟨_, (true), (by first | rfl | (simp; done) | (simp [*]; done)), H', ⟨by first | omega | exact Nat.le_refl _⟩, ⟨by (with_reducible repeat (first | refine blk_drewN ?_ _ | refine blk_drew ?_ | refine blk_alloc ?_ _)); exact BK18001.out⟩, ⟨by (with_reducible repeat (first | refine blk_drewN ?_ _ | refine blk_drew ?_ | refine blk_alloc ?_ _)); exact BK18002.out⟩, ⟨by (with_reducible repeat (first | refine blk_drewN ?_ _ | refine blk_drew ?_ | refine blk_alloc ?_ _)); exact BK18003.out⟩, ⟨by repeat (first | (with_reducible first | exact HB.out | apply below_alloc | apply pw_below_drewN | apply below_drew1 | refine below_set ?_ GE18001.out | refine below_set ?_ GE18002.out | refine below_set ?_ GE18003.out) | exact HB.out)⟩⟩
  case rest =>
    clear HC5
    try clear c1
    try clear c2
    try clear p2
    try clear c3
    try clear p6
    try clear c7
    try clear c10
    try clear c12
    try clear c14
    try clear c15
    try clear c17
    try clear c21
    try clear c22
    try clear c24
    try clear c28
    try clear c29
    try clear c31
    try clear hcz16_0
    try clear hcz16_1
    try clear hcz16_2
    try clear hcz18_0
    try clear hcz18_1
    try clear hcz20_0
    try clear hcz20_1
    try clear hcz23_0
    try clear hcz23_1
    try clear hcz23_2
    try clear hcz25_0
    try clear hcz25_1
    try clear hcz27_0
    try clear hcz27_1
    try clear hcz30_0
    try clear hcz30_1
    try clear hcz30_2
    try clear hcz32_0
    try clear hcz32_1
    try clear hfz16_0
    try clear hfz16_1
    try clear hfz16_2
    try clear hfz18_0
    try clear hfz18_1
    try clear hfz20_0
    try clear hfz20_1
    try clear hfz23_0
    try clear hfz23_1
    try clear hfz23_2
    try clear hfz25_0
    try clear hfz25_1
    try clear hfz27_0
    try clear hfz27_1
    try clear hfz30_0
    try clear hfz30_1
    try clear hfz30_2
    try clear hfz32_0
    try clear hfz32_1
    obtain ⟨kq, x29_4, rfl, HA, HJ4, BK18001, BK18002, BK18003, HB⟩ := hcut
    cases kq with
    | zero => exact absurd HA.out (by simp [spec_Reverse.j0])
    | succ kj4 =>
      have H := HA.out
      clear HA
      simp only [spec_Reverse.j0] at H
      by_cases c34 : x29_4 = true
      · subst c34
        have H1 : (some (0, 0, (⟨#[]⟩ : ByteArray), ([] : List (S112)), false)) = some (r1, r2, r3, r4, r5) := by rw [if_pos rfl] at H; exact H
        clear H
        have H := H1
        clear H1
        simp only [Option.some.injEq, Prod.mk.injEq] at H
        obtain ⟨rfl, rfl, rfl, rfl, rfl⟩ := H
        have hnb35 := NB18003_18001.out
        have hnc35 := NB18001_18003.out
        have hnb36 := NB18003_18002.out
        have hnc36 := NB18002_18003.out
        have hcz37_0 : wc.cell? ⟨gb18003, 0, none⟩ = some (.int .i64 0) := (blk_cell BK18003.out 0).trans rfl
        have hcz37_1 : wc.cell? ⟨gb18003, 1, none⟩ = some (.int .i64 0) := (blk_cell BK18003.out 1).trans rfl
        have hcz37_2 : wc.cell? ⟨gb18003, 2, none⟩ = some (.string (⟨#[]⟩ : ByteArray)) := (blk_cell BK18003.out 2).trans rfl
        have hcz37_3 : wc.cell? ⟨gb18003, 3, none⟩ = some (.slice none 0 0) := (blk_cell BK18003.out 3).trans rfl
        have hfz37_0 := blk_frozen BK18003.out 0
        have hfz37_1 := blk_frozen BK18003.out 1
        have hfz37_2 := blk_frozen BK18003.out 2
        have hfz37_3 := blk_frozen BK18003.out 3
        go_wp2
        refine bodyPost_ret (results_ct rfl _ _ gb18003 34 #[.int .i64 0, .int .i64 0, .string (⟨#[]⟩ : ByteArray), .slice none 0 0] (0, 0) _ rfl (by (with_reducible repeat (first | refine blk_drewN ?_ _ | refine blk_drew ?_ | refine blk_alloc ?_ _)); refine blk_put (cs := #[.int .i64 0, .int .i64 0, .string (⟨#[]⟩ : ByteArray), .slice none 0 0]) ?_ 3 _ rfl; (with_reducible repeat (first | refine blk_drewN ?_ _ | refine blk_drew ?_ | refine blk_alloc ?_ _)); refine blk_put (cs := #[.int .i64 0, .int .i64 0, .string (⟨#[]⟩ : ByteArray), .slice none 0 0]) ?_ 2 _ rfl; (with_reducible repeat (first | refine blk_drewN ?_ _ | refine blk_drew ?_ | refine blk_alloc ?_ _)); refine blk_put (cs := #[.int .i64 0, .int .i64 0, .string (⟨#[]⟩ : ByteArray), .slice none 0 0]) ?_ 1 _ rfl; (with_reducible repeat (first | refine blk_drewN ?_ _ | refine blk_drew ?_ | refine blk_alloc ?_ _)); refine blk_put (cs := #[.int .i64 0, .int .i64 0, .string (⟨#[]⟩ : ByteArray), .slice none 0 0]) ?_ 0 _ rfl; (with_reducible repeat (first | refine blk_drewN ?_ _ | refine blk_drew ?_ | refine blk_alloc ?_ _)); exact BK18003.out) Try.underlying34 rfl (by kernel_rfl)) rfl ?_
        exact ⟨_, by first | rfl | (simp [errW_none, errW_some] <;> rfl) | (simp [*, errW_none, errW_some] <;> rfl), by first | exact Kd.R_nil _ _ _ _ _ | exact Kd.N_nil _ _ _ _ _ | exact Kd.V_nil _ _ _ _ _ | exact Kd.Q_nil _ _ _ _ _ | exact Kd.S_nil _ _ _ _ _, by repeat (first | (with_reducible first | exact HB.out | apply below_alloc | apply pw_below_drewN | apply below_drew1 | refine below_set ?_ GE18001.out | refine below_set ?_ GE18002.out | refine below_set ?_ GE18003.out) | exact HB.out)⟩
      · replace c34 := Bool.eq_false_iff.mpr c34
        subst c34
        have H1 : (if 0 ≤ a2 then (if a2 < (l1_0.length : Int) then ((spec_l5Entry.f ((rd_T34 l1_0 a2).f0) ((rd_T34 l1_0 a2).f1) ((rd_T34 l1_0 a2).f2) ((rd_T34 l1_0 a2).f3)).bind fun bt18008 => ((spec_l1Text.f (wrap64 (a2 + 1))).bind fun t18015 => (if 8 + t18015.size ≤ 9223372036854775807 then (spec_Reverse.l0 kj4 0 a3 (wrap64 (a2 + 1)) ((⟨#[114, 101, 118, 101, 114, 115, 101, 32]⟩ : ByteArray) ++ t18015) bt18008.2.2.2) else (none)))) else (none)) else (none)) = some (r1, r2, r3, r4, r5) := by rw [if_neg (show ¬ (false = true) by decide)] at H; exact H
        clear H
        have H := H1
        clear H1
        by_cases c38 : 0 ≤ a2
        · rw [if_pos c38] at H
          have c38b0 : decide (0 ≤ a2) = true := decide_eq_true c38
          clear c38
          by_cases c39 : a2 < (l1_0.length : Int)
          · rw [if_pos c39] at H
            have c39b0 : decide (a2 < (l1_0.length : Int)) = true := decide_eq_true c39
            clear c39
            replace H := Option.bind_eq_some_iff.mp H
            obtain ⟨⟨t18008, t18009, t18010, t18011⟩, A400, H⟩ := H
            replace H : ((spec_l1Text.f (wrap64 (a2 + 1))).bind fun t18015 => (if 8 + t18015.size ≤ 9223372036854775807 then (spec_Reverse.l0 kj4 0 a3 (wrap64 (a2 + 1)) ((⟨#[114, 101, 118, 101, 114, 115, 101, 32]⟩ : ByteArray) ++ t18015) t18011) else (none))) = some (r1, r2, r3, r4, r5) := H
            have A40 := Aside0.mk A400
            clear A400
            replace H := Option.bind_eq_some_iff.mp H
            obtain ⟨t18015, A410, H⟩ := H
            replace H : (if 8 + t18015.size ≤ 9223372036854775807 then (spec_Reverse.l0 kj4 0 a3 (wrap64 (a2 + 1)) ((⟨#[114, 101, 118, 101, 114, 115, 101, 32]⟩ : ByteArray) ++ t18015) t18011) else (none)) = some (r1, r2, r3, r4, r5) := H
            have A41 := Aside0.mk A410
            clear A410
            by_cases c42 : 8 + t18015.size ≤ 9223372036854775807
            · rw [if_pos c42] at H
              have c42b0 := eq_true c42
              have c42b1 : decide (8 + t18015.size ≤ 9223372036854775807) = true := decide_eq_true c42
              try have c42b2 : (9223372036854775807 < 8 + t18015.size) = False := eq_false (Nat.not_lt.2 c42)
              have H' := Aside0.mk H
              clear H
              have hnb43 := NB18002_18001.out
              have hnc43 := NB18001_18002.out
              have hnb44 := NB18002_18003.out
              have hnc44 := NB18003_18002.out
              have hcz45_0 : wc.cell? ⟨gb18002, 0, none⟩ = some (.slice A1_0 l1_0.length c1_0) := (blk_cell BK18002.out 0).trans rfl
              have hcz45_1 : wc.cell? ⟨gb18002, 1, none⟩ = some (.int .i64 a1_1) := (blk_cell BK18002.out 1).trans rfl
              have hfz45_0 := blk_frozen BK18002.out 0
              have hfz45_1 := blk_frozen BK18002.out 1
              have p18007 : 0 ≤ (a2 : Int) := of_decide_eq_true (by first | (with_reducible assumption) | assumption)
              have q18007 : a2 < (l1_0.length : Int) := of_decide_eq_true (by first | (with_reducible assumption) | assumption)
              obtain ⟨ad18007, A18007_3, c18007_3, e18007, hx18007_0, hx18007_1, hx18007_2, hx18007_3, hl18007_3, hi18007_3⟩ := at_T34 HR1_0.out a2 p18007 q18007
              cases e18007
              replace hx18007_0 := (HB.out.cell (World.block_lt_of_cell? w _ hx18007_0)).trans hx18007_0
              replace hx18007_1 := (HB.out.cell (World.block_lt_of_cell? w _ hx18007_1)).trans hx18007_1
              replace hx18007_2 := (HB.out.cell (World.block_lt_of_cell? w _ hx18007_2)).trans hx18007_2
              replace hx18007_3 := (HB.out.cell (World.block_lt_of_cell? w _ hx18007_3)).trans hx18007_3
              have HR18007_3 := Aside0.mk hi18007_3
              have HC18007_3 := Aside0.mk hl18007_3
              clear hi18007_3 hl18007_3
              replace p18007 := eq_true p18007
              replace q18007 := eq_true q18007
              go_wp2_with (first | ((with_reducible refine gate_callee (f := 81) rfl ?_); refine goesL_ (some 36) rfl rfl Try.func81 (by kernel_rfl) rfl #[.agg #[.int .i64 ((rd_T34 l1_0 a2).f0), .int .i64 ((rd_T34 l1_0 a2).f1), .string ((rd_T34 l1_0 a2).f2), .slice A18007_3 ((rd_T34 l1_0 a2).f3).length c18007_3]] rfl (by (try simp only [List.map_toArray, List.map_cons, List.map_nil]); first | done | rfl | (simp only [List.length_drop, List.length_take]; rfl)) ?_; (with_reducible refine (spec_l5Entry.calls ((rd_T34 l1_0 a2).f0) ((rd_T34 l1_0 a2).f1) ((rd_T34 l1_0 a2).f2) _ _ ((rd_T34 l1_0 a2).f3) t18008 t18009 t18010 t18011 _ ?side1 ?side2 A40.out).mono ?_); (case side1 => repeat (first | exact (Kd.C_below HR18007_3.out HB.out) | (with_reducible refine Kd.C_alloc ?_ _) | (with_reducible refine Kd.C_drewN ?_ _) | (with_reducible refine Kd.C_drew ?_))); (case side2 => exact HC18007_3.out); rintro e w46 ⟨v18012, rfl, ho0, hb⟩; refine ⟨_, rfl, ?_⟩; have n0_ := Aside0.mk (Kd.R_lower ho0 (below_size (by repeat (first | (with_reducible first | exact HB.out | apply below_alloc | apply pw_below_drewN | apply below_drew1 | refine below_set ?_ GE18001.out | refine below_set ?_ GE18002.out | refine below_set ?_ GE18003.out) | exact HB.out)))); have n1_ := Aside0.mk (blk_below (g := gb18001) (o := .cells #[.slice A0_0 l0_0.length c0_0, .int .i64 a0_1, .int .i64 a0_2] 26 (0, 0)) (by (with_reducible repeat (first | refine blk_drewN ?_ _ | refine blk_drew ?_ | refine blk_alloc ?_ _)); exact BK18001.out) hb); have n2_ := Aside0.mk (blk_below (g := gb18002) (o := .cells #[.slice (some ad18007) l1_0.length c1_0, .int .i64 a1_1] 29 (0, 0)) (by (with_reducible repeat (first | refine blk_drewN ?_ _ | refine blk_drew ?_ | refine blk_alloc ?_ _)); exact BK18002.out) hb); have n3_ := Aside0.mk (blk_below (g := gb18003) (o := .cells #[.int .i64 0, .int .i64 0, .string (⟨#[]⟩ : ByteArray), .slice none 0 0] 34 (0, 0)) (by (with_reducible repeat (first | refine blk_drewN ?_ _ | refine blk_drew ?_ | refine blk_alloc ?_ _)); exact BK18003.out) hb); have n4_ := Aside0.mk (below_step (by repeat (first | (with_reducible first | exact HB.out | apply below_alloc | apply pw_below_drewN | apply below_drew1 | refine below_set ?_ GE18001.out | refine below_set ?_ GE18002.out | refine below_set ?_ GE18003.out) | exact HB.out)) hb); clear BK18001; clear BK18002; clear BK18003; clear HB; have HO18013 := n0_; have BK18001 := n1_; have BK18002 := n2_; have BK18003 := n3_; have HB := n4_; clear n0_ n1_ n2_ n3_ n4_; (try clear hb); (try clear hb2); (try clear hk); (try clear hi); (try clear ho0)) | ((with_reducible refine gate_dst (N := 10) rfl ?_); (try (refine gate_guard (by rfl) ?_; dsimp only)); refine box_event ?hg (N := 10) ?hd (cs := #[.int .i64 0, .int .i64 0, .string (⟨#[]⟩ : ByteArray), .slice none 0 0]) (t := 34) ?hr ?_; (case hd => rfl); (case hg => rfl); (case hr => first | (go_simp; done) | (go_simp; rfl)); intro gb18014 hg w47 hbox hb; have n0_ := Aside0.mk (Kd.R_below (by (with_reducible repeat (first | apply Kd.R_alloc | apply Kd.R_drewN | apply Kd.R_drew)); exact HO18013.out) hb); have n1_ := Aside0.mk (blk_below (g := gb18001) (o := .cells #[.slice A0_0 l0_0.length c0_0, .int .i64 a0_1, .int .i64 a0_2] 26 (0, 0)) (by (with_reducible repeat (first | refine blk_drewN ?_ _ | refine blk_drew ?_ | refine blk_alloc ?_ _)); exact BK18001.out) hb); have n2_ := Aside0.mk (blk_below (g := gb18002) (o := .cells #[.slice (some ad18007) l1_0.length c1_0, .int .i64 a1_1] 29 (0, 0)) (by (with_reducible repeat (first | refine blk_drewN ?_ _ | refine blk_drew ?_ | refine blk_alloc ?_ _)); exact BK18002.out) hb); have n3_ := Aside0.mk (blk_below (g := gb18003) (o := .cells #[.int .i64 0, .int .i64 0, .string (⟨#[]⟩ : ByteArray), .slice none 0 0] 34 (0, 0)) (by (with_reducible repeat (first | refine blk_drewN ?_ _ | refine blk_drew ?_ | refine blk_alloc ?_ _)); exact BK18003.out) hb); have n4_ := Aside0.mk (below_step (by repeat (first | (with_reducible first | exact HB.out | apply below_alloc | apply pw_below_drewN | apply below_drew1 | refine below_set ?_ GE18001.out | refine below_set ?_ GE18002.out | refine below_set ?_ GE18003.out) | exact HB.out)) hb); have n5_ := Aside0.mk (hbox); have n6_ := Aside0.mk ((by rw [hg]; exact (below_size (by repeat (first | (with_reducible first | exact HB.out | apply below_alloc | apply pw_below_drewN | apply below_drew1 | refine below_set ?_ GE18001.out | refine below_set ?_ GE18002.out | refine below_set ?_ GE18003.out) | exact HB.out))) : w.heap.size ≤ gb18014)); have n7_ := Aside0.mk ((by rw [hg]; exact (below_size (by repeat (first | (with_reducible first | exact HB.out | apply below_alloc | apply pw_below_drewN | apply below_drew1 | refine below_set ?_ GE18001.out | refine below_set ?_ GE18002.out | refine below_set ?_ GE18003.out) | exact HB.out))) : w.heap.size ≤ gb18014)); have n8_ := Aside0.mk ((by rw [hg]; exact Nat.ne_of_lt (blk_lt (g := gb18001) (o := .cells #[.slice A0_0 l0_0.length c0_0, .int .i64 a0_1, .int .i64 a0_2] 26 (0, 0)) (by (with_reducible repeat (first | refine blk_drewN ?_ _ | refine blk_drew ?_ | refine blk_alloc ?_ _)); exact BK18001.out)) : gb18001 ≠ gb18014)); have n9_ := Aside0.mk ((by rw [hg]; exact Nat.ne_of_gt (blk_lt (g := gb18001) (o := .cells #[.slice A0_0 l0_0.length c0_0, .int .i64 a0_1, .int .i64 a0_2] 26 (0, 0)) (by (with_reducible repeat (first | refine blk_drewN ?_ _ | refine blk_drew ?_ | refine blk_alloc ?_ _)); exact BK18001.out)) : gb18014 ≠ gb18001)); have n10_ := Aside0.mk ((by rw [hg]; exact Nat.ne_of_lt (blk_lt (g := gb18002) (o := .cells #[.slice (some ad18007) l1_0.length c1_0, .int .i64 a1_1] 29 (0, 0)) (by (with_reducible repeat (first | refine blk_drewN ?_ _ | refine blk_drew ?_ | refine blk_alloc ?_ _)); exact BK18002.out)) : gb18002 ≠ gb18014)); have n11_ := Aside0.mk ((by rw [hg]; exact Nat.ne_of_gt (blk_lt (g := gb18002) (o := .cells #[.slice (some ad18007) l1_0.length c1_0, .int .i64 a1_1] 29 (0, 0)) (by (with_reducible repeat (first | refine blk_drewN ?_ _ | refine blk_drew ?_ | refine blk_alloc ?_ _)); exact BK18002.out)) : gb18014 ≠ gb18002)); have n12_ := Aside0.mk ((by rw [hg]; exact Nat.ne_of_lt (blk_lt (g := gb18003) (o := .cells #[.int .i64 0, .int .i64 0, .string (⟨#[]⟩ : ByteArray), .slice none 0 0] 34 (0, 0)) (by (with_reducible repeat (first | refine blk_drewN ?_ _ | refine blk_drew ?_ | refine blk_alloc ?_ _)); exact BK18003.out)) : gb18003 ≠ gb18014)); have n13_ := Aside0.mk ((by rw [hg]; exact Nat.ne_of_gt (blk_lt (g := gb18003) (o := .cells #[.int .i64 0, .int .i64 0, .string (⟨#[]⟩ : ByteArray), .slice none 0 0] 34 (0, 0)) (by (with_reducible repeat (first | refine blk_drewN ?_ _ | refine blk_drew ?_ | refine blk_alloc ?_ _)); exact BK18003.out)) : gb18014 ≠ gb18003)); clear HO18013; clear BK18001; clear BK18002; clear BK18003; clear HB; have HO18013 := n0_; have BK18001 := n1_; have BK18002 := n2_; have BK18003 := n3_; have HB := n4_; have BK18014 := n5_; have GW18014 := n6_; have GE18014 := n7_; have NB18001_18014 := n8_; have NB18014_18001 := n9_; have NB18002_18014 := n10_; have NB18014_18002 := n11_; have NB18003_18014 := n12_; have NB18014_18003 := n13_; clear n0_ n1_ n2_ n3_ n4_ n5_ n6_ n7_ n8_ n9_ n10_ n11_ n12_ n13_; clear hb hbox hg; have hnb48 := NB18014_18001.out; have hnc48 := NB18001_18014.out; have hnb49 := NB18014_18002.out; have hnc49 := NB18002_18014.out; have hnb50 := NB18014_18003.out; have hnc50 := NB18003_18014.out; have hcz51_0 : w47.cell? ⟨gb18014, 0, none⟩ = some (.int .i64 0) := (blk_cell BK18014.out 0).trans rfl; have hcz51_1 : w47.cell? ⟨gb18014, 1, none⟩ = some (.int .i64 0) := (blk_cell BK18014.out 1).trans rfl; have hcz51_2 : w47.cell? ⟨gb18014, 2, none⟩ = some (.string (⟨#[]⟩ : ByteArray)) := (blk_cell BK18014.out 2).trans rfl; have hcz51_3 : w47.cell? ⟨gb18014, 3, none⟩ = some (.slice none 0 0) := (blk_cell BK18014.out 3).trans rfl; have hfz51_0 := blk_frozen BK18014.out 0; have hfz51_1 := blk_frozen BK18014.out 1; have hfz51_2 := blk_frozen BK18014.out 2; have hfz51_3 := blk_frozen BK18014.out 3; obtain ⟨Ao52, co52, eo52⟩ := Kd.R_slice HO18013.out; subst eo52) | ((with_reducible refine gate_callee (f := 82) rfl ?_); refine goesL_ (some 44) rfl rfl Try.func82 (by kernel_rfl) rfl #[.int .i64 (wrap64 (a2 + 1))] rfl (by (try simp only [List.map_toArray, List.map_cons, List.map_nil]); first | done | rfl | (simp only [List.length_drop, List.length_take]; rfl)) ?_; (with_reducible refine (spec_l1Text.calls (wrap64 (a2 + 1)) t18015 _ A41.out).mono ?_); rintro e w' ⟨rfl, ⟨nd, rfl⟩⟩; refine ⟨_, rfl, ?_⟩))
              go_loopg [11] kj4 (fun kq v11 w' => ∃ (x11_2 : Int) (x18015003_2 : List (S112)) (u18015003 : Value), v11 = .int .i64 x11_2 ∧ Aside0 (spec_Reverse.l0 kq x11_2 a3 (wrap64 (a2 + 1)) ((⟨#[114, 101, 118, 101, 114, 115, 101, 32]⟩ : ByteArray) ++ t18015) x18015003_2 = some (r1, r2, r3, r4, r5)) ∧ Aside0 (kq ≤ kj4) ∧ Aside0 (Kd.R k112 112 w' w.heap.size (fun _ => True) u18015003 x18015003_2) ∧ Aside0 (w'.heap[gb18001]? = some (.cells #[(.slice A0_0 l0_0.length c0_0), .int .i64 a0_1, .int .i64 a0_2] 26 (0, 0))) ∧ Aside0 (w'.heap[gb18002]? = some (.cells #[(.slice (some ad18007) l1_0.length c1_0), .int .i64 a1_1] 29 (0, 0))) ∧ Aside0 (w'.heap[gb18003]? = some (.cells #[.int .i64 0, .int .i64 0, .string (⟨#[]⟩ : ByteArray), (.slice none 0 0)] 34 (0, 0))) ∧ Aside0 (w'.heap[gb18014]? = some (.cells #[.int .i64 a3, .int .i64 (wrap64 (a2 + 1)), .string ((⟨#[114, 101, 118, 101, 114, 115, 101, 32]⟩ : ByteArray) ++ t18015), u18015003] 34 (0, 0))) ∧ Aside0 (Below w.heap.size w w'))
              case atStart => exact ⟨(0), (t18011), (.slice Ao52 t18011.length co52), (by first | rfl | (simp; done) | (simp [*]; done)), H', ⟨Nat.le_refl _⟩, ⟨by (with_reducible repeat (first | apply Kd.R_alloc | apply Kd.R_drewN | apply Kd.R_drew)); exact Kd.R_mono (Kd.R_far (p := ⟨gb18014, 2, none⟩) (Kd.R_far (p := ⟨gb18014, 1, none⟩) (Kd.R_far (p := ⟨gb18014, 0, none⟩) (Kd.R_far (p := ⟨gb18014, 3, none⟩) (Kd.R_far (p := ⟨gb18014, 2, none⟩) (Kd.R_far (p := ⟨gb18014, 1, none⟩) (Kd.R_far (p := ⟨gb18014, 0, none⟩) (Kd.R_types HO18013.out BK18014.out (by decide)) (fun _ hk => hk.2) (.int .i64 t18008)) (fun _ hk => hk.2) (.int .i64 t18009)) (fun _ hk => hk.2) (.string t18010)) (fun _ hk => hk.2) (.slice Ao52 t18011.length co52)) (fun _ hk => hk.2) (.int .i64 a3)) (fun _ hk => hk.2) (.int .i64 (wrap64 (a2 + 1)))) (fun _ hk => hk.2) (.string ((⟨#[114, 101, 118, 101, 114, 115, 101, 32]⟩ : ByteArray) ++ t18015))) (fun _ hk => trivial)⟩, ⟨by (with_reducible repeat (first | refine blk_drewN ?_ _ | refine blk_drew ?_ | refine blk_alloc ?_ _)); refine blk_far ?_ NB18001_18014.out _; (with_reducible repeat (first | refine blk_drewN ?_ _ | refine blk_drew ?_ | refine blk_alloc ?_ _)); refine blk_far ?_ NB18001_18014.out _; (with_reducible repeat (first | refine blk_drewN ?_ _ | refine blk_drew ?_ | refine blk_alloc ?_ _)); refine blk_far ?_ NB18001_18014.out _; (with_reducible repeat (first | refine blk_drewN ?_ _ | refine blk_drew ?_ | refine blk_alloc ?_ _)); refine blk_far ?_ NB18001_18014.out _; (with_reducible repeat (first | refine blk_drewN ?_ _ | refine blk_drew ?_ | refine blk_alloc ?_ _)); refine blk_far ?_ NB18001_18014.out _; (with_reducible repeat (first | refine blk_drewN ?_ _ | refine blk_drew ?_ | refine blk_alloc ?_ _)); refine blk_far ?_ NB18001_18014.out _; (with_reducible repeat (first | refine blk_drewN ?_ _ | refine blk_drew ?_ | refine blk_alloc ?_ _)); refine blk_far ?_ NB18001_18014.out _; (with_reducible repeat (first | refine blk_drewN ?_ _ | refine blk_drew ?_ | refine blk_alloc ?_ _)); exact BK18001.out⟩, ⟨by (with_reducible repeat (first | refine blk_drewN ?_ _ | refine blk_drew ?_ | refine blk_alloc ?_ _)); refine blk_far ?_ NB18002_18014.out _; (with_reducible repeat (first | refine blk_drewN ?_ _ | refine blk_drew ?_ | refine blk_alloc ?_ _)); refine blk_far ?_ NB18002_18014.out _; (with_reducible repeat (first | refine blk_drewN ?_ _ | refine blk_drew ?_ | refine blk_alloc ?_ _)); refine blk_far ?_ NB18002_18014.out _; (with_reducible repeat (first | refine blk_drewN ?_ _ | refine blk_drew ?_ | refine blk_alloc ?_ _)); refine blk_far ?_ NB18002_18014.out _; (with_reducible repeat (first | refine blk_drewN ?_ _ | refine blk_drew ?_ | refine blk_alloc ?_ _)); refine blk_far ?_ NB18002_18014.out _; (with_reducible repeat (first | refine blk_drewN ?_ _ | refine blk_drew ?_ | refine blk_alloc ?_ _)); refine blk_far ?_ NB18002_18014.out _; (with_reducible repeat (first | refine blk_drewN ?_ _ | refine blk_drew ?_ | refine blk_alloc ?_ _)); refine blk_far ?_ NB18002_18014.out _; (with_reducible repeat (first | refine blk_drewN ?_ _ | refine blk_drew ?_ | refine blk_alloc ?_ _)); exact BK18002.out⟩, ⟨by (with_reducible repeat (first | refine blk_drewN ?_ _ | refine blk_drew ?_ | refine blk_alloc ?_ _)); refine blk_far ?_ NB18003_18014.out _; (with_reducible repeat (first | refine blk_drewN ?_ _ | refine blk_drew ?_ | refine blk_alloc ?_ _)); refine blk_far ?_ NB18003_18014.out _; (with_reducible repeat (first | refine blk_drewN ?_ _ | refine blk_drew ?_ | refine blk_alloc ?_ _)); refine blk_far ?_ NB18003_18014.out _; (with_reducible repeat (first | refine blk_drewN ?_ _ | refine blk_drew ?_ | refine blk_alloc ?_ _)); refine blk_far ?_ NB18003_18014.out _; (with_reducible repeat (first | refine blk_drewN ?_ _ | refine blk_drew ?_ | refine blk_alloc ?_ _)); refine blk_far ?_ NB18003_18014.out _; (with_reducible repeat (first | refine blk_drewN ?_ _ | refine blk_drew ?_ | refine blk_alloc ?_ _)); refine blk_far ?_ NB18003_18014.out _; (with_reducible repeat (first | refine blk_drewN ?_ _ | refine blk_drew ?_ | refine blk_alloc ?_ _)); refine blk_far ?_ NB18003_18014.out _; (with_reducible repeat (first | refine blk_drewN ?_ _ | refine blk_drew ?_ | refine blk_alloc ?_ _)); exact BK18003.out⟩, ⟨by (with_reducible repeat (first | refine blk_drewN ?_ _ | refine blk_drew ?_ | refine blk_alloc ?_ _)); refine blk_put (cs := #[.int .i64 a3, .int .i64 (wrap64 (a2 + 1)), .string t18010, .slice Ao52 t18011.length co52]) ?_ 2 _ rfl; (with_reducible repeat (first | refine blk_drewN ?_ _ | refine blk_drew ?_ | refine blk_alloc ?_ _)); refine blk_put (cs := #[.int .i64 a3, .int .i64 t18009, .string t18010, .slice Ao52 t18011.length co52]) ?_ 1 _ rfl; (with_reducible repeat (first | refine blk_drewN ?_ _ | refine blk_drew ?_ | refine blk_alloc ?_ _)); refine blk_put (cs := #[.int .i64 t18008, .int .i64 t18009, .string t18010, .slice Ao52 t18011.length co52]) ?_ 0 _ rfl; (with_reducible repeat (first | refine blk_drewN ?_ _ | refine blk_drew ?_ | refine blk_alloc ?_ _)); refine blk_put (cs := #[.int .i64 t18008, .int .i64 t18009, .string t18010, .slice none 0 0]) ?_ 3 _ rfl; (with_reducible repeat (first | refine blk_drewN ?_ _ | refine blk_drew ?_ | refine blk_alloc ?_ _)); refine blk_put (cs := #[.int .i64 t18008, .int .i64 t18009, .string (⟨#[]⟩ : ByteArray), .slice none 0 0]) ?_ 2 _ rfl; (with_reducible repeat (first | refine blk_drewN ?_ _ | refine blk_drew ?_ | refine blk_alloc ?_ _)); refine blk_put (cs := #[.int .i64 t18008, .int .i64 0, .string (⟨#[]⟩ : ByteArray), .slice none 0 0]) ?_ 1 _ rfl; (with_reducible repeat (first | refine blk_drewN ?_ _ | refine blk_drew ?_ | refine blk_alloc ?_ _)); refine blk_put (cs := #[.int .i64 0, .int .i64 0, .string (⟨#[]⟩ : ByteArray), .slice none 0 0]) ?_ 0 _ rfl; (with_reducible repeat (first | refine blk_drewN ?_ _ | refine blk_drew ?_ | refine blk_alloc ?_ _)); exact BK18014.out⟩, ⟨by repeat (first | (with_reducible first | exact HB.out | apply below_alloc | apply pw_below_drewN | apply below_drew1 | refine below_set ?_ GE18001.out | refine below_set ?_ GE18002.out | refine below_set ?_ GE18003.out | refine below_set ?_ GE18014.out) | exact HB.out)⟩⟩
              case round =>
                clear H'
                try clear c1
                try clear p1
                try clear q1
                try clear hx1
                try clear c2
                try clear p2
                try clear c3
                try clear c4
                try clear c5
                try clear p6
                try clear c7
                try clear c8
                try clear c10
                try clear c12
                try clear c14
                try clear c15
                try clear c17
                try clear c18
                try clear p18
                try clear q18
                try clear hx18
                try clear c21
                try clear c22
                try clear c24
                try clear c28
                try clear c29
                try clear c31
                try clear c34
                try clear c35
                try clear c36
                try clear c38
                try clear c38b0
                try clear c39
                try clear c39b0
                try clear c42
                try clear c42b0
                try clear c42b1
                try clear c42b2
                try clear c43
                try clear c44
                try clear c48
                try clear c49
                try clear c50
                try clear hcz16_0
                try clear hcz16_1
                try clear hcz16_2
                try clear hcz18_0
                try clear hcz18_1
                try clear hcz20_0
                try clear hcz20_1
                try clear hcz23_0
                try clear hcz23_1
                try clear hcz23_2
                try clear hcz25_0
                try clear hcz25_1
                try clear hcz27_0
                try clear hcz27_1
                try clear hcz30_0
                try clear hcz30_1
                try clear hcz30_2
                try clear hcz32_0
                try clear hcz32_1
                try clear hcz37_0
                try clear hcz37_1
                try clear hcz37_2
                try clear hcz37_3
                try clear hcz45_0
                try clear hcz45_1
                try clear hcz51_0
                try clear hcz51_1
                try clear hcz51_2
                try clear hcz51_3
                try clear hfz16_0
                try clear hfz16_1
                try clear hfz16_2
                try clear hfz18_0
                try clear hfz18_1
                try clear hfz20_0
                try clear hfz20_1
                try clear hfz23_0
                try clear hfz23_1
                try clear hfz23_2
                try clear hfz25_0
                try clear hfz25_1
                try clear hfz27_0
                try clear hfz27_1
                try clear hfz30_0
                try clear hfz30_1
                try clear hfz30_2
                try clear hfz32_0
                try clear hfz32_1
                try clear hfz37_0
                try clear hfz37_1
                try clear hfz37_2
                try clear hfz37_3
                try clear hfz45_0
                try clear hfz45_1
                try clear hfz51_0
                try clear hfz51_1
                try clear hfz51_2
                try clear hfz51_3
                try clear hx18007_0
                try clear hx18007_1
                try clear hx18007_2
                try clear hx18007_3
                try clear p18007
                try clear p2
                try clear p6
                try clear q18007
                obtain ⟨x11_2, x18015003_2, u18015003, rfl, HA, HK2, HO_18015003, BK18001, BK18002, BK18003, BK18014, HB⟩ := hrel
                cases gk with
                | zero => exact absurd HA.out (by simp [spec_Reverse.l0])
                | succ k2 =>
                  have H := HA.out
                  clear HA
                  simp only [spec_Reverse.l0] at H
                  by_cases c53 : x11_2 < (x18015003_2.length : Int)
                  · rw [if_pos c53] at H
                    have c53b0 : decide (x11_2 < (x18015003_2.length : Int)) = true := decide_eq_true c53
                    clear c53
                    by_cases c54 : 0 ≤ x11_2
                    · rw [if_pos c54] at H
                      have c54b0 : decide (0 ≤ x11_2) = true := decide_eq_true c54
                      clear c54
                      obtain ⟨y18017, hy18017⟩ : ∃ y_ : List (S112), y_ = (x18015003_2.set (x11_2 : Int).toNat (⟨(rd_T112 x18015003_2 x11_2).f0, (rd_T112 x18015003_2 x11_2).f1, (rd_T112 x18015003_2 x11_2).f2, wrap64 (-((rd_T112 x18015003_2 x11_2).f3)), (rd_T112 x18015003_2 x11_2).f4⟩ : S112)) := ⟨_, rfl⟩
                      replace H : (spec_Reverse.l0 k2 (wrap64 (x11_2 + 1)) a3 (wrap64 (a2 + 1)) ((⟨#[114, 101, 118, 101, 114, 115, 101, 32]⟩ : ByteArray) ++ t18015) (y18017.set (x11_2 : Int).toNat (⟨(rd_T112 y18017 x11_2).f0, (rd_T112 y18017 x11_2).f1, (rd_T112 y18017 x11_2).f2, (rd_T112 y18017 x11_2).f3, wrap64 (-((rd_T112 y18017 x11_2).f4))⟩ : S112))) = some (r1, r2, r3, r4, r5) := by first | (rw [hy18017]; with_reducible exact H) | (have H2_ := (Option.bind_some _ _).symm.trans H; rw [hy18017]; with_reducible exact H2_) | (have H2_ := (Option.bind_some _ _).symm.trans H; with_reducible exact H2_) | with_reducible exact H | (rw [hy18017]; exact H) | exact H
                      have Ny18017 := Aside0.mk hy18017
                      clear hy18017
                      obtain ⟨y18019, hy18019⟩ : ∃ y_ : List (S112), y_ = (y18017.set (x11_2 : Int).toNat (⟨(rd_T112 y18017 x11_2).f0, (rd_T112 y18017 x11_2).f1, (rd_T112 y18017 x11_2).f2, (rd_T112 y18017 x11_2).f3, wrap64 (-((rd_T112 y18017 x11_2).f4))⟩ : S112)) := ⟨_, rfl⟩
                      replace H : (spec_Reverse.l0 k2 (wrap64 (x11_2 + 1)) a3 (wrap64 (a2 + 1)) ((⟨#[114, 101, 118, 101, 114, 115, 101, 32]⟩ : ByteArray) ++ t18015) y18019) = some (r1, r2, r3, r4, r5) := by first | (rw [hy18019]; with_reducible exact H) | (have H2_ := (Option.bind_some _ _).symm.trans H; rw [hy18019]; with_reducible exact H2_) | (have H2_ := (Option.bind_some _ _).symm.trans H; with_reducible exact H2_) | with_reducible exact H | (rw [hy18019]; exact H) | exact H
                      have Ny18019 := Aside0.mk hy18019
                      clear hy18019
                      have H' := Aside0.mk H
                      clear H
                      have hnb57 := NB18014_18001.out
                      have hnc57 := NB18001_18014.out
                      have hnb58 := NB18014_18002.out
                      have hnc58 := NB18002_18014.out
                      have hnb59 := NB18014_18003.out
                      have hnc59 := NB18003_18014.out
                      have hcz60_0 : wr.cell? ⟨gb18014, 0, none⟩ = some (.int .i64 a3) := (blk_cell BK18014.out 0).trans rfl
                      have hcz60_1 : wr.cell? ⟨gb18014, 1, none⟩ = some (.int .i64 (wrap64 (a2 + 1))) := (blk_cell BK18014.out 1).trans rfl
                      have hcz60_2 : wr.cell? ⟨gb18014, 2, none⟩ = some (.string ((⟨#[114, 101, 118, 101, 114, 115, 101, 32]⟩ : ByteArray) ++ t18015)) := (blk_cell BK18014.out 2).trans rfl
                      have hcz60_3 : wr.cell? ⟨gb18014, 3, none⟩ = some (u18015003) := (blk_cell BK18014.out 3).trans rfl
                      have hfz60_0 := blk_frozen BK18014.out 0
                      have hfz60_1 := blk_frozen BK18014.out 1
                      have hfz60_2 := blk_frozen BK18014.out 2
                      have hfz60_3 := blk_frozen BK18014.out 3
                      obtain ⟨Ao61, co61, eo61⟩ := Kd.R_slice HO_18015003.out
                      subst eo61
                      try go_wp2
                      have n0_ := Aside0.mk (Kd.R_drew HO_18015003.out)
                      have n1_ := Aside0.mk (blk_drew BK18001.out)
                      have n2_ := Aside0.mk (blk_drew BK18002.out)
                      have n3_ := Aside0.mk (blk_drew BK18003.out)
                      have n4_ := Aside0.mk (blk_drew BK18014.out)
                      have n5_ := Aside0.mk (below_drew1 HB.out)
                      clear HO_18015003
                      clear BK18001
                      clear BK18002
                      clear BK18003
                      clear BK18014
                      clear HB
                      have HO_18015003 := n0_
                      have BK18001 := n1_
                      have BK18002 := n2_
                      have BK18003 := n3_
                      have BK18014 := n4_
                      have HB := n5_
                      clear n0_ n1_ n2_ n3_ n4_ n5_
                      have p18016 : 0 ≤ (x11_2 : Int) := of_decide_eq_true (by first | (with_reducible assumption) | assumption)
                      have q18016 : x11_2 < (x18015003_2.length : Int) := of_decide_eq_true (by first | (with_reducible assumption) | assumption)
                      obtain ⟨ad18016, e18016, hx18016_0, hx18016_1, hx18016_2, hx18016_3, hx18016_4⟩ := at_T112 (Kd.R_reads' HO_18015003.out).2.2 x11_2 p18016 q18016
                      cases e18016
                      replace p18016 := eq_true p18016
                      replace q18016 := eq_true q18016
                      have p55 : 0 ≤ (x11_2 : Int) := of_decide_eq_true (by first | (with_reducible assumption) | assumption)
                      have q55 : (x11_2 : Int) < ((x18015003_2.length : Int) : Int) := of_decide_eq_true (by first | (with_reducible assumption) | assumption)
                      obtain ⟨go55, co55, eo55, gb55, gl55, cl55, HG55⟩ := Kd.R_form HO_18015003.out (by omega)
                      (first | cases eo55 | (injection eo55 with ea_ en_ ec_; (first | subst ea_ | (injection ea_ with ea_; subst ea_)); subst ec_; clear en_))
                      have GB55 := Aside0.mk gb55
                      have GG55 := Aside0.mk HG55
                      clear gb55 gl55 HG55
                      (first | simp only [add_plain] at hx18016_0 | skip)
                      (first | simp only [add_plain] at hx18016_1 | skip)
                      (first | simp only [add_plain] at hx18016_2 | skip)
                      (first | simp only [add_plain] at hx18016_3 | skip)
                      (first | simp only [add_plain] at hx18016_4 | skip)
                      obtain ⟨ce55, hcl55, hM55, hcc55, hfr55⟩ := Kd.R_elem HO_18015003.out z112 (x11_2 : Int) p55 q55
                      obtain rfl := k112_openM hM55
                      have hx55_0 : World.cell? _ ⟨go55, (x11_2 : Int).toNat * 5, none⟩ = some (.int .i64 ((rd_T112 x18015003_2 x11_2).f0)) := hcc55 0 _ rfl
                      have hx55_1 : World.cell? _ ⟨go55, (x11_2 : Int).toNat * 5 + 1, none⟩ = some (.int .i64 ((rd_T112 x18015003_2 x11_2).f1)) := hcc55 1 _ rfl
                      have hx55_2 : World.cell? _ ⟨go55, (x11_2 : Int).toNat * 5 + 2, none⟩ = some (.int .i64 ((rd_T112 x18015003_2 x11_2).f2)) := hcc55 2 _ rfl
                      have hx55_3 : World.cell? _ ⟨go55, (x11_2 : Int).toNat * 5 + 3, none⟩ = some (.int .i64 ((rd_T112 x18015003_2 x11_2).f3)) := hcc55 3 _ rfl
                      have hx55_4 : World.cell? _ ⟨go55, (x11_2 : Int).toNat * 5 + 4, none⟩ = some (.int .i64 ((rd_T112 x18015003_2 x11_2).f4)) := hcc55 4 _ rfl
                      have hf55_0 : World.frozen? _ ⟨go55, (x11_2 : Int).toNat * 5, none⟩ = false := hfr55 0
                      have hf55_1 : World.frozen? _ ⟨go55, (x11_2 : Int).toNat * 5 + 1, none⟩ = false := hfr55 1
                      have hf55_2 : World.frozen? _ ⟨go55, (x11_2 : Int).toNat * 5 + 2, none⟩ = false := hfr55 2
                      have hf55_3 : World.frozen? _ ⟨go55, (x11_2 : Int).toNat * 5 + 3, none⟩ = false := hfr55 3
                      have hf55_4 : World.frozen? _ ⟨go55, (x11_2 : Int).toNat * 5 + 4, none⟩ = false := hfr55 4
                      clear hcl55 hcc55 hfr55 hM55
                      replace p55 := eq_true p55
                      replace q55 := eq_true q55
                      obtain ⟨ce63, hcl63, hM63, hcc63, hfr63⟩ := Kd.R_elem HO_18015003.out z112 (x11_2 : Int) (of_decide_eq_true (by first | (with_reducible assumption) | assumption)) (by have h_ : (x11_2 : Int) < ((x18015003_2.length : Int) : Int) := of_decide_eq_true (by first | (with_reducible assumption) | assumption); first | exact h_ | (have e_ := (Kd.R_reads' HO_18015003.out).1; omega) | simpa using h_)
                      obtain rfl := k112_openM hM63
                      have HP63 := (Kd.R_seg HO_18015003.out (x11_2 : Int) (of_decide_eq_true (by first | (with_reducible assumption) | assumption)) (by have h_ : (x11_2 : Int) < ((x18015003_2.length : Int) : Int) := of_decide_eq_true (by first | (with_reducible assumption) | assumption); first | exact h_ | (have e_ := (Kd.R_reads' HO_18015003.out).1; omega) | simpa using h_) (seg := [.int .i64 (wrap64 (-((rd_T112 x18015003_2 x11_2).f3)))]) (j := 3) hcl63 hcc63 (show 4 ≤ 5 from by decide) (x' := (⟨(rd_T112 x18015003_2 x11_2).f0, (rd_T112 x18015003_2 x11_2).f1, (rd_T112 x18015003_2 x11_2).f2, wrap64 (-((rd_T112 x18015003_2 x11_2).f3)), (rd_T112 x18015003_2 x11_2).f4⟩ : S112)) (k112_mkM _ _ _ (⟨(rd_T112 x18015003_2 x11_2).f0, (rd_T112 x18015003_2 x11_2).f1, (rd_T112 x18015003_2 x11_2).f2, wrap64 (-((rd_T112 x18015003_2 x11_2).f3)), (rd_T112 x18015003_2 x11_2).f4⟩ : S112) ) (fun _ hk => hk)).1
                      rw [← Ny18017.out] at HP63
                      have HQ63 := Aside0.mk HP63
                      clear hcl63 hcc63 hfr63 hM63 HP63
                      refine start_ (n := 13) (S := fun w' => w'.cell? ⟨gb18014, 0, none⟩ = some (.int .i64 a3) ∧ w'.cell? ⟨gb18014, 1, none⟩ = some (.int .i64 (wrap64 (a2 + 1))) ∧ w'.cell? ⟨gb18014, 2, none⟩ = some (.string ((⟨#[114, 101, 118, 101, 114, 115, 101, 32]⟩ : ByteArray) ++ t18015)) ∧ w'.cell? ⟨gb18014, 3, none⟩ = some (.slice (some ⟨go55, 0, none⟩) x18015003_2.length co61) ∧ w'.cell? ⟨go55, ((x11_2).toNat * 5), none⟩ = some (.int .i64 ((rd_T112 x18015003_2 x11_2).f0)) ∧ w'.cell? ⟨go55, ((x11_2).toNat * 5) + 1, none⟩ = some (.int .i64 ((rd_T112 x18015003_2 x11_2).f1)) ∧ w'.cell? ⟨go55, ((x11_2).toNat * 5) + 2, none⟩ = some (.int .i64 ((rd_T112 x18015003_2 x11_2).f2)) ∧ w'.cell? ⟨go55, ((x11_2).toNat * 5) + 3, none⟩ = some (.int .i64 ((rd_T112 x18015003_2 x11_2).f3)) ∧ w'.cell? ⟨go55, ((x11_2).toNat * 5) + 4, none⟩ = some (.int .i64 ((rd_T112 x18015003_2 x11_2).f4))) (ds := [12]) #[false, false, false, false, false, false, false, false, false, false, false, false, false] (by kernel_rfl) rfl rfl ⟨(blk_cell BK18014.out 0).trans rfl, (blk_cell BK18014.out 1).trans rfl, (blk_cell BK18014.out 2).trans rfl, (blk_cell BK18014.out 3).trans rfl, hx18016_0, hx18016_1, hx18016_2, hx18016_3, hx18016_4⟩ (fun hHeld => ?_); refine with_tabW spec_Reverse.tab10 spec_Reverse.bits10 (fun HT_ HW_ => ?_)
                      generalize wr.drew = w62 at HO_18015003 BK18001 BK18002 BK18003 BK18014 HB GG55 HQ63 hf55_0 hf55_1 hf55_2 hf55_3 hf55_4 hx18016_0 hx18016_1 hx18016_2 hx18016_3 hx18016_4 hx55_0 hx55_1 hx55_2 hx55_3 hx55_4 hHeld ⊢
                      refine pure_ (i := 0) (N := some 54) (v := ?_) (a' := ?_) #[true, false, false, false, false, false, false, false, false, false, false, false, false] rfl rfl (any_of HT_.out (by kernel_rfl)) (fun _ _ _ h => h) (Or.inl ⟨by rfl, ?_⟩) ?_ ?_
                      rotate_left
                      · intro w'
                        go_simp
                        with_reducible rfl
                      rotate_left
                      · simp only [Act.put, List.setIfInBounds_toArray, List.set_cons_zero, List.set_cons_succ, i64_w, i32_w]
                        rfl
                      refine pure_ (i := 2) (N := some 56) (v := ?_) (a' := ?_) #[true, false, true, false, false, false, false, false, false, false, false, false, false] rfl rfl (any_of HT_.out (by kernel_rfl)) (fun _ _ _ h => h) (Or.inl ⟨by rfl, ?_⟩) ?_ ?_
                      rotate_left
                      · intro w'
                        go_simp
                        with_reducible rfl
                      rotate_left
                      · simp only [Act.put, List.setIfInBounds_toArray, List.set_cons_zero, List.set_cons_succ, i64_w, i32_w]
                        rfl
                      refine pure_ (i := 3) (N := some 57) (v := ?_) (a' := ?_) #[true, false, true, true, false, false, false, false, false, false, false, false, false] rfl rfl (any_of HT_.out (by kernel_rfl)) (fun _ _ _ h => h) (Or.inl ⟨by rfl, ?_⟩) ?_ ?_
                      rotate_left
                      · intro w'
                        go_simp
                        with_reducible rfl
                      rotate_left
                      · simp only [Act.put, List.setIfInBounds_toArray, List.set_cons_zero, List.set_cons_succ, i64_w, i32_w]
                        rfl
                      refine pure_ (i := 5) (N := some 59) (v := ?_) (a' := ?_) #[true, false, true, true, false, true, false, false, false, false, false, false, false] rfl rfl (any_of HT_.out (by kernel_rfl)) (fun _ _ _ h => h) (Or.inl ⟨by rfl, ?_⟩) ?_ ?_
                      rotate_left
                      · intro w'
                        go_simp
                        with_reducible rfl
                      rotate_left
                      · simp only [Act.put, List.setIfInBounds_toArray, List.set_cons_zero, List.set_cons_succ, i64_w, i32_w]
                        rfl
                      refine take_ (i := 1) (N := some 55) (v := ?_) (a' := ?_) #[true, true, true, true, false, true, false, false, false, false, false, false, false] rfl rfl (take_ofW HT_.out HW_.out (by kernel_rfl)) (fun _ _ _ h => h) (Or.inl ⟨by rfl, ?_⟩) hHeld ?_ ?_
                      rotate_left
                      · rintro w' ⟨s0, s1, s2, s3, s4, s5, s6, s7, s8⟩
                        go_simp
                        with_reducible rfl
                      rotate_left
                      · simp only [Act.put, List.setIfInBounds_toArray, List.set_cons_zero, List.set_cons_succ, i64_w, i32_w]
                        rfl
                      refine take_ (i := 4) (N := some 58) (v := ?_) (a' := ?_) #[true, true, true, true, true, true, false, false, false, false, false, false, false] rfl rfl (take_ofW HT_.out HW_.out (by kernel_rfl)) (fun _ _ _ h => h) (Or.inl ⟨by rfl, ?_⟩) hHeld ?_ ?_
                      rotate_left
                      · rintro w' ⟨s0, s1, s2, s3, s4, s5, s6, s7, s8⟩
                        go_simp
                        with_reducible rfl
                      rotate_left
                      · simp only [Act.put, List.setIfInBounds_toArray, List.set_cons_zero, List.set_cons_succ, i64_w, i32_w]
                        rfl
                      refine pure_ (i := 6) (N := some 60) (v := ?_) (a' := ?_) #[true, true, true, true, true, true, true, false, false, false, false, false, false] rfl rfl (any_of HT_.out (by kernel_rfl)) (fun _ _ _ h => h) (Or.inl ⟨by rfl, ?_⟩) ?_ ?_
                      rotate_left
                      · intro w'
                        go_simp
                        with_reducible rfl
                      rotate_left
                      · simp only [Act.put, List.setIfInBounds_toArray, List.set_cons_zero, List.set_cons_succ, i64_w, i32_w]
                        rfl
                      refine pure_ (i := 7) (N := some 61) (v := ?_) (a' := ?_) #[true, true, true, true, true, true, true, true, false, false, false, false, false] rfl rfl (any_of HT_.out (by kernel_rfl)) (fun _ _ _ h => h) (Or.inl ⟨by rfl, ?_⟩) ?_ ?_
                      rotate_left
                      · intro w'
                        go_simp
                        with_reducible rfl
                      rotate_left
                      · simp only [Act.put, List.setIfInBounds_toArray, List.set_cons_zero, List.set_cons_succ, i64_w, i32_w]
                        rfl
                      refine take_ (i := 8) (N := some 62) (v := ?_) (a' := ?_) #[true, true, true, true, true, true, true, true, true, false, false, false, false] rfl rfl (take_ofW HT_.out HW_.out (by kernel_rfl)) (fun _ _ _ h => h) (Or.inl ⟨by rfl, ?_⟩) hHeld ?_ ?_
                      rotate_left
                      · rintro w' ⟨s0, s1, s2, s3, s4, s5, s6, s7, s8⟩
                        go_simp
                        with_reducible rfl
                      rotate_left
                      · simp only [Act.put, List.setIfInBounds_toArray, List.set_cons_zero, List.set_cons_succ, i64_w, i32_w]
                        rfl
                      refine pure_ (i := 9) (N := some 63) (v := ?_) (a' := ?_) #[true, true, true, true, true, true, true, true, true, true, false, false, false] rfl rfl (any_of HT_.out (by kernel_rfl)) (fun _ _ _ h => h) (Or.inl ⟨by rfl, ?_⟩) ?_ ?_
                      rotate_left
                      · intro w'
                        go_simp
                        with_reducible rfl
                      rotate_left
                      · simp only [Act.put, List.setIfInBounds_toArray, List.set_cons_zero, List.set_cons_succ, i64_w, i32_w]
                        rfl
                      refine pure_ (i := 10) (N := some 64) (v := ?_) (a' := ?_) #[true, true, true, true, true, true, true, true, true, true, true, false, false] rfl rfl (any_of HT_.out (by kernel_rfl)) (fun _ _ _ h => h) (Or.inl ⟨by rfl, ?_⟩) ?_ ?_
                      rotate_left
                      · intro w'
                        go_simp
                        with_reducible rfl
                      rotate_left
                      · simp only [Act.put, List.setIfInBounds_toArray, List.set_cons_zero, List.set_cons_succ, i64_w, i32_w]
                        rfl
                      refine pure_ (i := 11) (N := some 65) (v := ?_) (a' := ?_) #[true, true, true, true, true, true, true, true, true, true, true, true, false] rfl rfl (any_of HT_.out (by kernel_rfl)) (fun _ _ _ h => h) (Or.inl ⟨by rfl, ?_⟩) ?_ ?_
                      rotate_left
                      · intro w'
                        go_simp
                        with_reducible rfl
                      rotate_left
                      · simp only [Act.put, List.setIfInBounds_toArray, List.set_cons_zero, List.set_cons_succ, i64_w, i32_w]
                        rfl
                      refine last_ (i := 12) (N := none) #[true, true, true, true, true, true, true, true, true, true, true, true, true] rfl rfl (one_of HT_.out (by kernel_rfl)) (by decide) (fun K hK => ?_)
                      refine skip_ (w1 := ?_) (by rfl) rfl ?_ ?_
                      rotate_left
                      · go_simp
                        rfl
                      refine hK.out _ _ ?_
                      clear hK K
                      refine done_ (done_of HT_.out (by kernel_rfl)) ?_
                      try go_wp2
                      have n0_ : Aside0 (Kd.R k112 112 (w62.setCell ⟨go55, (x11_2 : Int).toNat * 5 + 3, none⟩ (.int .i64 (wrap64 (-((rd_T112 x18015003_2 x11_2).f3))))) w.heap.size (fun _ => True) (.slice (some ⟨go55, 0, none⟩) x18015003_2.length co61) y18017) := ⟨by (with_reducible repeat (first | apply Kd.R_alloc | apply Kd.R_drewN | apply Kd.R_drew)); exact HQ63.out⟩
                      have n1_ : Aside0 ((w62.setCell ⟨go55, (x11_2 : Int).toNat * 5 + 3, none⟩ (.int .i64 (wrap64 (-((rd_T112 x18015003_2 x11_2).f3))))).heap[gb18001]? = some (.cells #[.slice A0_0 l0_0.length c0_0, .int .i64 a0_1, .int .i64 a0_2] 26 (0, 0))) := ⟨by (with_reducible repeat (first | refine blk_drewN ?_ _ | refine blk_drew ?_ | refine blk_alloc ?_ _)); refine blk_far ?_ (by have h_ := Kd.R_ne HO_18015003.out BK18001.out (by decide); intro e_; exact h_ (by rw [e_]; rfl)) _; (with_reducible repeat (first | refine blk_drewN ?_ _ | refine blk_drew ?_ | refine blk_alloc ?_ _)); exact BK18001.out⟩
                      have n2_ : Aside0 ((w62.setCell ⟨go55, (x11_2 : Int).toNat * 5 + 3, none⟩ (.int .i64 (wrap64 (-((rd_T112 x18015003_2 x11_2).f3))))).heap[gb18002]? = some (.cells #[.slice (some ad18007) l1_0.length c1_0, .int .i64 a1_1] 29 (0, 0))) := ⟨by (with_reducible repeat (first | refine blk_drewN ?_ _ | refine blk_drew ?_ | refine blk_alloc ?_ _)); refine blk_far ?_ (by have h_ := Kd.R_ne HO_18015003.out BK18002.out (by decide); intro e_; exact h_ (by rw [e_]; rfl)) _; (with_reducible repeat (first | refine blk_drewN ?_ _ | refine blk_drew ?_ | refine blk_alloc ?_ _)); exact BK18002.out⟩
                      have n3_ : Aside0 ((w62.setCell ⟨go55, (x11_2 : Int).toNat * 5 + 3, none⟩ (.int .i64 (wrap64 (-((rd_T112 x18015003_2 x11_2).f3))))).heap[gb18003]? = some (.cells #[.int .i64 0, .int .i64 0, .string (⟨#[]⟩ : ByteArray), .slice none 0 0] 34 (0, 0))) := ⟨by (with_reducible repeat (first | refine blk_drewN ?_ _ | refine blk_drew ?_ | refine blk_alloc ?_ _)); refine blk_far ?_ (by have h_ := Kd.R_ne HO_18015003.out BK18003.out (by decide); intro e_; exact h_ (by rw [e_]; rfl)) _; (with_reducible repeat (first | refine blk_drewN ?_ _ | refine blk_drew ?_ | refine blk_alloc ?_ _)); exact BK18003.out⟩
                      have n4_ : Aside0 ((w62.setCell ⟨go55, (x11_2 : Int).toNat * 5 + 3, none⟩ (.int .i64 (wrap64 (-((rd_T112 x18015003_2 x11_2).f3))))).heap[gb18014]? = some (.cells #[.int .i64 a3, .int .i64 (wrap64 (a2 + 1)), .string ((⟨#[114, 101, 118, 101, 114, 115, 101, 32]⟩ : ByteArray) ++ t18015), .slice (some ⟨go55, 0, none⟩) x18015003_2.length co61] 34 (0, 0))) := ⟨by (with_reducible repeat (first | refine blk_drewN ?_ _ | refine blk_drew ?_ | refine blk_alloc ?_ _)); refine blk_far ?_ (by have h_ := Kd.R_ne HO_18015003.out BK18014.out (by decide); intro e_; exact h_ (by rw [e_]; rfl)) _; (with_reducible repeat (first | refine blk_drewN ?_ _ | refine blk_drew ?_ | refine blk_alloc ?_ _)); exact BK18014.out⟩
                      have n5_ : Aside0 (Below w.heap.size w (w62.setCell ⟨go55, (x11_2 : Int).toNat * 5 + 3, none⟩ (.int .i64 (wrap64 (-((rd_T112 x18015003_2 x11_2).f3)))))) := ⟨by repeat (first | (with_reducible first | exact HB.out | apply below_alloc | apply pw_below_drewN | apply below_drew1 | refine below_set ?_ GB55.out | refine below_set ?_ GE18001.out | refine below_set ?_ GE18002.out | refine below_set ?_ GE18003.out | refine below_set ?_ GE18014.out) | exact HB.out)⟩
                      (try clear HO_18015003)
                      (try clear BK18001)
                      (try clear BK18002)
                      (try clear BK18003)
                      (try clear BK18014)
                      (try clear HB)
                      generalize (w62.setCell ⟨go55, (x11_2 : Int).toNat * 5 + 3, none⟩ (.int .i64 (wrap64 (-((rd_T112 x18015003_2 x11_2).f3))))) = w64 at n0_ n1_ n2_ n3_ n4_ n5_ ⊢
                      have HO_18015003 := n0_
                      have BK18001 := n1_
                      have BK18002 := n2_
                      have BK18003 := n3_
                      have BK18014 := n4_
                      have HB := n5_
                      clear n0_ n1_ n2_ n3_ n4_ n5_
                      have n0_ := Aside0.mk (Kd.R_drew HO_18015003.out)
                      have n1_ := Aside0.mk (blk_drew BK18001.out)
                      have n2_ := Aside0.mk (blk_drew BK18002.out)
                      have n3_ := Aside0.mk (blk_drew BK18003.out)
                      have n4_ := Aside0.mk (blk_drew BK18014.out)
                      have n5_ := Aside0.mk (below_drew1 HB.out)
                      clear HO_18015003
                      clear BK18001
                      clear BK18002
                      clear BK18003
                      clear BK18014
                      clear HB
                      have HO_18015003 := n0_
                      have BK18001 := n1_
                      have BK18002 := n2_
                      have BK18003 := n3_
                      have BK18014 := n4_
                      have HB := n5_
                      clear n0_ n1_ n2_ n3_ n4_ n5_
                      have p18018 : 0 ≤ (x11_2 : Int) := of_decide_eq_true (by first | (with_reducible assumption) | assumption)
                      have q18018 : x11_2 < (y18017.length : Int) := (by have h_ : (x11_2 : Int) < ((x18015003_2.length : Int) : Int) := of_decide_eq_true (by first | (with_reducible assumption) | assumption); first | (have e_ := (Kd.R_reads' HO_18015003.out).1; omega) | simpa only [Ny18017.out, List.length_set] using h_)
                      have ql18018 : ((x11_2 : Int) < ((x18015003_2.length : Int) : Int)) = True := eq_true (of_decide_eq_true (by first | (with_reducible assumption) | assumption))
                      obtain ⟨ad18018, e18018, hx18018_0, hx18018_1, hx18018_2, hx18018_3, hx18018_4⟩ := at_T112 (Kd.R_reads' HO_18015003.out).2.2 x11_2 p18018 q18018
                      obtain rfl : (⟨go55, 0, none⟩ : Addr) = ad18018 := (by injection e18018)
                      (first | simp only [add_plain] at hx18018_0 | simp only [add_at] at hx18018_0 | simp only [Addr.add, Nat.zero_add] at hx18018_0 | skip)
                      (first | simp only [add_plain] at hx18018_1 | simp only [add_at] at hx18018_1 | simp only [Addr.add, Nat.zero_add] at hx18018_1 | skip)
                      (first | simp only [add_plain] at hx18018_2 | simp only [add_at] at hx18018_2 | simp only [Addr.add, Nat.zero_add] at hx18018_2 | skip)
                      (first | simp only [add_plain] at hx18018_3 | simp only [add_at] at hx18018_3 | simp only [Addr.add, Nat.zero_add] at hx18018_3 | skip)
                      (first | simp only [add_plain] at hx18018_4 | simp only [add_at] at hx18018_4 | simp only [Addr.add, Nat.zero_add] at hx18018_4 | skip)
                      replace p18018 := eq_true p18018
                      replace q18018 := eq_true q18018
                      have p56 : 0 ≤ (x11_2 : Int) := of_decide_eq_true (by first | (with_reducible assumption) | assumption)
                      have q56 : (x11_2 : Int) < ((x18015003_2.length : Int) : Int) := of_decide_eq_true (by first | (with_reducible assumption) | assumption)
                      obtain ⟨ce56, hcl56, hM56, hcc56, hfr56⟩ := Kd.R_elem HO_18015003.out z112 (x11_2 : Int) p56 q56
                      obtain rfl := k112_openM hM56
                      have hx56_0 : World.cell? _ ⟨go55, (x11_2 : Int).toNat * 5, none⟩ = some (.int .i64 ((rd_T112 y18017 x11_2).f0)) := hcc56 0 _ rfl
                      have hx56_1 : World.cell? _ ⟨go55, (x11_2 : Int).toNat * 5 + 1, none⟩ = some (.int .i64 ((rd_T112 y18017 x11_2).f1)) := hcc56 1 _ rfl
                      have hx56_2 : World.cell? _ ⟨go55, (x11_2 : Int).toNat * 5 + 2, none⟩ = some (.int .i64 ((rd_T112 y18017 x11_2).f2)) := hcc56 2 _ rfl
                      have hx56_3 : World.cell? _ ⟨go55, (x11_2 : Int).toNat * 5 + 3, none⟩ = some (.int .i64 ((rd_T112 y18017 x11_2).f3)) := hcc56 3 _ rfl
                      have hx56_4 : World.cell? _ ⟨go55, (x11_2 : Int).toNat * 5 + 4, none⟩ = some (.int .i64 ((rd_T112 y18017 x11_2).f4)) := hcc56 4 _ rfl
                      have hf56_0 : World.frozen? _ ⟨go55, (x11_2 : Int).toNat * 5, none⟩ = false := hfr56 0
                      have hf56_1 : World.frozen? _ ⟨go55, (x11_2 : Int).toNat * 5 + 1, none⟩ = false := hfr56 1
                      have hf56_2 : World.frozen? _ ⟨go55, (x11_2 : Int).toNat * 5 + 2, none⟩ = false := hfr56 2
                      have hf56_3 : World.frozen? _ ⟨go55, (x11_2 : Int).toNat * 5 + 3, none⟩ = false := hfr56 3
                      have hf56_4 : World.frozen? _ ⟨go55, (x11_2 : Int).toNat * 5 + 4, none⟩ = false := hfr56 4
                      clear hcl56 hcc56 hfr56 hM56
                      replace p56 := eq_true p56
                      replace q56 := eq_true q56
                      obtain ⟨ce66, hcl66, hM66, hcc66, hfr66⟩ := Kd.R_elem HO_18015003.out z112 (x11_2 : Int) (of_decide_eq_true (by first | (with_reducible assumption) | assumption)) (by have h_ : (x11_2 : Int) < ((x18015003_2.length : Int) : Int) := of_decide_eq_true (by first | (with_reducible assumption) | assumption); first | exact h_ | (have e_ := (Kd.R_reads' HO_18015003.out).1; omega) | simpa using h_)
                      obtain rfl := k112_openM hM66
                      have HP66 := (Kd.R_seg HO_18015003.out (x11_2 : Int) (of_decide_eq_true (by first | (with_reducible assumption) | assumption)) (by have h_ : (x11_2 : Int) < ((x18015003_2.length : Int) : Int) := of_decide_eq_true (by first | (with_reducible assumption) | assumption); first | exact h_ | (have e_ := (Kd.R_reads' HO_18015003.out).1; omega) | simpa using h_) (seg := [.int .i64 (wrap64 (-((rd_T112 y18017 x11_2).f4)))]) (j := 4) hcl66 hcc66 (show 5 ≤ 5 from by decide) (x' := (⟨(rd_T112 y18017 x11_2).f0, (rd_T112 y18017 x11_2).f1, (rd_T112 y18017 x11_2).f2, (rd_T112 y18017 x11_2).f3, wrap64 (-((rd_T112 y18017 x11_2).f4))⟩ : S112)) (k112_mkM _ _ _ (⟨(rd_T112 y18017 x11_2).f0, (rd_T112 y18017 x11_2).f1, (rd_T112 y18017 x11_2).f2, (rd_T112 y18017 x11_2).f3, wrap64 (-((rd_T112 y18017 x11_2).f4))⟩ : S112) ) (fun _ hk => hk)).1
                      rw [← Ny18019.out] at HP66
                      have HQ66 := Aside0.mk HP66
                      clear hcl66 hcc66 hfr66 hM66 HP66
                      refine start_ (n := 13) (S := fun w' => w'.cell? ⟨gb18014, 0, none⟩ = some (.int .i64 a3) ∧ w'.cell? ⟨gb18014, 1, none⟩ = some (.int .i64 (wrap64 (a2 + 1))) ∧ w'.cell? ⟨gb18014, 2, none⟩ = some (.string ((⟨#[114, 101, 118, 101, 114, 115, 101, 32]⟩ : ByteArray) ++ t18015)) ∧ w'.cell? ⟨gb18014, 3, none⟩ = some (.slice (some ⟨go55, 0, none⟩) x18015003_2.length co61) ∧ w'.cell? ⟨go55, (x11_2).toNat * 5, none⟩ = some (.int .i64 ((rd_T112 y18017 x11_2).f0)) ∧ w'.cell? ⟨go55, (x11_2).toNat * 5 + 1, none⟩ = some (.int .i64 ((rd_T112 y18017 x11_2).f1)) ∧ w'.cell? ⟨go55, (x11_2).toNat * 5 + 2, none⟩ = some (.int .i64 ((rd_T112 y18017 x11_2).f2)) ∧ w'.cell? ⟨go55, (x11_2).toNat * 5 + 3, none⟩ = some (.int .i64 ((rd_T112 y18017 x11_2).f3)) ∧ w'.cell? ⟨go55, (x11_2).toNat * 5 + 4, none⟩ = some (.int .i64 ((rd_T112 y18017 x11_2).f4))) (ds := [12]) #[false, false, false, false, false, false, false, false, false, false, false, false, false] (by kernel_rfl) rfl rfl ⟨(blk_cell BK18014.out 0).trans rfl, (blk_cell BK18014.out 1).trans rfl, (blk_cell BK18014.out 2).trans rfl, (blk_cell BK18014.out 3).trans rfl, hx18018_0, hx18018_1, hx18018_2, hx18018_3, hx18018_4⟩ (fun hHeld => ?_); refine with_tabW spec_Reverse.tab11 spec_Reverse.bits11 (fun HT_ HW_ => ?_)
                      generalize w64.drew = w65 at HO_18015003 BK18001 BK18002 BK18003 BK18014 HB HQ63 HQ66 hf56_0 hf56_1 hf56_2 hf56_3 hf56_4 hx18018_0 hx18018_1 hx18018_2 hx18018_3 hx18018_4 hx56_0 hx56_1 hx56_2 hx56_3 hx56_4 hHeld ⊢
                      refine pure_ (i := 0) (N := some 66) (v := ?_) (a' := ?_) #[true, false, false, false, false, false, false, false, false, false, false, false, false] rfl rfl (any_of HT_.out (by kernel_rfl)) (fun _ _ _ h => h) (Or.inl ⟨by rfl, ?_⟩) ?_ ?_
                      rotate_left
                      · intro w'
                        go_simp
                        with_reducible rfl
                      rotate_left
                      · simp only [Act.put, List.setIfInBounds_toArray, List.set_cons_zero, List.set_cons_succ, i64_w, i32_w]
                        rfl
                      refine pure_ (i := 2) (N := some 68) (v := ?_) (a' := ?_) #[true, false, true, false, false, false, false, false, false, false, false, false, false] rfl rfl (any_of HT_.out (by kernel_rfl)) (fun _ _ _ h => h) (Or.inl ⟨by rfl, ?_⟩) ?_ ?_
                      rotate_left
                      · intro w'
                        go_simp
                        with_reducible rfl
                      rotate_left
                      · simp only [Act.put, List.setIfInBounds_toArray, List.set_cons_zero, List.set_cons_succ, i64_w, i32_w]
                        rfl
                      refine pure_ (i := 3) (N := some 69) (v := ?_) (a' := ?_) #[true, false, true, true, false, false, false, false, false, false, false, false, false] rfl rfl (any_of HT_.out (by kernel_rfl)) (fun _ _ _ h => h) (Or.inl ⟨by rfl, ?_⟩) ?_ ?_
                      rotate_left
                      · intro w'
                        go_simp
                        with_reducible rfl
                      rotate_left
                      · simp only [Act.put, List.setIfInBounds_toArray, List.set_cons_zero, List.set_cons_succ, i64_w, i32_w]
                        rfl
                      refine pure_ (i := 5) (N := some 71) (v := ?_) (a' := ?_) #[true, false, true, true, false, true, false, false, false, false, false, false, false] rfl rfl (any_of HT_.out (by kernel_rfl)) (fun _ _ _ h => h) (Or.inl ⟨by rfl, ?_⟩) ?_ ?_
                      rotate_left
                      · intro w'
                        go_simp
                        with_reducible rfl
                      rotate_left
                      · simp only [Act.put, List.setIfInBounds_toArray, List.set_cons_zero, List.set_cons_succ, i64_w, i32_w]
                        rfl
                      refine take_ (i := 1) (N := some 67) (v := ?_) (a' := ?_) #[true, true, true, true, false, true, false, false, false, false, false, false, false] rfl rfl (take_ofW HT_.out HW_.out (by kernel_rfl)) (fun _ _ _ h => h) (Or.inl ⟨by rfl, ?_⟩) hHeld ?_ ?_
                      rotate_left
                      · rintro w' ⟨s0, s1, s2, s3, s4, s5, s6, s7, s8⟩
                        go_simp
                        with_reducible rfl
                      rotate_left
                      · simp only [Act.put, List.setIfInBounds_toArray, List.set_cons_zero, List.set_cons_succ, i64_w, i32_w]
                        rfl
                      refine take_ (i := 4) (N := some 70) (v := ?_) (a' := ?_) #[true, true, true, true, true, true, false, false, false, false, false, false, false] rfl rfl (take_ofW HT_.out HW_.out (by kernel_rfl)) (fun _ _ _ h => h) (Or.inl ⟨by rfl, ?_⟩) hHeld ?_ ?_
                      rotate_left
                      · rintro w' ⟨s0, s1, s2, s3, s4, s5, s6, s7, s8⟩
                        go_simp
                        with_reducible rfl
                      rotate_left
                      · simp only [Act.put, List.setIfInBounds_toArray, List.set_cons_zero, List.set_cons_succ, i64_w, i32_w]
                        rfl
                      refine pure_ (i := 6) (N := some 72) (v := ?_) (a' := ?_) #[true, true, true, true, true, true, true, false, false, false, false, false, false] rfl rfl (any_of HT_.out (by kernel_rfl)) (fun _ _ _ h => h) (Or.inl ⟨by rfl, ?_⟩) ?_ ?_
                      rotate_left
                      · intro w'
                        go_simp
                        with_reducible rfl
                      rotate_left
                      · simp only [Act.put, List.setIfInBounds_toArray, List.set_cons_zero, List.set_cons_succ, i64_w, i32_w]
                        rfl
                      refine pure_ (i := 7) (N := some 73) (v := ?_) (a' := ?_) #[true, true, true, true, true, true, true, true, false, false, false, false, false] rfl rfl (any_of HT_.out (by kernel_rfl)) (fun _ _ _ h => h) (Or.inl ⟨by rfl, ?_⟩) ?_ ?_
                      rotate_left
                      · intro w'
                        go_simp
                        with_reducible rfl
                      rotate_left
                      · simp only [Act.put, List.setIfInBounds_toArray, List.set_cons_zero, List.set_cons_succ, i64_w, i32_w]
                        rfl
                      refine take_ (i := 8) (N := some 74) (v := ?_) (a' := ?_) #[true, true, true, true, true, true, true, true, true, false, false, false, false] rfl rfl (take_ofW HT_.out HW_.out (by kernel_rfl)) (fun _ _ _ h => h) (Or.inl ⟨by rfl, ?_⟩) hHeld ?_ ?_
                      rotate_left
                      · rintro w' ⟨s0, s1, s2, s3, s4, s5, s6, s7, s8⟩
                        go_simp
                        with_reducible rfl
                      rotate_left
                      · simp only [Act.put, List.setIfInBounds_toArray, List.set_cons_zero, List.set_cons_succ, i64_w, i32_w]
                        rfl
                      refine pure_ (i := 9) (N := some 75) (v := ?_) (a' := ?_) #[true, true, true, true, true, true, true, true, true, true, false, false, false] rfl rfl (any_of HT_.out (by kernel_rfl)) (fun _ _ _ h => h) (Or.inl ⟨by rfl, ?_⟩) ?_ ?_
                      rotate_left
                      · intro w'
                        go_simp
                        with_reducible rfl
                      rotate_left
                      · simp only [Act.put, List.setIfInBounds_toArray, List.set_cons_zero, List.set_cons_succ, i64_w, i32_w]
                        rfl
                      refine pure_ (i := 10) (N := some 76) (v := ?_) (a' := ?_) #[true, true, true, true, true, true, true, true, true, true, true, false, false] rfl rfl (any_of HT_.out (by kernel_rfl)) (fun _ _ _ h => h) (Or.inl ⟨by rfl, ?_⟩) ?_ ?_
                      rotate_left
                      · intro w'
                        go_simp
                        with_reducible rfl
                      rotate_left
                      · simp only [Act.put, List.setIfInBounds_toArray, List.set_cons_zero, List.set_cons_succ, i64_w, i32_w]
                        rfl
                      refine pure_ (i := 11) (N := some 77) (v := ?_) (a' := ?_) #[true, true, true, true, true, true, true, true, true, true, true, true, false] rfl rfl (any_of HT_.out (by kernel_rfl)) (fun _ _ _ h => h) (Or.inl ⟨by rfl, ?_⟩) ?_ ?_
                      rotate_left
                      · intro w'
                        go_simp
                        with_reducible rfl
                      rotate_left
                      · simp only [Act.put, List.setIfInBounds_toArray, List.set_cons_zero, List.set_cons_succ, i64_w, i32_w]
                        rfl
                      refine last_ (i := 12) (N := none) #[true, true, true, true, true, true, true, true, true, true, true, true, true] rfl rfl (one_of HT_.out (by kernel_rfl)) (by decide) (fun K hK => ?_)
                      refine skip_ (w1 := ?_) (by rfl) rfl ?_ ?_
                      rotate_left
                      · go_simp
                        rfl
                      refine hK.out _ _ ?_
                      clear hK K
                      refine done_ (done_of HT_.out (by kernel_rfl)) ?_
                      try go_wp2
                      go_roundg k2
                      case measure => have := HJ4.out; have := HK2.out; omega
                      case rel => exact ⟨(wrap64 (x11_2 + 1)), (y18019), (.slice (some ⟨go55, 0, none⟩) x18015003_2.length co61), (by first | rfl | (simp; done) | (simp [*]; done)), H', ⟨by have := HJ4.out; have := HK2.out; omega⟩, ⟨by (with_reducible repeat (first | apply Kd.R_alloc | apply Kd.R_drewN | apply Kd.R_drew)); exact HQ66.out⟩, ⟨by (with_reducible repeat (first | refine blk_drewN ?_ _ | refine blk_drew ?_ | refine blk_alloc ?_ _)); refine blk_far ?_ (by have h_ := Kd.R_ne HO_18015003.out BK18001.out (by decide); intro e_; exact h_ (by rw [e_]; rfl)) _; (with_reducible repeat (first | refine blk_drewN ?_ _ | refine blk_drew ?_ | refine blk_alloc ?_ _)); exact BK18001.out⟩, ⟨by (with_reducible repeat (first | refine blk_drewN ?_ _ | refine blk_drew ?_ | refine blk_alloc ?_ _)); refine blk_far ?_ (by have h_ := Kd.R_ne HO_18015003.out BK18002.out (by decide); intro e_; exact h_ (by rw [e_]; rfl)) _; (with_reducible repeat (first | refine blk_drewN ?_ _ | refine blk_drew ?_ | refine blk_alloc ?_ _)); exact BK18002.out⟩, ⟨by (with_reducible repeat (first | refine blk_drewN ?_ _ | refine blk_drew ?_ | refine blk_alloc ?_ _)); refine blk_far ?_ (by have h_ := Kd.R_ne HO_18015003.out BK18003.out (by decide); intro e_; exact h_ (by rw [e_]; rfl)) _; (with_reducible repeat (first | refine blk_drewN ?_ _ | refine blk_drew ?_ | refine blk_alloc ?_ _)); exact BK18003.out⟩, ⟨by (with_reducible repeat (first | refine blk_drewN ?_ _ | refine blk_drew ?_ | refine blk_alloc ?_ _)); refine blk_far ?_ (by have h_ := Kd.R_ne HO_18015003.out BK18014.out (by decide); intro e_; exact h_ (by rw [e_]; rfl)) _; (with_reducible repeat (first | refine blk_drewN ?_ _ | refine blk_drew ?_ | refine blk_alloc ?_ _)); exact BK18014.out⟩, ⟨by repeat (first | (with_reducible first | exact HB.out | apply below_alloc | apply pw_below_drewN | apply below_drew1 | refine below_set ?_ GB55.out | refine below_set ?_ GE18001.out | refine below_set ?_ GE18002.out | refine below_set ?_ GE18003.out | refine below_set ?_ GE18014.out) | exact HB.out)⟩⟩
                    · rw [if_neg c54] at H
                      exact absurd H (by simp)
                  · rw [if_neg c53] at H
                    have c53b0 : decide (x11_2 < (x18015003_2.length : Int)) = false := decide_eq_false c53
                    clear c53
                    simp only [Option.some.injEq, Prod.mk.injEq] at H
                    obtain ⟨rfl, rfl, rfl, rfl, rfl⟩ := H
                    have hnb67 := NB18014_18001.out
                    have hnc67 := NB18001_18014.out
                    have hnb68 := NB18014_18002.out
                    have hnc68 := NB18002_18014.out
                    have hnb69 := NB18014_18003.out
                    have hnc69 := NB18003_18014.out
                    have hcz70_0 : wr.cell? ⟨gb18014, 0, none⟩ = some (.int .i64 a3) := (blk_cell BK18014.out 0).trans rfl
                    have hcz70_1 : wr.cell? ⟨gb18014, 1, none⟩ = some (.int .i64 (wrap64 (a2 + 1))) := (blk_cell BK18014.out 1).trans rfl
                    have hcz70_2 : wr.cell? ⟨gb18014, 2, none⟩ = some (.string ((⟨#[114, 101, 118, 101, 114, 115, 101, 32]⟩ : ByteArray) ++ t18015)) := (blk_cell BK18014.out 2).trans rfl
                    have hcz70_3 : wr.cell? ⟨gb18014, 3, none⟩ = some (u18015003) := (blk_cell BK18014.out 3).trans rfl
                    have hfz70_0 := blk_frozen BK18014.out 0
                    have hfz70_1 := blk_frozen BK18014.out 1
                    have hfz70_2 := blk_frozen BK18014.out 2
                    have hfz70_3 := blk_frozen BK18014.out 3
                    obtain ⟨Ao71, co71, eo71⟩ := Kd.R_slice HO_18015003.out
                    subst eo71
                    have hnb72 := NB18003_18001.out
                    have hnc72 := NB18001_18003.out
                    have hnb73 := NB18003_18002.out
                    have hnc73 := NB18002_18003.out
                    have hcz74_0 : wr.cell? ⟨gb18003, 0, none⟩ = some (.int .i64 0) := (blk_cell BK18003.out 0).trans rfl
                    have hcz74_1 : wr.cell? ⟨gb18003, 1, none⟩ = some (.int .i64 0) := (blk_cell BK18003.out 1).trans rfl
                    have hcz74_2 : wr.cell? ⟨gb18003, 2, none⟩ = some (.string (⟨#[]⟩ : ByteArray)) := (blk_cell BK18003.out 2).trans rfl
                    have hcz74_3 : wr.cell? ⟨gb18003, 3, none⟩ = some (.slice none 0 0) := (blk_cell BK18003.out 3).trans rfl
                    have hfz74_0 := blk_frozen BK18003.out 0
                    have hfz74_1 := blk_frozen BK18003.out 1
                    have hfz74_2 := blk_frozen BK18003.out 2
                    have hfz74_3 := blk_frozen BK18003.out 3
                    go_wp2
                    refine bodyPost_ret (results_ct rfl _ _ gb18003 34 #[.int .i64 a3, .int .i64 (wrap64 (a2 + 1)), .string ((⟨#[114, 101, 118, 101, 114, 115, 101, 32]⟩ : ByteArray) ++ t18015), .slice Ao71 x18015003_2.length co71] (0, 0) _ rfl (by (with_reducible repeat (first | refine blk_drewN ?_ _ | refine blk_drew ?_ | refine blk_alloc ?_ _)); refine blk_put (cs := #[.int .i64 a3, .int .i64 (wrap64 (a2 + 1)), .string ((⟨#[114, 101, 118, 101, 114, 115, 101, 32]⟩ : ByteArray) ++ t18015), .slice none 0 0]) ?_ 3 _ rfl; (with_reducible repeat (first | refine blk_drewN ?_ _ | refine blk_drew ?_ | refine blk_alloc ?_ _)); refine blk_put (cs := #[.int .i64 a3, .int .i64 (wrap64 (a2 + 1)), .string (⟨#[]⟩ : ByteArray), .slice none 0 0]) ?_ 2 _ rfl; (with_reducible repeat (first | refine blk_drewN ?_ _ | refine blk_drew ?_ | refine blk_alloc ?_ _)); refine blk_put (cs := #[.int .i64 a3, .int .i64 0, .string (⟨#[]⟩ : ByteArray), .slice none 0 0]) ?_ 1 _ rfl; (with_reducible repeat (first | refine blk_drewN ?_ _ | refine blk_drew ?_ | refine blk_alloc ?_ _)); refine blk_put (cs := #[.int .i64 0, .int .i64 0, .string (⟨#[]⟩ : ByteArray), .slice none 0 0]) ?_ 0 _ rfl; (with_reducible repeat (first | refine blk_drewN ?_ _ | refine blk_drew ?_ | refine blk_alloc ?_ _)); exact BK18003.out) Try.underlying34 rfl (by kernel_rfl)) rfl ?_
                    exact ⟨_, by first | rfl | (simp [errW_none, errW_some] <;> rfl) | (simp [*, errW_none, errW_some] <;> rfl), by (with_reducible repeat (first | apply Kd.R_alloc | apply Kd.R_drewN | apply Kd.R_drew)); exact Kd.R_mono (Kd.R_far (p := ⟨gb18003, 3, none⟩) (Kd.R_far (p := ⟨gb18003, 2, none⟩) (Kd.R_far (p := ⟨gb18003, 1, none⟩) (Kd.R_far (p := ⟨gb18003, 0, none⟩) (Kd.R_types HO_18015003.out BK18003.out (by decide)) (fun _ hk => hk.2) (.int .i64 a3)) (fun _ hk => hk.2) (.int .i64 (wrap64 (a2 + 1)))) (fun _ hk => hk.2) (.string ((⟨#[114, 101, 118, 101, 114, 115, 101, 32]⟩ : ByteArray) ++ t18015))) (fun _ hk => hk.2) (.slice Ao71 x18015003_2.length co71)) (fun _ hk => trivial), by repeat (first | (with_reducible first | exact HB.out | apply below_alloc | apply pw_below_drewN | apply below_drew1 | refine below_set ?_ GE18001.out | refine below_set ?_ GE18002.out | refine below_set ?_ GE18003.out | refine below_set ?_ GE18014.out) | exact HB.out)⟩
            · rw [if_neg c42] at H
              exact absurd H (by simp)
          · rw [if_neg c39] at H
            exact absurd H (by simp)
        · rw [if_neg c38] at H
          exact absurd H (by simp)
end Go.Proofs.Ytphmnkcfjgallaa.Q
