/- Parts of the proof: what functions of the program and of the reference answer.
   No condition. -/
import Derived.Test.YtphmnkcfjgallaaZSpread1
import Derived.Test.YtphmnkcfjgallaaZSpread15
import Derived.Test.YtphmnkcfjgallaaZSpread9
import Derived.Test.YtphmnkcfjgallaaZSpread4
namespace Go.Proofs.Ytphmnkcfjgallaa.Q
open Go.RowKit Go.Proofs.YtphmnkcfjgallaaW.PrintWords Go.Proofs.YtphmnkcfjgallaaW.PrintLast Go.Proofs.YtphmnkcfjgallaaW.PrintMore
attribute [local go_sem] max2_int min2_int max_two min_two max_three min_three max_four min_four   -- for this text's walks alone
set_option linter.unusedVariables false
set_option linter.unusedSimpArgs false
mutual
noncomputable def spec_Spread.l0 : Nat → Int → Int → Int → Int → List (S133) → List (S34) → List Int → Int → List (S131) → Int → Int → Option ((List (S34)))
  | 0, _, _, _, _, _, _, _, _, _, _, _ => none
  | k + 1, x1, x2, x3, x4, x5, x13, x14, x15, x37002000, x37002001, x37002002 => if x15 < (x5.length : Int) then (if 0 ≤ x15 then ((spec_l2Day.f ((rd_T133 x5 x15).f1)).bind fun t37009 => (if t37009 = true then ((spec_l1In.f ((rd_T133 x5 x15).f0) (-10000000) 40000).bind fun t37011 => (if t37011 = true then (if ((rd_T133 x5 x15).f1) < ((rd_T133 x5 x15).f0) then (some x13) else (if x14.length < 17592186044416 then (spec_Spread.l0 k x1 x2 x3 x4 x5 x13 (x14 ++ [wrap64 ((wrap64 (((rd_T133 x5 x15).f1) - ((rd_T133 x5 x15).f0))) + 1)]) (wrap64 (x15 + 1)) x37002000 x37002001 x37002002) else (none))) else (some x13))) else (some x13))) else (none)) else ((spec_Shares.f k x1 x14).bind fun t37019 => (spec_Spread.l1 k x2 x3 x4 x5 x13 t37019 0 x37002000 x37002001 x37002002))
noncomputable def spec_Spread.l1 : Nat → Int → Int → Int → List (S133) → List (S34) → List Int → Int → List (S131) → Int → Int → Option ((List (S34)))
  | 0, _, _, _, _, _, _, _, _, _, _ => none
  | k + 1, x2, x3, x4, x5, x13, x16, x17, x37002000, x37002001, x37002002 => if x17 < (x16.length : Int) then (if 0 ≤ x17 then (if x17 < (x5.length : Int) then ((some (([(⟨x3, x4, 0, rd x16 x17, rd x16 x17⟩ : S112), (⟨x2, x4, 0, wrap64 (-(rd x16 x17)), wrap64 (-(rd x16 x17))⟩ : S112)] : List (S112)) : List (S112))).bind fun y37028 => (if ([] : List (S112)).length + y37028.length < 3518437208883 then ((some (([] : List (S112)) ++ y37028 : List (S112))).bind fun y37031 => ((spec_EntryOk.f x37002000 x37002001 x37002002 ((rd_T133 x5 x17).f1) 0 (⟨#[115, 112, 114, 101, 97, 100]⟩ : ByteArray) y37031).bind fun t37034 => (if t37034 = true then (if x13.length < 2513169434916 then (spec_Spread.l1 k x2 x3 x4 x5 (x13 ++ [(⟨(rd_T133 x5 x17).f1, 0, (⟨#[115, 112, 114, 101, 97, 100]⟩ : ByteArray), y37031⟩ : S34)]) x16 (wrap64 (x17 + 1)) x37002000 x37002001 x37002002) else (none)) else (some (([] : List (S34))))))) else (none))) else (none)) else (none)) else (some x13)
end
noncomputable def spec_Spread.f (k : Nat) (l0_0 : List (S131)) (a0_1 : Int) (a0_2 : Int) (a1 : Int) (a2 : Int) (a3 : Int) (a4 : Int) (l5 : List (S133)) : Option ((List (S34))) := (some (([] : List (S34)) : List (S34))).bind fun y37002 => (if (l5.length : Int) > 200 then (some y37002) else (spec_Spread.l0 k a1 a2 a3 a4 l5 y37002 (([] : List Int)) 0 l0_0 a0_1 a0_2))
def spec_Spread.T8 : Bool × List (List Nat × List Nat) := (true, [([], []), ([], []), ([0, 1], [0, 1]), ([2], [2]), ([3], [3]), ([4], [4]), ([5], [5]), ([6, 5], [6]), ([7], [7]), ([7], [7]), ([8, 9, 7], [7, 8, 9]), ([10, 7], [7, 10]), ([11, 7], [7, 11]), ([12, 7, 7], [7, 12]), ([13, 7], [7, 13]), ([7, 14], [7, 14]), ([15, 13], [15]), ([16], [16]), ([16], [16]), ([17, 18, 16], [16, 17, 18]), ([19, 16], [16, 19]), ([20, 16], [16, 20]), ([16], [16]), ([16], [16]), ([22, 23, 16], [16, 22, 23]), ([24, 16], [16, 24]), ([25, 16], [16, 25]), ([21, 26, 16], [16, 21, 26]), ([16, 27], [16, 27])])
def spec_Spread.B8 : List Nat := [0, 0, 3, 7, 15, 31, 63, 127, 255, 255, 1023, 2047, 4095, 8191, 16383, 32767, 65535, 131071, 131071, 524287, 1048575, 2097151, 131071, 131071, 12713983, 29491199, 63045631, 134217727, 268435455]
theorem spec_Spread.tab8 : rtab .any (opsOf Try.f36 8) = spec_Spread.T8 := by kernel_rfl
theorem spec_Spread.bits8 : waitsOk spec_Spread.T8.2 spec_Spread.B8 = true := by kernel_rfl
def spec_Spread.T10 : Bool × List (List Nat × List Nat) := (true, [([], []), ([], []), ([], []), ([1, 2], [1, 2]), ([3], [3]), ([4], [4]), ([], []), ([], []), ([6, 7], [6, 7]), ([8], [8]), ([9], [9]), ([5, 10], [5, 10]), ([11], [11]), ([12], [12]), ([0, 13], [0, 13]), ([14, 14, 0, 1, 2, 3, 4, 5, 6, 7, 8, 9, 10, 11, 12, 13, 14], [0, 14])])
def spec_Spread.B10 : List Nat := [0, 0, 0, 6, 14, 30, 0, 0, 192, 448, 960, 2046, 4094, 8190, 16383, 32767]
theorem spec_Spread.tab10 : rtab .any (opsOf Try.f36 10) = spec_Spread.T10 := by kernel_rfl
theorem spec_Spread.bits10 : waitsOk spec_Spread.T10.2 spec_Spread.B10 = true := by kernel_rfl
def spec_Spread.T16 : Bool × List (List Nat × List Nat) := (true, [([], []), ([0], [0]), ([], []), ([], []), ([], []), ([], []), ([4, 5], [4, 5]), ([6], [6]), ([], []), ([], []), ([8, 9], [8, 9]), ([10], [10]), ([2, 3, 7, 11], [2, 3, 7, 11]), ([], []), ([], []), ([], []), ([], []), ([15, 16], [15, 16]), ([17], [17]), ([18], [18]), ([], []), ([], []), ([20, 21], [20, 21]), ([22], [22]), ([23], [23]), ([13, 14, 19, 24], [13, 14, 19, 24]), ([12, 25], [12, 25]), ([1, 26], [1, 26]), ([0, 1, 2, 3, 4, 5, 6, 7, 8, 9, 10, 11, 12, 13, 14, 15, 16, 17, 18, 19, 20, 21, 22, 23, 24, 25, 26, 27], []), ([28, 27, 27, 0, 1, 2, 3, 4, 5, 6, 7, 8, 9, 10, 11, 12, 13, 14, 15, 16, 17, 18, 19, 20, 21, 22, 23, 24, 25, 26, 27], [27, 28])])
def spec_Spread.B16 : List Nat := [0, 1, 0, 0, 0, 0, 48, 112, 0, 0, 768, 1792, 4092, 0, 0, 0, 0, 98304, 229376, 491520, 0, 0, 3145728, 7340032, 15728640, 33546240, 67108860, 134217727, 268435455, 536870911]
theorem spec_Spread.tab16 : rtab .any (opsOf Try.f36 16) = spec_Spread.T16 := by kernel_rfl
theorem spec_Spread.bits16 : waitsOk spec_Spread.T16.2 spec_Spread.B16 = true := by kernel_rfl
set_option maxHeartbeats 8000000 in
set_option maxRecDepth 100000 in
theorem spec_Spread.calls (k : Nat) (A0_0 : Option Addr) (c0_0 : Nat) (l0_0 : List (S131)) (a0_1 : Int) (a0_2 : Int) (a1 : Int) (a2 : Int) (a3 : Int) (a4 : Int) (A5 : Option Addr) (c5 : Nat) (l5 : List (S133)) (r : List (S34)) (w : World) (hr0_0 : Kd.C k131 w A0_0 l0_0.length l0_0) (hc0_0 : l0_0.length ≤ c0_0) (hr5 : Kd.C k133 w A5 l5.length l5) (hc5 : l5.length ≤ c5) (h : spec_Spread.f k l0_0 a0_1 a0_2 a1 a2 a3 a4 l5 = some r) :
    Calls Try.prog 36 #[.agg #[.slice A0_0 l0_0.length c0_0, .int .i64 a0_1, .int .i64 a0_2], .int .i64 a1, .int .i64 a2, .int .i64 a3, .int .i64 a4, .slice A5 l5.length c5] w fun e w' => ∃ v0_ : Value, e = .returned (v0_) ∧ Kd.S k34 34 w' w.heap.size (fun _ => True) v0_ r ∧ Below w.heap.size w w' := by
  have hu26 := Try.underlying26
  have hu34 := Try.underlying34
  have hu112 := Try.underlying112
  have HR0_0 := Aside0.mk hr0_0
  have HC0_0 := Aside0.mk hc0_0
  clear hr0_0 hc0_0
  have HR5 := Aside0.mk hr5
  have HC5 := Aside0.mk hc5
  clear hr5 hc5
  have HB := Aside0.mk (Below.refl w.heap.size w)
  have H : ((some (([] : List (S34)) : List (S34))).bind fun y37002 => (if (l5.length : Int) > 200 then (some y37002) else (spec_Spread.l0 k a1 a2 a3 a4 l5 y37002 (([] : List Int)) 0 l0_0 a0_1 a0_2))) = some r := h
  clear h
  obtain ⟨y37002, hy37002⟩ : ∃ y_ : List (S34), y_ = (([] : List (S34))) := ⟨_, rfl⟩
  replace H : (if (l5.length : Int) > 200 then (some y37002) else (spec_Spread.l0 k a1 a2 a3 a4 l5 y37002 (([] : List Int)) 0 l0_0 a0_1 a0_2)) = some r := by first | (rw [hy37002]; with_reducible exact H) | (have H2_ := (Option.bind_some _ _).symm.trans H; rw [hy37002]; with_reducible exact H2_) | (have H2_ := (Option.bind_some _ _).symm.trans H; with_reducible exact H2_) | with_reducible exact H | (rw [hy37002]; exact H) | exact H
  have Ny37002 := Aside0.mk hy37002
  clear hy37002
  obtain ⟨y37005, hy37005⟩ : ∃ y_ : List Int, y_ = (([] : List Int)) := ⟨_, rfl⟩
  replace H : (if (l5.length : Int) > 200 then (some y37002) else (spec_Spread.l0 k a1 a2 a3 a4 l5 y37002 y37005 0 l0_0 a0_1 a0_2)) = some r := by first | (rw [hy37005]; with_reducible exact H) | (have H2_ := (Option.bind_some _ _).symm.trans H; rw [hy37005]; with_reducible exact H2_) | (have H2_ := (Option.bind_some _ _).symm.trans H; with_reducible exact H2_) | with_reducible exact H | (rw [hy37005]; exact H) | exact H
  have Ny37005 := Aside0.mk hy37005
  clear hy37005
  by_cases c7 : (l5.length : Int) > 200
  · rw [if_pos c7] at H
    have c7b0 : decide (200 < (l5.length : Int)) = true := decide_eq_true c7
    have c7b1 : decide (200 < l5.length) = true := decide_eq_true (by omega)
    clear c7
    obtain rfl := Option.some.inj H
    go_enter Try.func36, Try.ntmps36
    go_wp2_with (first | ((with_reducible refine gate_dst (N := 6) rfl ?_); refine box_event ?hg (N := 6) ?hd (cs := #[.slice A0_0 l0_0.length c0_0, .int .i64 a0_1, .int .i64 a0_2]) (t := 26) ?hr ?_; (case hd => rfl); (case hg => rfl); (case hr => first | (go_simp; done) | (go_simp; rfl)); intro gb37001 hg w8 hbox hb; have n0_ := Aside0.mk (below_step (by repeat (first | (with_reducible first | exact HB.out | apply below_alloc | apply pw_below_drewN | apply below_drew1) | exact HB.out)) hb); have n1_ := Aside0.mk (hbox); have n2_ := Aside0.mk ((by rw [hg]; exact (below_size (by repeat (first | (with_reducible first | exact HB.out | apply below_alloc | apply pw_below_drewN | apply below_drew1) | exact HB.out))) : w.heap.size ≤ gb37001)); have n3_ := Aside0.mk ((by rw [hg]; exact (below_size (by repeat (first | (with_reducible first | exact HB.out | apply below_alloc | apply pw_below_drewN | apply below_drew1) | exact HB.out))) : w.heap.size ≤ gb37001)); clear HB; have HB := n0_; have BK37001 := n1_; have GW37001 := n2_; have GE37001 := n3_; clear n0_ n1_ n2_ n3_; clear hb hbox hg) | ((with_reducible refine gate_dst (N := 19) rfl ?_); refine Kd.S_lit k34 _ 34 ?hg (N := 19) ?hd (xs := ([] : List (S34))) (inner := []) (ok := fun _ => True) (okp := fun _ => True) ?hr ?hp (fun _ hk => hk) trivial (Below.refl _ _) (Nat.le_refl _) (by simp) ?_; (case hd => rfl); (case hg => rfl); (case hr => first | (go_simp; done) | (go_simp; rfl)); (case hp => exact (Reps.none _ _)); intro v37003 w9 ho10 hb hg_ hnew_; clear hg_ hnew_; (first | rw [← Ny37002.out] at ho10 | (simp only [Int.reduceToNat] at ho10; rw [← Ny37002.out] at ho10)); have n0_ := Aside0.mk (Kd.S_lower ho10 (below_size (by repeat (first | (with_reducible first | exact HB.out | apply below_alloc | apply pw_below_drewN | apply below_drew1 | refine below_set ?_ GE37001.out) | exact HB.out)))); have n1_ := Aside0.mk (blk_below (g := gb37001) (o := .cells #[.slice A0_0 l0_0.length c0_0, .int .i64 a0_1, .int .i64 a0_2] 26 (0, 0)) (by (with_reducible repeat (first | refine blk_drewN ?_ _ | refine blk_drew ?_ | refine blk_alloc ?_ _)); exact BK37001.out) hb); have n2_ := Aside0.mk (below_step (by repeat (first | (with_reducible first | exact HB.out | apply below_alloc | apply pw_below_drewN | apply below_drew1 | refine below_set ?_ GE37001.out) | exact HB.out)) hb); clear BK37001; clear HB; have HO37004 := n0_; have BK37001 := n1_; have HB := n2_; clear n0_ n1_ n2_; clear hb ho10) | ((with_reducible refine gate_dst (N := 20) rfl ?_); refine Kd.R_lit (Kd.int .i64) _ 3 ?hg (N := 20) ?hd (xs := ([] : List Int)) (inner := []) (ok := fun _ => True) (okp := fun _ => True) ?hr ?hp (fun _ hk => hk) trivial (Below.refl _ _) (Nat.le_refl _) (by simp) ?_; (case hd => rfl); (case hg => rfl); (case hr => first | (go_simp; done) | (go_simp; rfl)); (case hp => exact (Reps.none _ _)); intro v37006 w11 ho12 hb hg_ hnew_; clear hg_ hnew_; (first | rw [← Ny37005.out] at ho12 | (simp only [Int.reduceToNat] at ho12; rw [← Ny37005.out] at ho12)); have n0_ := Aside0.mk (Kd.S_below (by (with_reducible repeat (first | apply Kd.S_alloc | apply Kd.S_drewN | apply Kd.S_drew)); exact HO37004.out) hb); have n1_ := Aside0.mk (Kd.R_lower ho12 (below_size (by repeat (first | (with_reducible first | exact HB.out | apply below_alloc | apply pw_below_drewN | apply below_drew1 | refine below_set ?_ GE37001.out) | exact HB.out)))); have n2_ := Aside0.mk (blk_below (g := gb37001) (o := .cells #[.slice A0_0 l0_0.length c0_0, .int .i64 a0_1, .int .i64 a0_2] 26 (0, 0)) (by (with_reducible repeat (first | refine blk_drewN ?_ _ | refine blk_drew ?_ | refine blk_alloc ?_ _)); exact BK37001.out) hb); have n3_ := Aside0.mk (below_step (by repeat (first | (with_reducible first | exact HB.out | apply below_alloc | apply pw_below_drewN | apply below_drew1 | refine below_set ?_ GE37001.out) | exact HB.out)) hb); clear HO37004; clear BK37001; clear HB; have HO37004 := n0_; have HO37007 := n1_; have BK37001 := n2_; have HB := n3_; clear n0_ n1_ n2_ n3_; clear hb ho12))
    go_ret
    exact ⟨_, by first | rfl | (simp [errW_none, errW_some] <;> rfl) | (simp [*, errW_none, errW_some] <;> rfl), by (with_reducible repeat (first | apply Kd.S_alloc | apply Kd.S_drewN | apply Kd.S_drew)); exact HO37004.out, by repeat (first | (with_reducible first | exact HB.out | apply below_alloc | apply pw_below_drewN | apply below_drew1 | refine below_set ?_ GE37001.out) | exact HB.out)⟩
  · rw [if_neg c7] at H
    have c7b0 : decide (200 < (l5.length : Int)) = false := decide_eq_false c7
    have c7b1 : decide (200 < l5.length) = false := decide_eq_false (by omega)
    clear c7
    have H' := Aside0.mk H
    clear H
    go_enter Try.func36, Try.ntmps36
    go_wp2_with (first | ((with_reducible refine gate_dst (N := 6) rfl ?_); refine box_event ?hg (N := 6) ?hd (cs := #[.slice A0_0 l0_0.length c0_0, .int .i64 a0_1, .int .i64 a0_2]) (t := 26) ?hr ?_; (case hd => rfl); (case hg => rfl); (case hr => first | (go_simp; done) | (go_simp; rfl)); intro gb37001 hg w13 hbox hb; have n0_ := Aside0.mk (below_step (by repeat (first | (with_reducible first | exact HB.out | apply below_alloc | apply pw_below_drewN | apply below_drew1) | exact HB.out)) hb); have n1_ := Aside0.mk (hbox); have n2_ := Aside0.mk ((by rw [hg]; exact (below_size (by repeat (first | (with_reducible first | exact HB.out | apply below_alloc | apply pw_below_drewN | apply below_drew1) | exact HB.out))) : w.heap.size ≤ gb37001)); have n3_ := Aside0.mk ((by rw [hg]; exact (below_size (by repeat (first | (with_reducible first | exact HB.out | apply below_alloc | apply pw_below_drewN | apply below_drew1) | exact HB.out))) : w.heap.size ≤ gb37001)); clear HB; have HB := n0_; have BK37001 := n1_; have GW37001 := n2_; have GE37001 := n3_; clear n0_ n1_ n2_ n3_; clear hb hbox hg) | ((with_reducible refine gate_dst (N := 19) rfl ?_); refine Kd.S_lit k34 _ 34 ?hg (N := 19) ?hd (xs := ([] : List (S34))) (inner := []) (ok := fun _ => True) (okp := fun _ => True) ?hr ?hp (fun _ hk => hk) trivial (Below.refl _ _) (Nat.le_refl _) (by simp) ?_; (case hd => rfl); (case hg => rfl); (case hr => first | (go_simp; done) | (go_simp; rfl)); (case hp => exact (Reps.none _ _)); intro v37003 w14 ho15 hb hg_ hnew_; clear hg_ hnew_; (first | rw [← Ny37002.out] at ho15 | (simp only [Int.reduceToNat] at ho15; rw [← Ny37002.out] at ho15)); have n0_ := Aside0.mk (Kd.S_lower ho15 (below_size (by repeat (first | (with_reducible first | exact HB.out | apply below_alloc | apply pw_below_drewN | apply below_drew1 | refine below_set ?_ GE37001.out) | exact HB.out)))); have n1_ := Aside0.mk (blk_below (g := gb37001) (o := .cells #[.slice A0_0 l0_0.length c0_0, .int .i64 a0_1, .int .i64 a0_2] 26 (0, 0)) (by (with_reducible repeat (first | refine blk_drewN ?_ _ | refine blk_drew ?_ | refine blk_alloc ?_ _)); exact BK37001.out) hb); have n2_ := Aside0.mk (below_step (by repeat (first | (with_reducible first | exact HB.out | apply below_alloc | apply pw_below_drewN | apply below_drew1 | refine below_set ?_ GE37001.out) | exact HB.out)) hb); clear BK37001; clear HB; have HO37004 := n0_; have BK37001 := n1_; have HB := n2_; clear n0_ n1_ n2_; clear hb ho15) | ((with_reducible refine gate_dst (N := 20) rfl ?_); refine Kd.R_lit (Kd.int .i64) _ 3 ?hg (N := 20) ?hd (xs := ([] : List Int)) (inner := []) (ok := fun _ => True) (okp := fun _ => True) ?hr ?hp (fun _ hk => hk) trivial (Below.refl _ _) (Nat.le_refl _) (by simp) ?_; (case hd => rfl); (case hg => rfl); (case hr => first | (go_simp; done) | (go_simp; rfl)); (case hp => exact (Reps.none _ _)); intro v37006 w16 ho17 hb hg_ hnew_; clear hg_ hnew_; (first | rw [← Ny37005.out] at ho17 | (simp only [Int.reduceToNat] at ho17; rw [← Ny37005.out] at ho17)); have n0_ := Aside0.mk (Kd.S_below (by (with_reducible repeat (first | apply Kd.S_alloc | apply Kd.S_drewN | apply Kd.S_drew)); exact HO37004.out) hb); have n1_ := Aside0.mk (Kd.R_lower ho17 (below_size (by repeat (first | (with_reducible first | exact HB.out | apply below_alloc | apply pw_below_drewN | apply below_drew1 | refine below_set ?_ GE37001.out) | exact HB.out)))); have n2_ := Aside0.mk (blk_below (g := gb37001) (o := .cells #[.slice A0_0 l0_0.length c0_0, .int .i64 a0_1, .int .i64 a0_2] 26 (0, 0)) (by (with_reducible repeat (first | refine blk_drewN ?_ _ | refine blk_drew ?_ | refine blk_alloc ?_ _)); exact BK37001.out) hb); have n3_ := Aside0.mk (below_step (by repeat (first | (with_reducible first | exact HB.out | apply below_alloc | apply pw_below_drewN | apply below_drew1 | refine below_set ?_ GE37001.out) | exact HB.out)) hb); clear HO37004; clear BK37001; clear HB; have HO37004 := n0_; have HO37007 := n1_; have BK37001 := n2_; have HB := n3_; clear n0_ n1_ n2_ n3_; clear hb ho17))
    go_loopg [14, 15] k (fun kq v14 v15 w' => ∃ (x14_1 : List Int) (x15_1 : Int), v15 = .int .i64 x15_1 ∧ Aside0 (spec_Spread.l0 kq a1 a2 a3 a4 l5 y37002 x14_1 x15_1 l0_0 a0_1 a0_2 = some r) ∧ Aside0 (kq ≤ k) ∧ Aside0 (Kd.S k34 34 w' w.heap.size (fun _ => True) v37003 y37002) ∧ Aside0 (Kd.R (Kd.int .i64) 3 w' w.heap.size (fun _ => True) v14 x14_1) ∧ Aside0 (w'.heap[gb37001]? = some (.cells #[(.slice A0_0 l0_0.length c0_0), .int .i64 a0_1, .int .i64 a0_2] 26 (0, 0))) ∧ Aside0 (Below w.heap.size w w'))
    case atStart => exact ⟨(y37005), (0), (by first | rfl | (simp; done) | (simp [*]; done)), H', ⟨Nat.le_refl _⟩, ⟨by (with_reducible repeat (first | apply Kd.S_alloc | apply Kd.S_drewN | apply Kd.S_drew)); exact HO37004.out⟩, ⟨by (with_reducible repeat (first | apply Kd.R_alloc | apply Kd.R_drewN | apply Kd.R_drew)); exact HO37007.out⟩, ⟨by (with_reducible repeat (first | refine blk_drewN ?_ _ | refine blk_drew ?_ | refine blk_alloc ?_ _)); exact BK37001.out⟩, ⟨by repeat (first | (with_reducible first | exact HB.out | apply below_alloc | apply pw_below_drewN | apply below_drew1 | refine below_set ?_ GE37001.out) | exact HB.out)⟩⟩
    case round =>
      clear H'
      try clear p2
      try clear c3
      try clear c5
      try clear c7
      try clear c7b0
      try clear c7b1
      obtain ⟨x14_1, x15_1, rfl, HA, HK1, HO_13, HO_14, BK37001, HB⟩ := hrel
      cases gk with
      | zero => exact absurd HA.out (by simp [spec_Spread.l0])
      | succ k1 =>
        have H := HA.out
        clear HA
        simp only [spec_Spread.l0] at H
        by_cases c18 : x15_1 < (l5.length : Int)
        · rw [if_pos c18] at H
          have c18b0 : decide (x15_1 < (l5.length : Int)) = true := decide_eq_true c18
          clear c18
          by_cases c19 : 0 ≤ x15_1
          · rw [if_pos c19] at H
            have c19b0 : decide (0 ≤ x15_1) = true := decide_eq_true c19
            clear c19
            replace H := Option.bind_eq_some_iff.mp H
            obtain ⟨t37009, A200, H⟩ := H
            replace H : (if t37009 = true then ((spec_l1In.f ((rd_T133 l5 x15_1).f0) (-10000000) 40000).bind fun t37011 => (if t37011 = true then (if ((rd_T133 l5 x15_1).f1) < ((rd_T133 l5 x15_1).f0) then (some y37002) else (if x14_1.length < 17592186044416 then (spec_Spread.l0 k1 a1 a2 a3 a4 l5 y37002 (x14_1 ++ [wrap64 ((wrap64 (((rd_T133 l5 x15_1).f1) - ((rd_T133 l5 x15_1).f0))) + 1)]) (wrap64 (x15_1 + 1)) l0_0 a0_1 a0_2) else (none))) else (some y37002))) else (some y37002)) = some r := H
            have A20 := Aside0.mk A200
            clear A200
            by_cases c21 : t37009 = true
            · subst c21
              have H1 : ((spec_l1In.f ((rd_T133 l5 x15_1).f0) (-10000000) 40000).bind fun t37011 => (if t37011 = true then (if ((rd_T133 l5 x15_1).f1) < ((rd_T133 l5 x15_1).f0) then (some y37002) else (if x14_1.length < 17592186044416 then (spec_Spread.l0 k1 a1 a2 a3 a4 l5 y37002 (x14_1 ++ [wrap64 ((wrap64 (((rd_T133 l5 x15_1).f1) - ((rd_T133 l5 x15_1).f0))) + 1)]) (wrap64 (x15_1 + 1)) l0_0 a0_1 a0_2) else (none))) else (some y37002))) = some r := by rw [if_pos rfl] at H; exact H
              clear H
              have H := H1
              clear H1
              replace H := Option.bind_eq_some_iff.mp H
              obtain ⟨t37011, A220, H⟩ := H
              replace H : (if t37011 = true then (if ((rd_T133 l5 x15_1).f1) < ((rd_T133 l5 x15_1).f0) then (some y37002) else (if x14_1.length < 17592186044416 then (spec_Spread.l0 k1 a1 a2 a3 a4 l5 y37002 (x14_1 ++ [wrap64 ((wrap64 (((rd_T133 l5 x15_1).f1) - ((rd_T133 l5 x15_1).f0))) + 1)]) (wrap64 (x15_1 + 1)) l0_0 a0_1 a0_2) else (none))) else (some y37002)) = some r := H
              have A22 := Aside0.mk A220
              clear A220
              by_cases c23 : t37011 = true
              · subst c23
                have H1 : (if ((rd_T133 l5 x15_1).f1) < ((rd_T133 l5 x15_1).f0) then (some y37002) else (if x14_1.length < 17592186044416 then (spec_Spread.l0 k1 a1 a2 a3 a4 l5 y37002 (x14_1 ++ [wrap64 ((wrap64 (((rd_T133 l5 x15_1).f1) - ((rd_T133 l5 x15_1).f0))) + 1)]) (wrap64 (x15_1 + 1)) l0_0 a0_1 a0_2) else (none))) = some r := by rw [if_pos rfl] at H; exact H
                clear H
                have H := H1
                clear H1
                by_cases c24 : ((rd_T133 l5 x15_1).f1) < ((rd_T133 l5 x15_1).f0)
                · rw [if_pos c24] at H
                  have c24b0 : decide (((rd_T133 l5 x15_1).f1) < ((rd_T133 l5 x15_1).f0)) = true := decide_eq_true c24
                  clear c24
                  obtain rfl := Option.some.inj H
                  try go_wp2
                  have n0_ := Aside0.mk (Kd.S_drew HO_13.out)
                  have n1_ := Aside0.mk (Kd.R_drew HO_14.out)
                  have n2_ := Aside0.mk (blk_drew BK37001.out)
                  have n3_ := Aside0.mk (below_drew1 HB.out)
                  clear HO_13
                  clear HO_14
                  clear BK37001
                  clear HB
                  have HO_13 := n0_
                  have HO_14 := n1_
                  have BK37001 := n2_
                  have HB := n3_
                  clear n0_ n1_ n2_ n3_
                  have p37008 : 0 ≤ (x15_1 : Int) := of_decide_eq_true (by first | (with_reducible assumption) | assumption)
                  have q37008 : x15_1 < (l5.length : Int) := of_decide_eq_true (by first | (with_reducible assumption) | assumption)
                  obtain ⟨ad37008, e37008, hx37008_0, hx37008_1⟩ := at_T133 HR5.out x15_1 p37008 q37008
                  have hw37008_1 := hx37008_1
                  have hw37008_0 := hx37008_0
                  cases e37008
                  replace hx37008_0 := (HB.out.cell (World.block_lt_of_cell? w _ hx37008_0)).trans hx37008_0
                  replace hx37008_1 := (HB.out.cell (World.block_lt_of_cell? w _ hx37008_1)).trans hx37008_1
                  replace p37008 := eq_true p37008
                  replace q37008 := eq_true q37008
                  have p37010 : 0 ≤ (x15_1 : Int) := of_decide_eq_true (by first | (with_reducible assumption) | assumption)
                  have q37010 : x15_1 < (l5.length : Int) := of_decide_eq_true (by first | (with_reducible assumption) | assumption)
                  obtain ⟨ad37010, e37010, hx37010_0, hx37010_1⟩ := at_T133 HR5.out x15_1 p37010 q37010
                  have hw37010_1 := hx37010_1
                  have hw37010_0 := hx37010_0
                  obtain rfl : ad37008 = ad37010 := (by injection e37010)
                  replace hx37010_0 := (HB.out.cell (World.block_lt_of_cell? w _ hx37010_0)).trans hx37010_0
                  replace hx37010_1 := (HB.out.cell (World.block_lt_of_cell? w _ hx37010_1)).trans hx37010_1
                  replace p37010 := eq_true p37010
                  replace q37010 := eq_true q37010
                  have p37012 : 0 ≤ (x15_1 : Int) := of_decide_eq_true (by first | (with_reducible assumption) | assumption)
                  have q37012 : x15_1 < (l5.length : Int) := of_decide_eq_true (by first | (with_reducible assumption) | assumption)
                  obtain ⟨ad37012, e37012, hx37012_0, hx37012_1⟩ := at_T133 HR5.out x15_1 p37012 q37012
                  have hw37012_1 := hx37012_1
                  have hw37012_0 := hx37012_0
                  obtain rfl : ad37008 = ad37012 := (by injection e37012)
                  replace hx37012_0 := (HB.out.cell (World.block_lt_of_cell? w _ hx37012_0)).trans hx37012_0
                  replace hx37012_1 := (HB.out.cell (World.block_lt_of_cell? w _ hx37012_1)).trans hx37012_1
                  replace p37012 := eq_true p37012
                  replace q37012 := eq_true q37012
                  have p37013 : 0 ≤ (x15_1 : Int) := of_decide_eq_true (by first | (with_reducible assumption) | assumption)
                  have q37013 : x15_1 < (l5.length : Int) := of_decide_eq_true (by first | (with_reducible assumption) | assumption)
                  obtain ⟨ad37013, e37013, hx37013_0, hx37013_1⟩ := at_T133 HR5.out x15_1 p37013 q37013
                  have hw37013_1 := hx37013_1
                  have hw37013_0 := hx37013_0
                  obtain rfl : ad37008 = ad37013 := (by injection e37013)
                  replace hx37013_0 := (HB.out.cell (World.block_lt_of_cell? w _ hx37013_0)).trans hx37013_0
                  replace hx37013_1 := (HB.out.cell (World.block_lt_of_cell? w _ hx37013_1)).trans hx37013_1
                  replace p37013 := eq_true p37013
                  replace q37013 := eq_true q37013
                  refine start_ (n := 29) (S := fun w' => w'.cell? (ad37008.add ((x15_1).toNat * 2)) = some (.int .i64 ((rd_T133 l5 x15_1).f0)) ∧ w'.cell? ⟨(ad37008.add ((x15_1).toNat * 2)).block, (ad37008.add ((x15_1).toNat * 2)).off + 1, none⟩ = some (.int .i64 ((rd_T133 l5 x15_1).f1)) ∧ w'.cell? (ad37008.add ((x15_1).toNat * 2)) = some (.int .i64 ((rd_T133 l5 x15_1).f0)) ∧ w'.cell? ⟨(ad37008.add ((x15_1).toNat * 2)).block, (ad37008.add ((x15_1).toNat * 2)).off + 1, none⟩ = some (.int .i64 ((rd_T133 l5 x15_1).f1)) ∧ w'.cell? (ad37008.add ((x15_1).toNat * 2)) = some (.int .i64 ((rd_T133 l5 x15_1).f0)) ∧ w'.cell? ⟨(ad37008.add ((x15_1).toNat * 2)).block, (ad37008.add ((x15_1).toNat * 2)).off + 1, none⟩ = some (.int .i64 ((rd_T133 l5 x15_1).f1)) ∧ w'.cell? (ad37008.add ((x15_1).toNat * 2)) = some (.int .i64 ((rd_T133 l5 x15_1).f0)) ∧ w'.cell? ⟨(ad37008.add ((x15_1).toNat * 2)).block, (ad37008.add ((x15_1).toNat * 2)).off + 1, none⟩ = some (.int .i64 ((rd_T133 l5 x15_1).f1))) (ds := []) #[false, false, false, false, false, false, false, false, false, false, false, false, false, false, false, false, false, false, false, false, false, false, false, false, false, false, false, false, false] (by kernel_rfl) rfl rfl ⟨((HB.out.cell (World.block_lt_of_cell? w _ hw37008_0)).trans hw37008_0), ((HB.out.cell (World.block_lt_of_cell? w _ hw37008_1)).trans hw37008_1), ((HB.out.cell (World.block_lt_of_cell? w _ hw37010_0)).trans hw37010_0), ((HB.out.cell (World.block_lt_of_cell? w _ hw37010_1)).trans hw37010_1), ((HB.out.cell (World.block_lt_of_cell? w _ hw37012_0)).trans hw37012_0), ((HB.out.cell (World.block_lt_of_cell? w _ hw37012_1)).trans hw37012_1), ((HB.out.cell (World.block_lt_of_cell? w _ hw37013_0)).trans hw37013_0), ((HB.out.cell (World.block_lt_of_cell? w _ hw37013_1)).trans hw37013_1)⟩ (fun hHeld => ?_); refine with_tabW spec_Spread.tab8 spec_Spread.bits8 (fun HT_ HW_ => ?_)
                  generalize wr.drew = w25 at HO_13 HO_14 BK37001 HB hx37008_0 hx37008_1 hx37010_0 hx37010_1 hx37012_0 hx37012_1 hx37013_0 hx37013_1 hHeld ⊢
                  refine pure_ (i := 0) (N := some 31) (v := ?_) (a' := ?_) #[true, false, false, false, false, false, false, false, false, false, false, false, false, false, false, false, false, false, false, false, false, false, false, false, false, false, false, false, false] rfl rfl (any_of HT_.out (by kernel_rfl)) (fun _ _ _ h => h) (Or.inl ⟨by rfl, ?_⟩) ?_ ?_
                  rotate_left
                  · intro w'
                    go_simp
                    with_reducible rfl
                  rotate_left
                  · simp only [Act.put, List.setIfInBounds_toArray, List.set_cons_zero, List.set_cons_succ, i64_w, i32_w]
                    rfl
                  refine pure_ (i := 1) (N := some 32) (v := ?_) (a' := ?_) #[true, true, false, false, false, false, false, false, false, false, false, false, false, false, false, false, false, false, false, false, false, false, false, false, false, false, false, false, false] rfl rfl (any_of HT_.out (by kernel_rfl)) (fun _ _ _ h => h) (Or.inl ⟨by rfl, ?_⟩) ?_ ?_
                  rotate_left
                  · intro w'
                    go_simp
                    with_reducible rfl
                  rotate_left
                  · simp only [Act.put, List.setIfInBounds_toArray, List.set_cons_zero, List.set_cons_succ, i64_w, i32_w]
                    rfl
                  refine pure_ (i := 2) (N := some 33) (v := ?_) (a' := ?_) #[true, true, true, false, false, false, false, false, false, false, false, false, false, false, false, false, false, false, false, false, false, false, false, false, false, false, false, false, false] rfl rfl (any_of HT_.out (by kernel_rfl)) (fun _ _ _ h => h) (Or.inl ⟨by rfl, ?_⟩) ?_ ?_
                  rotate_left
                  · intro w'
                    go_simp
                    with_reducible rfl
                  rotate_left
                  · simp only [Act.put, List.setIfInBounds_toArray, List.set_cons_zero, List.set_cons_succ, i64_w, i32_w]
                    rfl
                  refine pure_ (i := 3) (N := some 34) (v := ?_) (a' := ?_) #[true, true, true, true, false, false, false, false, false, false, false, false, false, false, false, false, false, false, false, false, false, false, false, false, false, false, false, false, false] rfl rfl (any_of HT_.out (by kernel_rfl)) (fun _ _ _ h => h) (Or.inl ⟨by rfl, ?_⟩) ?_ ?_
                  rotate_left
                  · intro w'
                    go_simp
                    with_reducible rfl
                  rotate_left
                  · simp only [Act.put, List.setIfInBounds_toArray, List.set_cons_zero, List.set_cons_succ, i64_w, i32_w]
                    rfl
                  refine take_ (i := 4) (N := some 35) (v := ?_) (a' := ?_) #[true, true, true, true, true, false, false, false, false, false, false, false, false, false, false, false, false, false, false, false, false, false, false, false, false, false, false, false, false] rfl rfl (take_ofW HT_.out HW_.out (by kernel_rfl)) (fun _ _ _ h => h) (Or.inl ⟨by rfl, ?_⟩) hHeld ?_ ?_
                  rotate_left
                  · rintro w' ⟨s0, s1, s2, s3, s4, s5, s6, s7⟩
                    go_simp
                    with_reducible rfl
                  rotate_left
                  · simp only [Act.put, List.setIfInBounds_toArray, List.set_cons_zero, List.set_cons_succ, i64_w, i32_w]
                    rfl
                  refine one_ (i := 5) (N := some 36) #[true, true, true, true, true, true, false, false, false, false, false, false, false, false, false, false, false, false, false, false, false, false, false, false, false, false, false, false, false] rfl rfl (one_of HT_.out (by kernel_rfl)) (by decide) (fun K hK => ?_)
                  refine goes_ Try.func80 (by kernel_rfl) rfl #[.int .i64 ((rd_T133 l5 x15_1).f1)] (by rfl) rfl rfl (by (try simp only [List.map_toArray, List.map_cons, List.map_nil]); first | done | rfl | (simp only [List.length_drop, List.length_take]; rfl)) ?_
                  with_reducible refine (spec_l2Day.calls ((rd_T133 l5 x15_1).f1) true _ A20.out).mono ?_
                  rintro e w' ⟨rfl, ⟨nd, rfl⟩⟩
                  refine ⟨_, rfl, ?_⟩
                  refine hK.out _ _ ⟨((HB.out.cell (World.block_lt_of_cell? w _ hw37008_0)).trans hw37008_0), ((HB.out.cell (World.block_lt_of_cell? w _ hw37008_1)).trans hw37008_1), ((HB.out.cell (World.block_lt_of_cell? w _ hw37010_0)).trans hw37010_0), ((HB.out.cell (World.block_lt_of_cell? w _ hw37010_1)).trans hw37010_1), ((HB.out.cell (World.block_lt_of_cell? w _ hw37012_0)).trans hw37012_0), ((HB.out.cell (World.block_lt_of_cell? w _ hw37012_1)).trans hw37012_1), ((HB.out.cell (World.block_lt_of_cell? w _ hw37013_0)).trans hw37013_0), ((HB.out.cell (World.block_lt_of_cell? w _ hw37013_1)).trans hw37013_1)⟩ (fun hHeld => ?_)
                  clear hK K
                  refine norm_ (a' := ?_) ?_ ?_
                  rotate_left
                  · show Act.put _ (some 36) _ = _
                    simp only [Act.put, List.setIfInBounds_toArray, List.set_cons_zero, List.set_cons_succ, i64_w, i32_w]
                    rfl
                  refine pure_ (i := 6) (N := some 37) (v := ?_) (a' := ?_) #[true, true, true, true, true, true, true, false, false, false, false, false, false, false, false, false, false, false, false, false, false, false, false, false, false, false, false, false, false] rfl rfl (any_of HT_.out (by kernel_rfl)) (fun _ _ _ h => h) (Or.inl ⟨by rfl, ?_⟩) ?_ ?_
                  rotate_left
                  · intro w'
                    go_simp
                    with_reducible rfl
                  rotate_left
                  · simp only [Act.put, List.setIfInBounds_toArray, List.set_cons_zero, List.set_cons_succ, i64_w, i32_w]
                    rfl
                  refine pure_ (i := 7) (N := some 38) (v := ?_) (a' := ?_) #[true, true, true, true, true, true, true, true, false, false, false, false, false, false, false, false, false, false, false, false, false, false, false, false, false, false, false, false, false] rfl rfl (any_of HT_.out (by kernel_rfl)) (fun _ _ _ h => h) (Or.inl ⟨by rfl, ?_⟩) ?_ ?_
                  rotate_left
                  · intro w'
                    go_simp
                    with_reducible rfl
                  rotate_left
                  · simp only [Act.put, List.setIfInBounds_toArray, List.set_cons_zero, List.set_cons_succ, i64_w, i32_w]
                    rfl
                  refine pure_ (i := 8) (N := some 39) (v := ?_) (a' := ?_) #[true, true, true, true, true, true, true, true, true, false, false, false, false, false, false, false, false, false, false, false, false, false, false, false, false, false, false, false, false] rfl rfl (any_of HT_.out (by kernel_rfl)) (fun _ _ _ h => h) (Or.inl ⟨by rfl, ?_⟩) ?_ ?_
                  rotate_left
                  · intro w'
                    go_simp
                    with_reducible rfl
                  rotate_left
                  · simp only [Act.put, List.setIfInBounds_toArray, List.set_cons_zero, List.set_cons_succ, i64_w, i32_w]
                    rfl
                  refine pure_ (i := 9) (N := some 40) (v := ?_) (a' := ?_) #[true, true, true, true, true, true, true, true, true, true, false, false, false, false, false, false, false, false, false, false, false, false, false, false, false, false, false, false, false] rfl rfl (any_of HT_.out (by kernel_rfl)) (fun _ _ _ h => h) (Or.inl ⟨by rfl, ?_⟩) ?_ ?_
                  rotate_left
                  · intro w'
                    go_simp
                    with_reducible rfl
                  rotate_left
                  · simp only [Act.put, List.setIfInBounds_toArray, List.set_cons_zero, List.set_cons_succ, i64_w, i32_w]
                    rfl
                  refine pure_ (i := 10) (N := some 41) (v := ?_) (a' := ?_) #[true, true, true, true, true, true, true, true, true, true, true, false, false, false, false, false, false, false, false, false, false, false, false, false, false, false, false, false, false] rfl rfl (any_of HT_.out (by kernel_rfl)) (fun _ _ _ h => h) (Or.inl ⟨by rfl, ?_⟩) ?_ ?_
                  rotate_left
                  · intro w'
                    go_simp
                    with_reducible rfl
                  rotate_left
                  · simp only [Act.put, List.setIfInBounds_toArray, List.set_cons_zero, List.set_cons_succ, i64_w, i32_w]
                    rfl
                  refine pure_ (i := 11) (N := some 42) (v := ?_) (a' := ?_) #[true, true, true, true, true, true, true, true, true, true, true, true, false, false, false, false, false, false, false, false, false, false, false, false, false, false, false, false, false] rfl rfl (any_of HT_.out (by kernel_rfl)) (fun _ _ _ h => h) (Or.inl ⟨by rfl, ?_⟩) ?_ ?_
                  rotate_left
                  · intro w'
                    go_simp
                    with_reducible rfl
                  rotate_left
                  · simp only [Act.put, List.setIfInBounds_toArray, List.set_cons_zero, List.set_cons_succ, i64_w, i32_w]
                    rfl
                  refine take_ (i := 12) (N := some 43) (v := ?_) (a' := ?_) #[true, true, true, true, true, true, true, true, true, true, true, true, true, false, false, false, false, false, false, false, false, false, false, false, false, false, false, false, false] rfl rfl (take_ofW HT_.out HW_.out (by kernel_rfl)) (fun _ _ _ h => h) (Or.inl ⟨by rfl, ?_⟩) hHeld ?_ ?_
                  rotate_left
                  · rintro w' ⟨s0, s1, s2, s3, s4, s5, s6, s7⟩
                    go_simp
                    with_reducible rfl
                  rotate_left
                  · simp only [Act.put, List.setIfInBounds_toArray, List.set_cons_zero, List.set_cons_succ, i64_w, i32_w]
                    rfl
                  refine one_ (i := 13) (N := some 44) #[true, true, true, true, true, true, true, true, true, true, true, true, true, true, false, false, false, false, false, false, false, false, false, false, false, false, false, false, false] rfl rfl (one_of HT_.out (by kernel_rfl)) (by decide) (fun K hK => ?_)
                  refine goes_ Try.func79 (by kernel_rfl) rfl #[.int .i64 ((rd_T133 l5 x15_1).f0), .int .i64 (-10000000), .int .i64 40000] (by rfl) rfl rfl (by (try simp only [List.map_toArray, List.map_cons, List.map_nil]); first | done | rfl | (simp only [List.length_drop, List.length_take]; rfl)) ?_
                  with_reducible refine (spec_l1In.calls ((rd_T133 l5 x15_1).f0) (-10000000) 40000 true _ A22.out).mono ?_
                  rintro e w' ⟨rfl, ⟨nd, rfl⟩⟩
                  refine ⟨_, rfl, ?_⟩
                  refine hK.out _ _ ⟨((HB.out.cell (World.block_lt_of_cell? w _ hw37008_0)).trans hw37008_0), ((HB.out.cell (World.block_lt_of_cell? w _ hw37008_1)).trans hw37008_1), ((HB.out.cell (World.block_lt_of_cell? w _ hw37010_0)).trans hw37010_0), ((HB.out.cell (World.block_lt_of_cell? w _ hw37010_1)).trans hw37010_1), ((HB.out.cell (World.block_lt_of_cell? w _ hw37012_0)).trans hw37012_0), ((HB.out.cell (World.block_lt_of_cell? w _ hw37012_1)).trans hw37012_1), ((HB.out.cell (World.block_lt_of_cell? w _ hw37013_0)).trans hw37013_0), ((HB.out.cell (World.block_lt_of_cell? w _ hw37013_1)).trans hw37013_1)⟩ (fun hHeld => ?_)
                  clear hK K
                  refine norm_ (a' := ?_) ?_ ?_
                  rotate_left
                  · show Act.put _ (some 44) _ = _
                    simp only [Act.put, List.setIfInBounds_toArray, List.set_cons_zero, List.set_cons_succ, i64_w, i32_w]
                    rfl
                  refine pure_ (i := 14) (N := some 45) (v := ?_) (a' := ?_) #[true, true, true, true, true, true, true, true, true, true, true, true, true, true, true, false, false, false, false, false, false, false, false, false, false, false, false, false, false] rfl rfl (any_of HT_.out (by kernel_rfl)) (fun _ _ _ h => h) (Or.inl ⟨by rfl, ?_⟩) ?_ ?_
                  rotate_left
                  · intro w'
                    go_simp
                    with_reducible rfl
                  rotate_left
                  · simp only [Act.put, List.setIfInBounds_toArray, List.set_cons_zero, List.set_cons_succ, i64_w, i32_w]
                    rfl
                  refine pure_ (i := 15) (N := some 46) (v := ?_) (a' := ?_) #[true, true, true, true, true, true, true, true, true, true, true, true, true, true, true, true, false, false, false, false, false, false, false, false, false, false, false, false, false] rfl rfl (any_of HT_.out (by kernel_rfl)) (fun _ _ _ h => h) (Or.inl ⟨by rfl, ?_⟩) ?_ ?_
                  rotate_left
                  · intro w'
                    go_simp
                    with_reducible rfl
                  rotate_left
                  · simp only [Act.put, List.setIfInBounds_toArray, List.set_cons_zero, List.set_cons_succ, i64_w, i32_w]
                    rfl
                  refine pure_ (i := 16) (N := some 47) (v := ?_) (a' := ?_) #[true, true, true, true, true, true, true, true, true, true, true, true, true, true, true, true, true, false, false, false, false, false, false, false, false, false, false, false, false] rfl rfl (any_of HT_.out (by kernel_rfl)) (fun _ _ _ h => h) (Or.inl ⟨by rfl, ?_⟩) ?_ ?_
                  rotate_left
                  · intro w'
                    go_simp
                    with_reducible rfl
                  rotate_left
                  · simp only [Act.put, List.setIfInBounds_toArray, List.set_cons_zero, List.set_cons_succ, i64_w, i32_w]
                    rfl
                  refine pure_ (i := 17) (N := some 48) (v := ?_) (a' := ?_) #[true, true, true, true, true, true, true, true, true, true, true, true, true, true, true, true, true, true, false, false, false, false, false, false, false, false, false, false, false] rfl rfl (any_of HT_.out (by kernel_rfl)) (fun _ _ _ h => h) (Or.inl ⟨by rfl, ?_⟩) ?_ ?_
                  rotate_left
                  · intro w'
                    go_simp
                    with_reducible rfl
                  rotate_left
                  · simp only [Act.put, List.setIfInBounds_toArray, List.set_cons_zero, List.set_cons_succ, i64_w, i32_w]
                    rfl
                  refine pure_ (i := 18) (N := some 49) (v := ?_) (a' := ?_) #[true, true, true, true, true, true, true, true, true, true, true, true, true, true, true, true, true, true, true, false, false, false, false, false, false, false, false, false, false] rfl rfl (any_of HT_.out (by kernel_rfl)) (fun _ _ _ h => h) (Or.inl ⟨by rfl, ?_⟩) ?_ ?_
                  rotate_left
                  · intro w'
                    go_simp
                    with_reducible rfl
                  rotate_left
                  · simp only [Act.put, List.setIfInBounds_toArray, List.set_cons_zero, List.set_cons_succ, i64_w, i32_w]
                    rfl
                  refine pure_ (i := 19) (N := some 50) (v := ?_) (a' := ?_) #[true, true, true, true, true, true, true, true, true, true, true, true, true, true, true, true, true, true, true, true, false, false, false, false, false, false, false, false, false] rfl rfl (any_of HT_.out (by kernel_rfl)) (fun _ _ _ h => h) (Or.inl ⟨by rfl, ?_⟩) ?_ ?_
                  rotate_left
                  · intro w'
                    go_simp
                    with_reducible rfl
                  rotate_left
                  · simp only [Act.put, List.setIfInBounds_toArray, List.set_cons_zero, List.set_cons_succ, i64_w, i32_w]
                    rfl
                  refine pure_ (i := 20) (N := some 51) (v := ?_) (a' := ?_) #[true, true, true, true, true, true, true, true, true, true, true, true, true, true, true, true, true, true, true, true, true, false, false, false, false, false, false, false, false] rfl rfl (any_of HT_.out (by kernel_rfl)) (fun _ _ _ h => h) (Or.inl ⟨by rfl, ?_⟩) ?_ ?_
                  rotate_left
                  · intro w'
                    go_simp
                    with_reducible rfl
                  rotate_left
                  · simp only [Act.put, List.setIfInBounds_toArray, List.set_cons_zero, List.set_cons_succ, i64_w, i32_w]
                    rfl
                  refine pure_ (i := 22) (N := some 53) (v := ?_) (a' := ?_) #[true, true, true, true, true, true, true, true, true, true, true, true, true, true, true, true, true, true, true, true, true, false, true, false, false, false, false, false, false] rfl rfl (any_of HT_.out (by kernel_rfl)) (fun _ _ _ h => h) (Or.inl ⟨by rfl, ?_⟩) ?_ ?_
                  rotate_left
                  · intro w'
                    go_simp
                    with_reducible rfl
                  rotate_left
                  · simp only [Act.put, List.setIfInBounds_toArray, List.set_cons_zero, List.set_cons_succ, i64_w, i32_w]
                    rfl
                  refine pure_ (i := 23) (N := some 54) (v := ?_) (a' := ?_) #[true, true, true, true, true, true, true, true, true, true, true, true, true, true, true, true, true, true, true, true, true, false, true, true, false, false, false, false, false] rfl rfl (any_of HT_.out (by kernel_rfl)) (fun _ _ _ h => h) (Or.inl ⟨by rfl, ?_⟩) ?_ ?_
                  rotate_left
                  · intro w'
                    go_simp
                    with_reducible rfl
                  rotate_left
                  · simp only [Act.put, List.setIfInBounds_toArray, List.set_cons_zero, List.set_cons_succ, i64_w, i32_w]
                    rfl
                  refine pure_ (i := 24) (N := some 55) (v := ?_) (a' := ?_) #[true, true, true, true, true, true, true, true, true, true, true, true, true, true, true, true, true, true, true, true, true, false, true, true, true, false, false, false, false] rfl rfl (any_of HT_.out (by kernel_rfl)) (fun _ _ _ h => h) (Or.inl ⟨by rfl, ?_⟩) ?_ ?_
                  rotate_left
                  · intro w'
                    go_simp
                    with_reducible rfl
                  rotate_left
                  · simp only [Act.put, List.setIfInBounds_toArray, List.set_cons_zero, List.set_cons_succ, i64_w, i32_w]
                    rfl
                  refine pure_ (i := 25) (N := some 56) (v := ?_) (a' := ?_) #[true, true, true, true, true, true, true, true, true, true, true, true, true, true, true, true, true, true, true, true, true, false, true, true, true, true, false, false, false] rfl rfl (any_of HT_.out (by kernel_rfl)) (fun _ _ _ h => h) (Or.inl ⟨by rfl, ?_⟩) ?_ ?_
                  rotate_left
                  · intro w'
                    go_simp
                    with_reducible rfl
                  rotate_left
                  · simp only [Act.put, List.setIfInBounds_toArray, List.set_cons_zero, List.set_cons_succ, i64_w, i32_w]
                    rfl
                  refine take_ (i := 21) (N := some 52) (v := ?_) (a' := ?_) #[true, true, true, true, true, true, true, true, true, true, true, true, true, true, true, true, true, true, true, true, true, true, true, true, true, true, false, false, false] rfl rfl (take_ofW HT_.out HW_.out (by kernel_rfl)) (fun _ _ _ h => h) (Or.inl ⟨by rfl, ?_⟩) hHeld ?_ ?_
                  rotate_left
                  · rintro w' ⟨s0, s1, s2, s3, s4, s5, s6, s7⟩
                    go_simp
                    with_reducible rfl
                  rotate_left
                  · simp only [Act.put, List.setIfInBounds_toArray, List.set_cons_zero, List.set_cons_succ, i64_w, i32_w]
                    rfl
                  refine take_ (i := 26) (N := some 57) (v := ?_) (a' := ?_) #[true, true, true, true, true, true, true, true, true, true, true, true, true, true, true, true, true, true, true, true, true, true, true, true, true, true, true, false, false] rfl rfl (take_ofW HT_.out HW_.out (by kernel_rfl)) (fun _ _ _ h => h) (Or.inl ⟨by rfl, ?_⟩) hHeld ?_ ?_
                  rotate_left
                  · rintro w' ⟨s0, s1, s2, s3, s4, s5, s6, s7⟩
                    go_simp
                    with_reducible rfl
                  rotate_left
                  · simp only [Act.put, List.setIfInBounds_toArray, List.set_cons_zero, List.set_cons_succ, i64_w, i32_w]
                    rfl
                  refine pure_ (i := 27) (N := some 58) (v := ?_) (a' := ?_) #[true, true, true, true, true, true, true, true, true, true, true, true, true, true, true, true, true, true, true, true, true, true, true, true, true, true, true, true, false] rfl rfl (any_of HT_.out (by kernel_rfl)) (fun _ _ _ h => h) (Or.inl ⟨by rfl, ?_⟩) ?_ ?_
                  rotate_left
                  · intro w'
                    go_simp
                    with_reducible rfl
                  rotate_left
                  · simp only [Act.put, List.setIfInBounds_toArray, List.set_cons_zero, List.set_cons_succ, i64_w, i32_w]
                    rfl
                  refine pure_ (i := 28) (N := some 59) (v := ?_) (a' := ?_) #[true, true, true, true, true, true, true, true, true, true, true, true, true, true, true, true, true, true, true, true, true, true, true, true, true, true, true, true, true] rfl rfl (any_of HT_.out (by kernel_rfl)) (fun _ _ _ h => h) (Or.inl ⟨by rfl, ?_⟩) ?_ ?_
                  rotate_left
                  · intro w'
                    go_simp
                    with_reducible rfl
                  rotate_left
                  · simp only [Act.put, List.setIfInBounds_toArray, List.set_cons_zero, List.set_cons_succ, i64_w, i32_w]
                    rfl
                  refine done_ (done_of HT_.out (by kernel_rfl)) ?_
                  try go_wp2
                  go_ret
                  exact ⟨_, by first | rfl | (simp [errW_none, errW_some] <;> rfl) | (simp [*, errW_none, errW_some] <;> rfl), by (with_reducible repeat (first | apply Kd.S_alloc | apply Kd.S_drewN | apply Kd.S_drew)); exact HO_13.out, by repeat (first | (with_reducible first | exact HB.out | apply below_alloc | apply pw_below_drewN | apply below_drew1 | refine below_set ?_ GE37001.out) | exact HB.out)⟩
                · rw [if_neg c24] at H
                  have c24b0 : decide (((rd_T133 l5 x15_1).f1) < ((rd_T133 l5 x15_1).f0)) = false := decide_eq_false c24
                  clear c24
                  by_cases c26 : x14_1.length < 17592186044416
                  · rw [if_pos c26] at H
                    have LMc26 := Aside0.mk c26
                    clear c26
                    obtain ⟨y37016, hy37016⟩ : ∃ y_ : List Int, y_ = (x14_1 ++ [wrap64 ((wrap64 (((rd_T133 l5 x15_1).f1) - ((rd_T133 l5 x15_1).f0))) + 1)]) := ⟨_, rfl⟩
                    replace H : (spec_Spread.l0 k1 a1 a2 a3 a4 l5 y37002 y37016 (wrap64 (x15_1 + 1)) l0_0 a0_1 a0_2) = some r := by first | (rw [hy37016]; with_reducible exact H) | (have H2_ := (Option.bind_some _ _).symm.trans H; rw [hy37016]; with_reducible exact H2_) | (have H2_ := (Option.bind_some _ _).symm.trans H; with_reducible exact H2_) | with_reducible exact H | (rw [hy37016]; exact H) | exact H
                    have Ny37016 := Aside0.mk hy37016
                    clear hy37016
                    have H' := Aside0.mk H
                    clear H
                    try go_wp2
                    have n0_ := Aside0.mk (Kd.S_drew HO_13.out)
                    have n1_ := Aside0.mk (Kd.R_drew HO_14.out)
                    have n2_ := Aside0.mk (blk_drew BK37001.out)
                    have n3_ := Aside0.mk (below_drew1 HB.out)
                    clear HO_13
                    clear HO_14
                    clear BK37001
                    clear HB
                    have HO_13 := n0_
                    have HO_14 := n1_
                    have BK37001 := n2_
                    have HB := n3_
                    clear n0_ n1_ n2_ n3_
                    have p37008 : 0 ≤ (x15_1 : Int) := of_decide_eq_true (by first | (with_reducible assumption) | assumption)
                    have q37008 : x15_1 < (l5.length : Int) := of_decide_eq_true (by first | (with_reducible assumption) | assumption)
                    obtain ⟨ad37008, e37008, hx37008_0, hx37008_1⟩ := at_T133 HR5.out x15_1 p37008 q37008
                    have hw37008_1 := hx37008_1
                    have hw37008_0 := hx37008_0
                    cases e37008
                    replace hx37008_0 := (HB.out.cell (World.block_lt_of_cell? w _ hx37008_0)).trans hx37008_0
                    replace hx37008_1 := (HB.out.cell (World.block_lt_of_cell? w _ hx37008_1)).trans hx37008_1
                    replace p37008 := eq_true p37008
                    replace q37008 := eq_true q37008
                    have p37010 : 0 ≤ (x15_1 : Int) := of_decide_eq_true (by first | (with_reducible assumption) | assumption)
                    have q37010 : x15_1 < (l5.length : Int) := of_decide_eq_true (by first | (with_reducible assumption) | assumption)
                    obtain ⟨ad37010, e37010, hx37010_0, hx37010_1⟩ := at_T133 HR5.out x15_1 p37010 q37010
                    have hw37010_1 := hx37010_1
                    have hw37010_0 := hx37010_0
                    obtain rfl : ad37008 = ad37010 := (by injection e37010)
                    replace hx37010_0 := (HB.out.cell (World.block_lt_of_cell? w _ hx37010_0)).trans hx37010_0
                    replace hx37010_1 := (HB.out.cell (World.block_lt_of_cell? w _ hx37010_1)).trans hx37010_1
                    replace p37010 := eq_true p37010
                    replace q37010 := eq_true q37010
                    have p37012 : 0 ≤ (x15_1 : Int) := of_decide_eq_true (by first | (with_reducible assumption) | assumption)
                    have q37012 : x15_1 < (l5.length : Int) := of_decide_eq_true (by first | (with_reducible assumption) | assumption)
                    obtain ⟨ad37012, e37012, hx37012_0, hx37012_1⟩ := at_T133 HR5.out x15_1 p37012 q37012
                    have hw37012_1 := hx37012_1
                    have hw37012_0 := hx37012_0
                    obtain rfl : ad37008 = ad37012 := (by injection e37012)
                    replace hx37012_0 := (HB.out.cell (World.block_lt_of_cell? w _ hx37012_0)).trans hx37012_0
                    replace hx37012_1 := (HB.out.cell (World.block_lt_of_cell? w _ hx37012_1)).trans hx37012_1
                    replace p37012 := eq_true p37012
                    replace q37012 := eq_true q37012
                    have p37013 : 0 ≤ (x15_1 : Int) := of_decide_eq_true (by first | (with_reducible assumption) | assumption)
                    have q37013 : x15_1 < (l5.length : Int) := of_decide_eq_true (by first | (with_reducible assumption) | assumption)
                    obtain ⟨ad37013, e37013, hx37013_0, hx37013_1⟩ := at_T133 HR5.out x15_1 p37013 q37013
                    have hw37013_1 := hx37013_1
                    have hw37013_0 := hx37013_0
                    obtain rfl : ad37008 = ad37013 := (by injection e37013)
                    replace hx37013_0 := (HB.out.cell (World.block_lt_of_cell? w _ hx37013_0)).trans hx37013_0
                    replace hx37013_1 := (HB.out.cell (World.block_lt_of_cell? w _ hx37013_1)).trans hx37013_1
                    replace p37013 := eq_true p37013
                    replace q37013 := eq_true q37013
                    refine start_ (n := 29) (S := fun w' => w'.cell? (ad37008.add ((x15_1).toNat * 2)) = some (.int .i64 ((rd_T133 l5 x15_1).f0)) ∧ w'.cell? ⟨(ad37008.add ((x15_1).toNat * 2)).block, (ad37008.add ((x15_1).toNat * 2)).off + 1, none⟩ = some (.int .i64 ((rd_T133 l5 x15_1).f1)) ∧ w'.cell? (ad37008.add ((x15_1).toNat * 2)) = some (.int .i64 ((rd_T133 l5 x15_1).f0)) ∧ w'.cell? ⟨(ad37008.add ((x15_1).toNat * 2)).block, (ad37008.add ((x15_1).toNat * 2)).off + 1, none⟩ = some (.int .i64 ((rd_T133 l5 x15_1).f1)) ∧ w'.cell? (ad37008.add ((x15_1).toNat * 2)) = some (.int .i64 ((rd_T133 l5 x15_1).f0)) ∧ w'.cell? ⟨(ad37008.add ((x15_1).toNat * 2)).block, (ad37008.add ((x15_1).toNat * 2)).off + 1, none⟩ = some (.int .i64 ((rd_T133 l5 x15_1).f1)) ∧ w'.cell? (ad37008.add ((x15_1).toNat * 2)) = some (.int .i64 ((rd_T133 l5 x15_1).f0)) ∧ w'.cell? ⟨(ad37008.add ((x15_1).toNat * 2)).block, (ad37008.add ((x15_1).toNat * 2)).off + 1, none⟩ = some (.int .i64 ((rd_T133 l5 x15_1).f1))) (ds := []) #[false, false, false, false, false, false, false, false, false, false, false, false, false, false, false, false, false, false, false, false, false, false, false, false, false, false, false, false, false] (by kernel_rfl) rfl rfl ⟨((HB.out.cell (World.block_lt_of_cell? w _ hw37008_0)).trans hw37008_0), ((HB.out.cell (World.block_lt_of_cell? w _ hw37008_1)).trans hw37008_1), ((HB.out.cell (World.block_lt_of_cell? w _ hw37010_0)).trans hw37010_0), ((HB.out.cell (World.block_lt_of_cell? w _ hw37010_1)).trans hw37010_1), ((HB.out.cell (World.block_lt_of_cell? w _ hw37012_0)).trans hw37012_0), ((HB.out.cell (World.block_lt_of_cell? w _ hw37012_1)).trans hw37012_1), ((HB.out.cell (World.block_lt_of_cell? w _ hw37013_0)).trans hw37013_0), ((HB.out.cell (World.block_lt_of_cell? w _ hw37013_1)).trans hw37013_1)⟩ (fun hHeld => ?_); refine with_tabW spec_Spread.tab8 spec_Spread.bits8 (fun HT_ HW_ => ?_)
                    generalize wr.drew = w27 at HO_13 HO_14 BK37001 HB hx37008_0 hx37008_1 hx37010_0 hx37010_1 hx37012_0 hx37012_1 hx37013_0 hx37013_1 hHeld ⊢
                    refine pure_ (i := 0) (N := some 31) (v := ?_) (a' := ?_) #[true, false, false, false, false, false, false, false, false, false, false, false, false, false, false, false, false, false, false, false, false, false, false, false, false, false, false, false, false] rfl rfl (any_of HT_.out (by kernel_rfl)) (fun _ _ _ h => h) (Or.inl ⟨by rfl, ?_⟩) ?_ ?_
                    rotate_left
                    · intro w'
                      go_simp
                      with_reducible rfl
                    rotate_left
                    · simp only [Act.put, List.setIfInBounds_toArray, List.set_cons_zero, List.set_cons_succ, i64_w, i32_w]
                      rfl
                    refine pure_ (i := 1) (N := some 32) (v := ?_) (a' := ?_) #[true, true, false, false, false, false, false, false, false, false, false, false, false, false, false, false, false, false, false, false, false, false, false, false, false, false, false, false, false] rfl rfl (any_of HT_.out (by kernel_rfl)) (fun _ _ _ h => h) (Or.inl ⟨by rfl, ?_⟩) ?_ ?_
                    rotate_left
                    · intro w'
                      go_simp
                      with_reducible rfl
                    rotate_left
                    · simp only [Act.put, List.setIfInBounds_toArray, List.set_cons_zero, List.set_cons_succ, i64_w, i32_w]
                      rfl
                    refine pure_ (i := 2) (N := some 33) (v := ?_) (a' := ?_) #[true, true, true, false, false, false, false, false, false, false, false, false, false, false, false, false, false, false, false, false, false, false, false, false, false, false, false, false, false] rfl rfl (any_of HT_.out (by kernel_rfl)) (fun _ _ _ h => h) (Or.inl ⟨by rfl, ?_⟩) ?_ ?_
                    rotate_left
                    · intro w'
                      go_simp
                      with_reducible rfl
                    rotate_left
                    · simp only [Act.put, List.setIfInBounds_toArray, List.set_cons_zero, List.set_cons_succ, i64_w, i32_w]
                      rfl
                    refine pure_ (i := 3) (N := some 34) (v := ?_) (a' := ?_) #[true, true, true, true, false, false, false, false, false, false, false, false, false, false, false, false, false, false, false, false, false, false, false, false, false, false, false, false, false] rfl rfl (any_of HT_.out (by kernel_rfl)) (fun _ _ _ h => h) (Or.inl ⟨by rfl, ?_⟩) ?_ ?_
                    rotate_left
                    · intro w'
                      go_simp
                      with_reducible rfl
                    rotate_left
                    · simp only [Act.put, List.setIfInBounds_toArray, List.set_cons_zero, List.set_cons_succ, i64_w, i32_w]
                      rfl
                    refine take_ (i := 4) (N := some 35) (v := ?_) (a' := ?_) #[true, true, true, true, true, false, false, false, false, false, false, false, false, false, false, false, false, false, false, false, false, false, false, false, false, false, false, false, false] rfl rfl (take_ofW HT_.out HW_.out (by kernel_rfl)) (fun _ _ _ h => h) (Or.inl ⟨by rfl, ?_⟩) hHeld ?_ ?_
                    rotate_left
                    · rintro w' ⟨s0, s1, s2, s3, s4, s5, s6, s7⟩
                      go_simp
                      with_reducible rfl
                    rotate_left
                    · simp only [Act.put, List.setIfInBounds_toArray, List.set_cons_zero, List.set_cons_succ, i64_w, i32_w]
                      rfl
                    refine one_ (i := 5) (N := some 36) #[true, true, true, true, true, true, false, false, false, false, false, false, false, false, false, false, false, false, false, false, false, false, false, false, false, false, false, false, false] rfl rfl (one_of HT_.out (by kernel_rfl)) (by decide) (fun K hK => ?_)
                    refine goes_ Try.func80 (by kernel_rfl) rfl #[.int .i64 ((rd_T133 l5 x15_1).f1)] (by rfl) rfl rfl (by (try simp only [List.map_toArray, List.map_cons, List.map_nil]); first | done | rfl | (simp only [List.length_drop, List.length_take]; rfl)) ?_
                    with_reducible refine (spec_l2Day.calls ((rd_T133 l5 x15_1).f1) true _ A20.out).mono ?_
                    rintro e w' ⟨rfl, ⟨nd, rfl⟩⟩
                    refine ⟨_, rfl, ?_⟩
                    refine hK.out _ _ ⟨((HB.out.cell (World.block_lt_of_cell? w _ hw37008_0)).trans hw37008_0), ((HB.out.cell (World.block_lt_of_cell? w _ hw37008_1)).trans hw37008_1), ((HB.out.cell (World.block_lt_of_cell? w _ hw37010_0)).trans hw37010_0), ((HB.out.cell (World.block_lt_of_cell? w _ hw37010_1)).trans hw37010_1), ((HB.out.cell (World.block_lt_of_cell? w _ hw37012_0)).trans hw37012_0), ((HB.out.cell (World.block_lt_of_cell? w _ hw37012_1)).trans hw37012_1), ((HB.out.cell (World.block_lt_of_cell? w _ hw37013_0)).trans hw37013_0), ((HB.out.cell (World.block_lt_of_cell? w _ hw37013_1)).trans hw37013_1)⟩ (fun hHeld => ?_)
                    clear hK K
                    refine norm_ (a' := ?_) ?_ ?_
                    rotate_left
                    · show Act.put _ (some 36) _ = _
                      simp only [Act.put, List.setIfInBounds_toArray, List.set_cons_zero, List.set_cons_succ, i64_w, i32_w]
                      rfl
                    refine pure_ (i := 6) (N := some 37) (v := ?_) (a' := ?_) #[true, true, true, true, true, true, true, false, false, false, false, false, false, false, false, false, false, false, false, false, false, false, false, false, false, false, false, false, false] rfl rfl (any_of HT_.out (by kernel_rfl)) (fun _ _ _ h => h) (Or.inl ⟨by rfl, ?_⟩) ?_ ?_
                    rotate_left
                    · intro w'
                      go_simp
                      with_reducible rfl
                    rotate_left
                    · simp only [Act.put, List.setIfInBounds_toArray, List.set_cons_zero, List.set_cons_succ, i64_w, i32_w]
                      rfl
                    refine pure_ (i := 7) (N := some 38) (v := ?_) (a' := ?_) #[true, true, true, true, true, true, true, true, false, false, false, false, false, false, false, false, false, false, false, false, false, false, false, false, false, false, false, false, false] rfl rfl (any_of HT_.out (by kernel_rfl)) (fun _ _ _ h => h) (Or.inl ⟨by rfl, ?_⟩) ?_ ?_
                    rotate_left
                    · intro w'
                      go_simp
                      with_reducible rfl
                    rotate_left
                    · simp only [Act.put, List.setIfInBounds_toArray, List.set_cons_zero, List.set_cons_succ, i64_w, i32_w]
                      rfl
                    refine pure_ (i := 8) (N := some 39) (v := ?_) (a' := ?_) #[true, true, true, true, true, true, true, true, true, false, false, false, false, false, false, false, false, false, false, false, false, false, false, false, false, false, false, false, false] rfl rfl (any_of HT_.out (by kernel_rfl)) (fun _ _ _ h => h) (Or.inl ⟨by rfl, ?_⟩) ?_ ?_
                    rotate_left
                    · intro w'
                      go_simp
                      with_reducible rfl
                    rotate_left
                    · simp only [Act.put, List.setIfInBounds_toArray, List.set_cons_zero, List.set_cons_succ, i64_w, i32_w]
                      rfl
                    refine pure_ (i := 9) (N := some 40) (v := ?_) (a' := ?_) #[true, true, true, true, true, true, true, true, true, true, false, false, false, false, false, false, false, false, false, false, false, false, false, false, false, false, false, false, false] rfl rfl (any_of HT_.out (by kernel_rfl)) (fun _ _ _ h => h) (Or.inl ⟨by rfl, ?_⟩) ?_ ?_
                    rotate_left
                    · intro w'
                      go_simp
                      with_reducible rfl
                    rotate_left
                    · simp only [Act.put, List.setIfInBounds_toArray, List.set_cons_zero, List.set_cons_succ, i64_w, i32_w]
                      rfl
                    refine pure_ (i := 10) (N := some 41) (v := ?_) (a' := ?_) #[true, true, true, true, true, true, true, true, true, true, true, false, false, false, false, false, false, false, false, false, false, false, false, false, false, false, false, false, false] rfl rfl (any_of HT_.out (by kernel_rfl)) (fun _ _ _ h => h) (Or.inl ⟨by rfl, ?_⟩) ?_ ?_
                    rotate_left
                    · intro w'
                      go_simp
                      with_reducible rfl
                    rotate_left
                    · simp only [Act.put, List.setIfInBounds_toArray, List.set_cons_zero, List.set_cons_succ, i64_w, i32_w]
                      rfl
                    refine pure_ (i := 11) (N := some 42) (v := ?_) (a' := ?_) #[true, true, true, true, true, true, true, true, true, true, true, true, false, false, false, false, false, false, false, false, false, false, false, false, false, false, false, false, false] rfl rfl (any_of HT_.out (by kernel_rfl)) (fun _ _ _ h => h) (Or.inl ⟨by rfl, ?_⟩) ?_ ?_
                    rotate_left
                    · intro w'
                      go_simp
                      with_reducible rfl
                    rotate_left
                    · simp only [Act.put, List.setIfInBounds_toArray, List.set_cons_zero, List.set_cons_succ, i64_w, i32_w]
                      rfl
                    refine take_ (i := 12) (N := some 43) (v := ?_) (a' := ?_) #[true, true, true, true, true, true, true, true, true, true, true, true, true, false, false, false, false, false, false, false, false, false, false, false, false, false, false, false, false] rfl rfl (take_ofW HT_.out HW_.out (by kernel_rfl)) (fun _ _ _ h => h) (Or.inl ⟨by rfl, ?_⟩) hHeld ?_ ?_
                    rotate_left
                    · rintro w' ⟨s0, s1, s2, s3, s4, s5, s6, s7⟩
                      go_simp
                      with_reducible rfl
                    rotate_left
                    · simp only [Act.put, List.setIfInBounds_toArray, List.set_cons_zero, List.set_cons_succ, i64_w, i32_w]
                      rfl
                    refine one_ (i := 13) (N := some 44) #[true, true, true, true, true, true, true, true, true, true, true, true, true, true, false, false, false, false, false, false, false, false, false, false, false, false, false, false, false] rfl rfl (one_of HT_.out (by kernel_rfl)) (by decide) (fun K hK => ?_)
                    refine goes_ Try.func79 (by kernel_rfl) rfl #[.int .i64 ((rd_T133 l5 x15_1).f0), .int .i64 (-10000000), .int .i64 40000] (by rfl) rfl rfl (by (try simp only [List.map_toArray, List.map_cons, List.map_nil]); first | done | rfl | (simp only [List.length_drop, List.length_take]; rfl)) ?_
                    with_reducible refine (spec_l1In.calls ((rd_T133 l5 x15_1).f0) (-10000000) 40000 true _ A22.out).mono ?_
                    rintro e w' ⟨rfl, ⟨nd, rfl⟩⟩
                    refine ⟨_, rfl, ?_⟩
                    refine hK.out _ _ ⟨((HB.out.cell (World.block_lt_of_cell? w _ hw37008_0)).trans hw37008_0), ((HB.out.cell (World.block_lt_of_cell? w _ hw37008_1)).trans hw37008_1), ((HB.out.cell (World.block_lt_of_cell? w _ hw37010_0)).trans hw37010_0), ((HB.out.cell (World.block_lt_of_cell? w _ hw37010_1)).trans hw37010_1), ((HB.out.cell (World.block_lt_of_cell? w _ hw37012_0)).trans hw37012_0), ((HB.out.cell (World.block_lt_of_cell? w _ hw37012_1)).trans hw37012_1), ((HB.out.cell (World.block_lt_of_cell? w _ hw37013_0)).trans hw37013_0), ((HB.out.cell (World.block_lt_of_cell? w _ hw37013_1)).trans hw37013_1)⟩ (fun hHeld => ?_)
                    clear hK K
                    refine norm_ (a' := ?_) ?_ ?_
                    rotate_left
                    · show Act.put _ (some 44) _ = _
                      simp only [Act.put, List.setIfInBounds_toArray, List.set_cons_zero, List.set_cons_succ, i64_w, i32_w]
                      rfl
                    refine pure_ (i := 14) (N := some 45) (v := ?_) (a' := ?_) #[true, true, true, true, true, true, true, true, true, true, true, true, true, true, true, false, false, false, false, false, false, false, false, false, false, false, false, false, false] rfl rfl (any_of HT_.out (by kernel_rfl)) (fun _ _ _ h => h) (Or.inl ⟨by rfl, ?_⟩) ?_ ?_
                    rotate_left
                    · intro w'
                      go_simp
                      with_reducible rfl
                    rotate_left
                    · simp only [Act.put, List.setIfInBounds_toArray, List.set_cons_zero, List.set_cons_succ, i64_w, i32_w]
                      rfl
                    refine pure_ (i := 15) (N := some 46) (v := ?_) (a' := ?_) #[true, true, true, true, true, true, true, true, true, true, true, true, true, true, true, true, false, false, false, false, false, false, false, false, false, false, false, false, false] rfl rfl (any_of HT_.out (by kernel_rfl)) (fun _ _ _ h => h) (Or.inl ⟨by rfl, ?_⟩) ?_ ?_
                    rotate_left
                    · intro w'
                      go_simp
                      with_reducible rfl
                    rotate_left
                    · simp only [Act.put, List.setIfInBounds_toArray, List.set_cons_zero, List.set_cons_succ, i64_w, i32_w]
                      rfl
                    refine pure_ (i := 16) (N := some 47) (v := ?_) (a' := ?_) #[true, true, true, true, true, true, true, true, true, true, true, true, true, true, true, true, true, false, false, false, false, false, false, false, false, false, false, false, false] rfl rfl (any_of HT_.out (by kernel_rfl)) (fun _ _ _ h => h) (Or.inl ⟨by rfl, ?_⟩) ?_ ?_
                    rotate_left
                    · intro w'
                      go_simp
                      with_reducible rfl
                    rotate_left
                    · simp only [Act.put, List.setIfInBounds_toArray, List.set_cons_zero, List.set_cons_succ, i64_w, i32_w]
                      rfl
                    refine pure_ (i := 17) (N := some 48) (v := ?_) (a' := ?_) #[true, true, true, true, true, true, true, true, true, true, true, true, true, true, true, true, true, true, false, false, false, false, false, false, false, false, false, false, false] rfl rfl (any_of HT_.out (by kernel_rfl)) (fun _ _ _ h => h) (Or.inl ⟨by rfl, ?_⟩) ?_ ?_
                    rotate_left
                    · intro w'
                      go_simp
                      with_reducible rfl
                    rotate_left
                    · simp only [Act.put, List.setIfInBounds_toArray, List.set_cons_zero, List.set_cons_succ, i64_w, i32_w]
                      rfl
                    refine pure_ (i := 18) (N := some 49) (v := ?_) (a' := ?_) #[true, true, true, true, true, true, true, true, true, true, true, true, true, true, true, true, true, true, true, false, false, false, false, false, false, false, false, false, false] rfl rfl (any_of HT_.out (by kernel_rfl)) (fun _ _ _ h => h) (Or.inl ⟨by rfl, ?_⟩) ?_ ?_
                    rotate_left
                    · intro w'
                      go_simp
                      with_reducible rfl
                    rotate_left
                    · simp only [Act.put, List.setIfInBounds_toArray, List.set_cons_zero, List.set_cons_succ, i64_w, i32_w]
                      rfl
                    refine pure_ (i := 19) (N := some 50) (v := ?_) (a' := ?_) #[true, true, true, true, true, true, true, true, true, true, true, true, true, true, true, true, true, true, true, true, false, false, false, false, false, false, false, false, false] rfl rfl (any_of HT_.out (by kernel_rfl)) (fun _ _ _ h => h) (Or.inl ⟨by rfl, ?_⟩) ?_ ?_
                    rotate_left
                    · intro w'
                      go_simp
                      with_reducible rfl
                    rotate_left
                    · simp only [Act.put, List.setIfInBounds_toArray, List.set_cons_zero, List.set_cons_succ, i64_w, i32_w]
                      rfl
                    refine pure_ (i := 20) (N := some 51) (v := ?_) (a' := ?_) #[true, true, true, true, true, true, true, true, true, true, true, true, true, true, true, true, true, true, true, true, true, false, false, false, false, false, false, false, false] rfl rfl (any_of HT_.out (by kernel_rfl)) (fun _ _ _ h => h) (Or.inl ⟨by rfl, ?_⟩) ?_ ?_
                    rotate_left
                    · intro w'
                      go_simp
                      with_reducible rfl
                    rotate_left
                    · simp only [Act.put, List.setIfInBounds_toArray, List.set_cons_zero, List.set_cons_succ, i64_w, i32_w]
                      rfl
                    refine pure_ (i := 22) (N := some 53) (v := ?_) (a' := ?_) #[true, true, true, true, true, true, true, true, true, true, true, true, true, true, true, true, true, true, true, true, true, false, true, false, false, false, false, false, false] rfl rfl (any_of HT_.out (by kernel_rfl)) (fun _ _ _ h => h) (Or.inl ⟨by rfl, ?_⟩) ?_ ?_
                    rotate_left
                    · intro w'
                      go_simp
                      with_reducible rfl
                    rotate_left
                    · simp only [Act.put, List.setIfInBounds_toArray, List.set_cons_zero, List.set_cons_succ, i64_w, i32_w]
                      rfl
                    refine pure_ (i := 23) (N := some 54) (v := ?_) (a' := ?_) #[true, true, true, true, true, true, true, true, true, true, true, true, true, true, true, true, true, true, true, true, true, false, true, true, false, false, false, false, false] rfl rfl (any_of HT_.out (by kernel_rfl)) (fun _ _ _ h => h) (Or.inl ⟨by rfl, ?_⟩) ?_ ?_
                    rotate_left
                    · intro w'
                      go_simp
                      with_reducible rfl
                    rotate_left
                    · simp only [Act.put, List.setIfInBounds_toArray, List.set_cons_zero, List.set_cons_succ, i64_w, i32_w]
                      rfl
                    refine pure_ (i := 24) (N := some 55) (v := ?_) (a' := ?_) #[true, true, true, true, true, true, true, true, true, true, true, true, true, true, true, true, true, true, true, true, true, false, true, true, true, false, false, false, false] rfl rfl (any_of HT_.out (by kernel_rfl)) (fun _ _ _ h => h) (Or.inl ⟨by rfl, ?_⟩) ?_ ?_
                    rotate_left
                    · intro w'
                      go_simp
                      with_reducible rfl
                    rotate_left
                    · simp only [Act.put, List.setIfInBounds_toArray, List.set_cons_zero, List.set_cons_succ, i64_w, i32_w]
                      rfl
                    refine pure_ (i := 25) (N := some 56) (v := ?_) (a' := ?_) #[true, true, true, true, true, true, true, true, true, true, true, true, true, true, true, true, true, true, true, true, true, false, true, true, true, true, false, false, false] rfl rfl (any_of HT_.out (by kernel_rfl)) (fun _ _ _ h => h) (Or.inl ⟨by rfl, ?_⟩) ?_ ?_
                    rotate_left
                    · intro w'
                      go_simp
                      with_reducible rfl
                    rotate_left
                    · simp only [Act.put, List.setIfInBounds_toArray, List.set_cons_zero, List.set_cons_succ, i64_w, i32_w]
                      rfl
                    refine take_ (i := 21) (N := some 52) (v := ?_) (a' := ?_) #[true, true, true, true, true, true, true, true, true, true, true, true, true, true, true, true, true, true, true, true, true, true, true, true, true, true, false, false, false] rfl rfl (take_ofW HT_.out HW_.out (by kernel_rfl)) (fun _ _ _ h => h) (Or.inl ⟨by rfl, ?_⟩) hHeld ?_ ?_
                    rotate_left
                    · rintro w' ⟨s0, s1, s2, s3, s4, s5, s6, s7⟩
                      go_simp
                      with_reducible rfl
                    rotate_left
                    · simp only [Act.put, List.setIfInBounds_toArray, List.set_cons_zero, List.set_cons_succ, i64_w, i32_w]
                      rfl
                    refine take_ (i := 26) (N := some 57) (v := ?_) (a' := ?_) #[true, true, true, true, true, true, true, true, true, true, true, true, true, true, true, true, true, true, true, true, true, true, true, true, true, true, true, false, false] rfl rfl (take_ofW HT_.out HW_.out (by kernel_rfl)) (fun _ _ _ h => h) (Or.inl ⟨by rfl, ?_⟩) hHeld ?_ ?_
                    rotate_left
                    · rintro w' ⟨s0, s1, s2, s3, s4, s5, s6, s7⟩
                      go_simp
                      with_reducible rfl
                    rotate_left
                    · simp only [Act.put, List.setIfInBounds_toArray, List.set_cons_zero, List.set_cons_succ, i64_w, i32_w]
                      rfl
                    refine pure_ (i := 27) (N := some 58) (v := ?_) (a' := ?_) #[true, true, true, true, true, true, true, true, true, true, true, true, true, true, true, true, true, true, true, true, true, true, true, true, true, true, true, true, false] rfl rfl (any_of HT_.out (by kernel_rfl)) (fun _ _ _ h => h) (Or.inl ⟨by rfl, ?_⟩) ?_ ?_
                    rotate_left
                    · intro w'
                      go_simp
                      with_reducible rfl
                    rotate_left
                    · simp only [Act.put, List.setIfInBounds_toArray, List.set_cons_zero, List.set_cons_succ, i64_w, i32_w]
                      rfl
                    refine pure_ (i := 28) (N := some 59) (v := ?_) (a' := ?_) #[true, true, true, true, true, true, true, true, true, true, true, true, true, true, true, true, true, true, true, true, true, true, true, true, true, true, true, true, true] rfl rfl (any_of HT_.out (by kernel_rfl)) (fun _ _ _ h => h) (Or.inl ⟨by rfl, ?_⟩) ?_ ?_
                    rotate_left
                    · intro w'
                      go_simp
                      with_reducible rfl
                    rotate_left
                    · simp only [Act.put, List.setIfInBounds_toArray, List.set_cons_zero, List.set_cons_succ, i64_w, i32_w]
                      rfl
                    refine done_ (done_of HT_.out (by kernel_rfl)) ?_
                    try go_wp2
                    (try (rw [drewN_self w27]; generalize hq_ : World.drewN w27 _ = w27; have n0_ : Aside0 (Kd.S k34 34 w27 w.heap.size (fun _ => True) v37003 y37002) := ⟨by rw [← hq_]; exact (by (with_reducible repeat (first | apply Kd.S_alloc | apply Kd.S_drewN | apply Kd.S_drew)); exact HO_13.out)⟩; have n1_ : Aside0 (Kd.R (Kd.int .i64) 3 w27 w.heap.size (fun _ => True) u14 x14_1) := ⟨by rw [← hq_]; exact (by (with_reducible repeat (first | apply Kd.R_alloc | apply Kd.R_drewN | apply Kd.R_drew)); exact HO_14.out)⟩; have n2_ : Aside0 (w27.heap[gb37001]? = some (.cells #[.slice A0_0 l0_0.length c0_0, .int .i64 a0_1, .int .i64 a0_2] 26 (0, 0))) := ⟨by rw [← hq_]; exact (by (with_reducible repeat (first | refine blk_drewN ?_ _ | refine blk_drew ?_ | refine blk_alloc ?_ _)); exact BK37001.out)⟩; have n3_ : Aside0 (Below w.heap.size w w27) := ⟨by rw [← hq_]; exact (by repeat (first | (with_reducible first | exact HB.out | apply below_alloc | apply pw_below_drewN | apply below_drew1 | refine below_set ?_ GE37001.out) | exact HB.out))⟩; clear HO_13 HO_14 BK37001 HB hq_; have HO_13 := n0_; have HO_14 := n1_; have BK37001 := n2_; have HB := n3_; clear n0_ n1_ n2_ n3_))
                    have n0_ := Aside0.mk (Kd.S_drew HO_13.out)
                    have n1_ := Aside0.mk (Kd.R_drew HO_14.out)
                    have n2_ := Aside0.mk (blk_drew BK37001.out)
                    have n3_ := Aside0.mk (below_drew1 HB.out)
                    clear HO_13
                    clear HO_14
                    clear BK37001
                    clear HB
                    have HO_13 := n0_
                    have HO_14 := n1_
                    have BK37001 := n2_
                    have HB := n3_
                    clear n0_ n1_ n2_ n3_
                    have p37014 : 0 ≤ (x15_1 : Int) := of_decide_eq_true (by first | (with_reducible assumption) | assumption)
                    have q37014 : x15_1 < (l5.length : Int) := of_decide_eq_true (by first | (with_reducible assumption) | assumption)
                    obtain ⟨ad37014, e37014, hx37014_0, hx37014_1⟩ := at_T133 HR5.out x15_1 p37014 q37014
                    have hw37014_1 := hx37014_1
                    have hw37014_0 := hx37014_0
                    obtain rfl : ad37008 = ad37014 := (by injection e37014)
                    replace hx37014_0 := (HB.out.cell (World.block_lt_of_cell? w _ hx37014_0)).trans hx37014_0
                    replace hx37014_1 := (HB.out.cell (World.block_lt_of_cell? w _ hx37014_1)).trans hx37014_1
                    replace p37014 := eq_true p37014
                    replace q37014 := eq_true q37014
                    have p37015 : 0 ≤ (x15_1 : Int) := of_decide_eq_true (by first | (with_reducible assumption) | assumption)
                    have q37015 : x15_1 < (l5.length : Int) := of_decide_eq_true (by first | (with_reducible assumption) | assumption)
                    obtain ⟨ad37015, e37015, hx37015_0, hx37015_1⟩ := at_T133 HR5.out x15_1 p37015 q37015
                    have hw37015_1 := hx37015_1
                    have hw37015_0 := hx37015_0
                    obtain rfl : ad37008 = ad37015 := (by injection e37015)
                    replace hx37015_0 := (HB.out.cell (World.block_lt_of_cell? w _ hx37015_0)).trans hx37015_0
                    replace hx37015_1 := (HB.out.cell (World.block_lt_of_cell? w _ hx37015_1)).trans hx37015_1
                    replace p37015 := eq_true p37015
                    replace q37015 := eq_true q37015
                    refine start_ (n := 16) (S := fun w' => w'.cell? (ad37008.add ((x15_1).toNat * 2)) = some (.int .i64 ((rd_T133 l5 x15_1).f0)) ∧ w'.cell? ⟨(ad37008.add ((x15_1).toNat * 2)).block, (ad37008.add ((x15_1).toNat * 2)).off + 1, none⟩ = some (.int .i64 ((rd_T133 l5 x15_1).f1)) ∧ w'.cell? (ad37008.add ((x15_1).toNat * 2)) = some (.int .i64 ((rd_T133 l5 x15_1).f0)) ∧ w'.cell? ⟨(ad37008.add ((x15_1).toNat * 2)).block, (ad37008.add ((x15_1).toNat * 2)).off + 1, none⟩ = some (.int .i64 ((rd_T133 l5 x15_1).f1))) (ds := []) #[false, false, false, false, false, false, false, false, false, false, false, false, false, false, false, false] (by kernel_rfl) rfl rfl ⟨((HB.out.cell (World.block_lt_of_cell? w _ hw37014_0)).trans hw37014_0), ((HB.out.cell (World.block_lt_of_cell? w _ hw37014_1)).trans hw37014_1), ((HB.out.cell (World.block_lt_of_cell? w _ hw37015_0)).trans hw37015_0), ((HB.out.cell (World.block_lt_of_cell? w _ hw37015_1)).trans hw37015_1)⟩ (fun hHeld => ?_); refine with_tabW spec_Spread.tab10 spec_Spread.bits10 (fun HT_ HW_ => ?_)
                    generalize w27.drew = w28 at HO_13 HO_14 BK37001 HB hx37014_0 hx37014_1 hx37015_0 hx37015_1 hHeld ⊢
                    refine pure_ (i := 0) (N := some 61) (v := ?_) (a' := ?_) #[true, false, false, false, false, false, false, false, false, false, false, false, false, false, false, false] rfl rfl (any_of HT_.out (by kernel_rfl)) (fun _ _ _ h => h) (Or.inl ⟨by rfl, ?_⟩) ?_ ?_
                    rotate_left
                    · intro w'
                      go_simp
                      with_reducible rfl
                    rotate_left
                    · simp only [Act.put, List.setIfInBounds_toArray, List.set_cons_zero, List.set_cons_succ, i64_w, i32_w]
                      rfl
                    refine pure_ (i := 1) (N := some 62) (v := ?_) (a' := ?_) #[true, true, false, false, false, false, false, false, false, false, false, false, false, false, false, false] rfl rfl (any_of HT_.out (by kernel_rfl)) (fun _ _ _ h => h) (Or.inl ⟨by rfl, ?_⟩) ?_ ?_
                    rotate_left
                    · intro w'
                      go_simp
                      with_reducible rfl
                    rotate_left
                    · simp only [Act.put, List.setIfInBounds_toArray, List.set_cons_zero, List.set_cons_succ, i64_w, i32_w]
                      rfl
                    refine pure_ (i := 2) (N := some 63) (v := ?_) (a' := ?_) #[true, true, true, false, false, false, false, false, false, false, false, false, false, false, false, false] rfl rfl (any_of HT_.out (by kernel_rfl)) (fun _ _ _ h => h) (Or.inl ⟨by rfl, ?_⟩) ?_ ?_
                    rotate_left
                    · intro w'
                      go_simp
                      with_reducible rfl
                    rotate_left
                    · simp only [Act.put, List.setIfInBounds_toArray, List.set_cons_zero, List.set_cons_succ, i64_w, i32_w]
                      rfl
                    refine pure_ (i := 3) (N := some 64) (v := ?_) (a' := ?_) #[true, true, true, true, false, false, false, false, false, false, false, false, false, false, false, false] rfl rfl (any_of HT_.out (by kernel_rfl)) (fun _ _ _ h => h) (Or.inl ⟨by rfl, ?_⟩) ?_ ?_
                    rotate_left
                    · intro w'
                      go_simp
                      with_reducible rfl
                    rotate_left
                    · simp only [Act.put, List.setIfInBounds_toArray, List.set_cons_zero, List.set_cons_succ, i64_w, i32_w]
                      rfl
                    refine pure_ (i := 4) (N := some 65) (v := ?_) (a' := ?_) #[true, true, true, true, true, false, false, false, false, false, false, false, false, false, false, false] rfl rfl (any_of HT_.out (by kernel_rfl)) (fun _ _ _ h => h) (Or.inl ⟨by rfl, ?_⟩) ?_ ?_
                    rotate_left
                    · intro w'
                      go_simp
                      with_reducible rfl
                    rotate_left
                    · simp only [Act.put, List.setIfInBounds_toArray, List.set_cons_zero, List.set_cons_succ, i64_w, i32_w]
                      rfl
                    refine pure_ (i := 6) (N := some 67) (v := ?_) (a' := ?_) #[true, true, true, true, true, false, true, false, false, false, false, false, false, false, false, false] rfl rfl (any_of HT_.out (by kernel_rfl)) (fun _ _ _ h => h) (Or.inl ⟨by rfl, ?_⟩) ?_ ?_
                    rotate_left
                    · intro w'
                      go_simp
                      with_reducible rfl
                    rotate_left
                    · simp only [Act.put, List.setIfInBounds_toArray, List.set_cons_zero, List.set_cons_succ, i64_w, i32_w]
                      rfl
                    refine pure_ (i := 7) (N := some 68) (v := ?_) (a' := ?_) #[true, true, true, true, true, false, true, true, false, false, false, false, false, false, false, false] rfl rfl (any_of HT_.out (by kernel_rfl)) (fun _ _ _ h => h) (Or.inl ⟨by rfl, ?_⟩) ?_ ?_
                    rotate_left
                    · intro w'
                      go_simp
                      with_reducible rfl
                    rotate_left
                    · simp only [Act.put, List.setIfInBounds_toArray, List.set_cons_zero, List.set_cons_succ, i64_w, i32_w]
                      rfl
                    refine pure_ (i := 8) (N := some 69) (v := ?_) (a' := ?_) #[true, true, true, true, true, false, true, true, true, false, false, false, false, false, false, false] rfl rfl (any_of HT_.out (by kernel_rfl)) (fun _ _ _ h => h) (Or.inl ⟨by rfl, ?_⟩) ?_ ?_
                    rotate_left
                    · intro w'
                      go_simp
                      with_reducible rfl
                    rotate_left
                    · simp only [Act.put, List.setIfInBounds_toArray, List.set_cons_zero, List.set_cons_succ, i64_w, i32_w]
                      rfl
                    refine pure_ (i := 9) (N := some 70) (v := ?_) (a' := ?_) #[true, true, true, true, true, false, true, true, true, true, false, false, false, false, false, false] rfl rfl (any_of HT_.out (by kernel_rfl)) (fun _ _ _ h => h) (Or.inl ⟨by rfl, ?_⟩) ?_ ?_
                    rotate_left
                    · intro w'
                      go_simp
                      with_reducible rfl
                    rotate_left
                    · simp only [Act.put, List.setIfInBounds_toArray, List.set_cons_zero, List.set_cons_succ, i64_w, i32_w]
                      rfl
                    refine take_ (i := 5) (N := some 66) (v := ?_) (a' := ?_) #[true, true, true, true, true, true, true, true, true, true, false, false, false, false, false, false] rfl rfl (take_ofW HT_.out HW_.out (by kernel_rfl)) (fun _ _ _ h => h) (Or.inl ⟨by rfl, ?_⟩) hHeld ?_ ?_
                    rotate_left
                    · rintro w' ⟨s0, s1, s2, s3⟩
                      go_simp
                      with_reducible rfl
                    rotate_left
                    · simp only [Act.put, List.setIfInBounds_toArray, List.set_cons_zero, List.set_cons_succ, i64_w, i32_w]
                      rfl
                    refine take_ (i := 10) (N := some 71) (v := ?_) (a' := ?_) #[true, true, true, true, true, true, true, true, true, true, true, false, false, false, false, false] rfl rfl (take_ofW HT_.out HW_.out (by kernel_rfl)) (fun _ _ _ h => h) (Or.inl ⟨by rfl, ?_⟩) hHeld ?_ ?_
                    rotate_left
                    · rintro w' ⟨s0, s1, s2, s3⟩
                      go_simp
                      with_reducible rfl
                    rotate_left
                    · simp only [Act.put, List.setIfInBounds_toArray, List.set_cons_zero, List.set_cons_succ, i64_w, i32_w]
                      rfl
                    refine pure_ (i := 11) (N := some 72) (v := ?_) (a' := ?_) #[true, true, true, true, true, true, true, true, true, true, true, true, false, false, false, false] rfl rfl (any_of HT_.out (by kernel_rfl)) (fun _ _ _ h => h) (Or.inl ⟨by rfl, ?_⟩) ?_ ?_
                    rotate_left
                    · intro w'
                      go_simp
                      with_reducible rfl
                    rotate_left
                    · simp only [Act.put, List.setIfInBounds_toArray, List.set_cons_zero, List.set_cons_succ, i64_w, i32_w]
                      rfl
                    refine pure_ (i := 12) (N := some 73) (v := ?_) (a' := ?_) #[true, true, true, true, true, true, true, true, true, true, true, true, true, false, false, false] rfl rfl (any_of HT_.out (by kernel_rfl)) (fun _ _ _ h => h) (Or.inl ⟨by rfl, ?_⟩) ?_ ?_
                    rotate_left
                    · intro w'
                      go_simp
                      with_reducible rfl
                    rotate_left
                    · simp only [Act.put, List.setIfInBounds_toArray, List.set_cons_zero, List.set_cons_succ, i64_w, i32_w]
                      rfl
                    refine one_ (i := 13) (N := some 74) #[true, true, true, true, true, true, true, true, true, true, true, true, true, true, false, false] rfl rfl (one_of HT_.out (by kernel_rfl)) (by decide) (fun K hK => ?_)
                    refine value_ (w1 := ?_) (v := ?_) (by rfl) rfl ?_ ?_
                    rotate_left 2
                    · go_simp
                      constructor
                      · rfl
                      · rfl
                    refine hK.out _ _ ⟨(World.cell?_alloc_lt _ _ _ (World.block_lt_of_cell? _ _ (((HB.out.cell (World.block_lt_of_cell? w _ hw37014_0)).trans hw37014_0)))).trans (((HB.out.cell (World.block_lt_of_cell? w _ hw37014_0)).trans hw37014_0)), (World.cell?_alloc_lt _ _ _ (World.block_lt_of_cell? _ _ (((HB.out.cell (World.block_lt_of_cell? w _ hw37014_1)).trans hw37014_1)))).trans (((HB.out.cell (World.block_lt_of_cell? w _ hw37014_1)).trans hw37014_1)), (World.cell?_alloc_lt _ _ _ (World.block_lt_of_cell? _ _ (((HB.out.cell (World.block_lt_of_cell? w _ hw37015_0)).trans hw37015_0)))).trans (((HB.out.cell (World.block_lt_of_cell? w _ hw37015_0)).trans hw37015_0)), (World.cell?_alloc_lt _ _ _ (World.block_lt_of_cell? _ _ (((HB.out.cell (World.block_lt_of_cell? w _ hw37015_1)).trans hw37015_1)))).trans (((HB.out.cell (World.block_lt_of_cell? w _ hw37015_1)).trans hw37015_1))⟩ (fun hHeld => ?_)
                    clear hK K
                    refine norm_ (a' := ?_) ?_ ?_
                    rotate_left
                    · show Act.put _ (some 74) _ = _
                      simp only [Act.put, List.setIfInBounds_toArray, List.set_cons_zero, List.set_cons_succ, i64_w, i32_w]
                      rfl
                    refine one_ (i := 14) (N := some 75) #[true, true, true, true, true, true, true, true, true, true, true, true, true, true, true, false] rfl rfl (one_of HT_.out (by kernel_rfl)) (by decide) (fun K hK => ?_)
                    refine Kd.R_append_step (Kd.int .i64) (w0 := w) w.heap.size (by rfl) (.tmp 61) (.tmp 74) 46 3 (.int .i64 0) 8 rfl Try.underlying46 info3 rfl (by decide) (by omega) u14 x14_1 (wrap64 ((wrap64 (((rd_T133 l5 x15_1).f1) - ((rd_T133 l5 x15_1).f0))) + 1)) [.int .i64 (wrap64 ((wrap64 (((rd_T133 l5 x15_1).f1) - ((rd_T133 l5 x15_1).f0))) + 1))] (fun _ => True) (fun _ => False) rfl rfl ?aP (fun _ hk => hk.elim) ?aF ?aO ?aB ?aS ?aL ?_
                    (case aP => exact rfl)
                    (case aB => exact (by repeat (first | (with_reducible first | exact HB.out | apply below_alloc | apply pw_below_drewN | apply below_drew1 | refine below_set ?_ GE37001.out) | exact HB.out)))
                    (case aF => exact (fun _ _ => trivial))
                    (case aO => exact (by (with_reducible repeat (first | apply Kd.R_alloc | apply Kd.R_drewN | apply Kd.R_drew)); exact HO_14.out))
                    (case aS => exact (below_size (by repeat (first | (with_reducible first | exact HB.out | apply below_alloc | apply pw_below_drewN | apply below_drew1 | refine below_set ?_ GE37001.out) | exact HB.out))))
                    (case aL => have := LMc26.out; omega)
                    intro v37017 w29 ho hb hg hat
                    rw [← Ny37016.out] at ho
                    have n0_ := Aside0.mk (Kd.S_over' (by (with_reducible repeat (first | apply Kd.S_alloc | apply Kd.S_drewN | apply Kd.S_drew)); exact HO_13.out) (Kd.R_typed (by (with_reducible repeat (first | apply Kd.R_alloc | apply Kd.R_drewN | apply Kd.R_drew)); exact HO_14.out)) (by decide) hg)
                    have n1_ := Aside0.mk (blk_grown (g := gb37001) (o := .cells #[.slice A0_0 l0_0.length c0_0, .int .i64 a0_1, .int .i64 a0_2] 26 (0, 0)) (by (with_reducible repeat (first | refine blk_drewN ?_ _ | refine blk_drew ?_ | refine blk_alloc ?_ _)); exact BK37001.out) hg (Kd.R_ne HO_14.out BK37001.out (by decide)))
                    have n2_ := Aside0.mk (hb)
                    have n3_ := Aside0.mk (ho)
                    clear HO_13
                    clear BK37001
                    clear HB
                    clear HO_14
                    have HO_13 := n0_
                    have BK37001 := n1_
                    have HB := n2_
                    have HO37018 := n3_
                    clear n0_ n1_ n2_ n3_
                    clear ho hb hg hat
                    refine hK.out _ _ ⟨((HB.out.cell (World.block_lt_of_cell? w _ hw37014_0)).trans hw37014_0), ((HB.out.cell (World.block_lt_of_cell? w _ hw37014_1)).trans hw37014_1), ((HB.out.cell (World.block_lt_of_cell? w _ hw37015_0)).trans hw37015_0), ((HB.out.cell (World.block_lt_of_cell? w _ hw37015_1)).trans hw37015_1)⟩ (fun hHeld => ?_)
                    clear hK K
                    refine norm_ (a' := ?_) ?_ ?_
                    rotate_left
                    · show Act.put _ (some 75) _ = _
                      simp only [Act.put, List.setIfInBounds_toArray, List.set_cons_zero, List.set_cons_succ, i64_w, i32_w]
                      rfl
                    refine pure_ (i := 15) (N := some 14) (v := ?_) (a' := ?_) #[true, true, true, true, true, true, true, true, true, true, true, true, true, true, true, true] rfl rfl (any_of HT_.out (by kernel_rfl)) (fun _ _ _ h => h) (Or.inl ⟨by rfl, ?_⟩) ?_ ?_
                    rotate_left
                    · intro w'
                      go_simp
                      with_reducible rfl
                    rotate_left
                    · simp only [Act.put, List.setIfInBounds_toArray, List.set_cons_zero, List.set_cons_succ, i64_w, i32_w]
                      rfl
                    refine done_ (done_of HT_.out (by kernel_rfl)) ?_
                    try go_wp2
                    go_roundg k1
                    case measure => have := HK1.out; omega
                    case rel => exact ⟨(y37016), (wrap64 (x15_1 + 1)), (by first | rfl | (simp; done) | (simp [*]; done)), H', ⟨by have := HK1.out; omega⟩, ⟨by (with_reducible repeat (first | apply Kd.S_alloc | apply Kd.S_drewN | apply Kd.S_drew)); exact HO_13.out⟩, ⟨by (with_reducible repeat (first | apply Kd.R_alloc | apply Kd.R_drewN | apply Kd.R_drew)); exact HO37018.out⟩, ⟨by (with_reducible repeat (first | refine blk_drewN ?_ _ | refine blk_drew ?_ | refine blk_alloc ?_ _)); exact BK37001.out⟩, ⟨by repeat (first | (with_reducible first | exact HB.out | apply below_alloc | apply pw_below_drewN | apply below_drew1 | refine below_set ?_ GE37001.out) | exact HB.out)⟩⟩
                  · rw [if_neg c26] at H
                    exact absurd H (by simp)
              · replace c23 := Bool.eq_false_iff.mpr c23
                subst c23
                have H1 : (some y37002) = some r := by rw [if_neg (show ¬ (false = true) by decide)] at H; exact H
                clear H
                have H := H1
                clear H1
                obtain rfl := Option.some.inj H
                try go_wp2
                have n0_ := Aside0.mk (Kd.S_drew HO_13.out)
                have n1_ := Aside0.mk (Kd.R_drew HO_14.out)
                have n2_ := Aside0.mk (blk_drew BK37001.out)
                have n3_ := Aside0.mk (below_drew1 HB.out)
                clear HO_13
                clear HO_14
                clear BK37001
                clear HB
                have HO_13 := n0_
                have HO_14 := n1_
                have BK37001 := n2_
                have HB := n3_
                clear n0_ n1_ n2_ n3_
                have p37008 : 0 ≤ (x15_1 : Int) := of_decide_eq_true (by first | (with_reducible assumption) | assumption)
                have q37008 : x15_1 < (l5.length : Int) := of_decide_eq_true (by first | (with_reducible assumption) | assumption)
                obtain ⟨ad37008, e37008, hx37008_0, hx37008_1⟩ := at_T133 HR5.out x15_1 p37008 q37008
                have hw37008_1 := hx37008_1
                have hw37008_0 := hx37008_0
                cases e37008
                replace hx37008_0 := (HB.out.cell (World.block_lt_of_cell? w _ hx37008_0)).trans hx37008_0
                replace hx37008_1 := (HB.out.cell (World.block_lt_of_cell? w _ hx37008_1)).trans hx37008_1
                replace p37008 := eq_true p37008
                replace q37008 := eq_true q37008
                have p37010 : 0 ≤ (x15_1 : Int) := of_decide_eq_true (by first | (with_reducible assumption) | assumption)
                have q37010 : x15_1 < (l5.length : Int) := of_decide_eq_true (by first | (with_reducible assumption) | assumption)
                obtain ⟨ad37010, e37010, hx37010_0, hx37010_1⟩ := at_T133 HR5.out x15_1 p37010 q37010
                have hw37010_1 := hx37010_1
                have hw37010_0 := hx37010_0
                obtain rfl : ad37008 = ad37010 := (by injection e37010)
                replace hx37010_0 := (HB.out.cell (World.block_lt_of_cell? w _ hx37010_0)).trans hx37010_0
                replace hx37010_1 := (HB.out.cell (World.block_lt_of_cell? w _ hx37010_1)).trans hx37010_1
                replace p37010 := eq_true p37010
                replace q37010 := eq_true q37010
                refine start_ (n := 29) (S := fun w' => w'.cell? (ad37008.add ((x15_1).toNat * 2)) = some (.int .i64 ((rd_T133 l5 x15_1).f0)) ∧ w'.cell? ⟨(ad37008.add ((x15_1).toNat * 2)).block, (ad37008.add ((x15_1).toNat * 2)).off + 1, none⟩ = some (.int .i64 ((rd_T133 l5 x15_1).f1)) ∧ w'.cell? (ad37008.add ((x15_1).toNat * 2)) = some (.int .i64 ((rd_T133 l5 x15_1).f0)) ∧ w'.cell? ⟨(ad37008.add ((x15_1).toNat * 2)).block, (ad37008.add ((x15_1).toNat * 2)).off + 1, none⟩ = some (.int .i64 ((rd_T133 l5 x15_1).f1))) (ds := []) #[false, false, false, false, false, false, false, false, false, false, false, false, false, false, false, false, false, false, false, false, false, false, false, false, false, false, false, false, false] (by kernel_rfl) rfl rfl ⟨((HB.out.cell (World.block_lt_of_cell? w _ hw37008_0)).trans hw37008_0), ((HB.out.cell (World.block_lt_of_cell? w _ hw37008_1)).trans hw37008_1), ((HB.out.cell (World.block_lt_of_cell? w _ hw37010_0)).trans hw37010_0), ((HB.out.cell (World.block_lt_of_cell? w _ hw37010_1)).trans hw37010_1)⟩ (fun hHeld => ?_); refine with_tabW spec_Spread.tab8 spec_Spread.bits8 (fun HT_ HW_ => ?_)
                generalize wr.drew = w30 at HO_13 HO_14 BK37001 HB hx37008_0 hx37008_1 hx37010_0 hx37010_1 hHeld ⊢
                refine pure_ (i := 0) (N := some 31) (v := ?_) (a' := ?_) #[true, false, false, false, false, false, false, false, false, false, false, false, false, false, false, false, false, false, false, false, false, false, false, false, false, false, false, false, false] rfl rfl (any_of HT_.out (by kernel_rfl)) (fun _ _ _ h => h) (Or.inl ⟨by rfl, ?_⟩) ?_ ?_
                rotate_left
                · intro w'
                  go_simp
                  with_reducible rfl
                rotate_left
                · simp only [Act.put, List.setIfInBounds_toArray, List.set_cons_zero, List.set_cons_succ, i64_w, i32_w]
                  rfl
                refine pure_ (i := 1) (N := some 32) (v := ?_) (a' := ?_) #[true, true, false, false, false, false, false, false, false, false, false, false, false, false, false, false, false, false, false, false, false, false, false, false, false, false, false, false, false] rfl rfl (any_of HT_.out (by kernel_rfl)) (fun _ _ _ h => h) (Or.inl ⟨by rfl, ?_⟩) ?_ ?_
                rotate_left
                · intro w'
                  go_simp
                  with_reducible rfl
                rotate_left
                · simp only [Act.put, List.setIfInBounds_toArray, List.set_cons_zero, List.set_cons_succ, i64_w, i32_w]
                  rfl
                refine pure_ (i := 2) (N := some 33) (v := ?_) (a' := ?_) #[true, true, true, false, false, false, false, false, false, false, false, false, false, false, false, false, false, false, false, false, false, false, false, false, false, false, false, false, false] rfl rfl (any_of HT_.out (by kernel_rfl)) (fun _ _ _ h => h) (Or.inl ⟨by rfl, ?_⟩) ?_ ?_
                rotate_left
                · intro w'
                  go_simp
                  with_reducible rfl
                rotate_left
                · simp only [Act.put, List.setIfInBounds_toArray, List.set_cons_zero, List.set_cons_succ, i64_w, i32_w]
                  rfl
                refine pure_ (i := 3) (N := some 34) (v := ?_) (a' := ?_) #[true, true, true, true, false, false, false, false, false, false, false, false, false, false, false, false, false, false, false, false, false, false, false, false, false, false, false, false, false] rfl rfl (any_of HT_.out (by kernel_rfl)) (fun _ _ _ h => h) (Or.inl ⟨by rfl, ?_⟩) ?_ ?_
                rotate_left
                · intro w'
                  go_simp
                  with_reducible rfl
                rotate_left
                · simp only [Act.put, List.setIfInBounds_toArray, List.set_cons_zero, List.set_cons_succ, i64_w, i32_w]
                  rfl
                refine take_ (i := 4) (N := some 35) (v := ?_) (a' := ?_) #[true, true, true, true, true, false, false, false, false, false, false, false, false, false, false, false, false, false, false, false, false, false, false, false, false, false, false, false, false] rfl rfl (take_ofW HT_.out HW_.out (by kernel_rfl)) (fun _ _ _ h => h) (Or.inl ⟨by rfl, ?_⟩) hHeld ?_ ?_
                rotate_left
                · rintro w' ⟨s0, s1, s2, s3⟩
                  go_simp
                  with_reducible rfl
                rotate_left
                · simp only [Act.put, List.setIfInBounds_toArray, List.set_cons_zero, List.set_cons_succ, i64_w, i32_w]
                  rfl
                refine one_ (i := 5) (N := some 36) #[true, true, true, true, true, true, false, false, false, false, false, false, false, false, false, false, false, false, false, false, false, false, false, false, false, false, false, false, false] rfl rfl (one_of HT_.out (by kernel_rfl)) (by decide) (fun K hK => ?_)
                refine goes_ Try.func80 (by kernel_rfl) rfl #[.int .i64 ((rd_T133 l5 x15_1).f1)] (by rfl) rfl rfl (by (try simp only [List.map_toArray, List.map_cons, List.map_nil]); first | done | rfl | (simp only [List.length_drop, List.length_take]; rfl)) ?_
                with_reducible refine (spec_l2Day.calls ((rd_T133 l5 x15_1).f1) true _ A20.out).mono ?_
                rintro e w' ⟨rfl, ⟨nd, rfl⟩⟩
                refine ⟨_, rfl, ?_⟩
                refine hK.out _ _ ⟨((HB.out.cell (World.block_lt_of_cell? w _ hw37008_0)).trans hw37008_0), ((HB.out.cell (World.block_lt_of_cell? w _ hw37008_1)).trans hw37008_1), ((HB.out.cell (World.block_lt_of_cell? w _ hw37010_0)).trans hw37010_0), ((HB.out.cell (World.block_lt_of_cell? w _ hw37010_1)).trans hw37010_1)⟩ (fun hHeld => ?_)
                clear hK K
                refine norm_ (a' := ?_) ?_ ?_
                rotate_left
                · show Act.put _ (some 36) _ = _
                  simp only [Act.put, List.setIfInBounds_toArray, List.set_cons_zero, List.set_cons_succ, i64_w, i32_w]
                  rfl
                refine pure_ (i := 6) (N := some 37) (v := ?_) (a' := ?_) #[true, true, true, true, true, true, true, false, false, false, false, false, false, false, false, false, false, false, false, false, false, false, false, false, false, false, false, false, false] rfl rfl (any_of HT_.out (by kernel_rfl)) (fun _ _ _ h => h) (Or.inl ⟨by rfl, ?_⟩) ?_ ?_
                rotate_left
                · intro w'
                  go_simp
                  with_reducible rfl
                rotate_left
                · simp only [Act.put, List.setIfInBounds_toArray, List.set_cons_zero, List.set_cons_succ, i64_w, i32_w]
                  rfl
                refine pure_ (i := 7) (N := some 38) (v := ?_) (a' := ?_) #[true, true, true, true, true, true, true, true, false, false, false, false, false, false, false, false, false, false, false, false, false, false, false, false, false, false, false, false, false] rfl rfl (any_of HT_.out (by kernel_rfl)) (fun _ _ _ h => h) (Or.inl ⟨by rfl, ?_⟩) ?_ ?_
                rotate_left
                · intro w'
                  go_simp
                  with_reducible rfl
                rotate_left
                · simp only [Act.put, List.setIfInBounds_toArray, List.set_cons_zero, List.set_cons_succ, i64_w, i32_w]
                  rfl
                refine pure_ (i := 8) (N := some 39) (v := ?_) (a' := ?_) #[true, true, true, true, true, true, true, true, true, false, false, false, false, false, false, false, false, false, false, false, false, false, false, false, false, false, false, false, false] rfl rfl (any_of HT_.out (by kernel_rfl)) (fun _ _ _ h => h) (Or.inl ⟨by rfl, ?_⟩) ?_ ?_
                rotate_left
                · intro w'
                  go_simp
                  with_reducible rfl
                rotate_left
                · simp only [Act.put, List.setIfInBounds_toArray, List.set_cons_zero, List.set_cons_succ, i64_w, i32_w]
                  rfl
                refine pure_ (i := 9) (N := some 40) (v := ?_) (a' := ?_) #[true, true, true, true, true, true, true, true, true, true, false, false, false, false, false, false, false, false, false, false, false, false, false, false, false, false, false, false, false] rfl rfl (any_of HT_.out (by kernel_rfl)) (fun _ _ _ h => h) (Or.inl ⟨by rfl, ?_⟩) ?_ ?_
                rotate_left
                · intro w'
                  go_simp
                  with_reducible rfl
                rotate_left
                · simp only [Act.put, List.setIfInBounds_toArray, List.set_cons_zero, List.set_cons_succ, i64_w, i32_w]
                  rfl
                refine pure_ (i := 10) (N := some 41) (v := ?_) (a' := ?_) #[true, true, true, true, true, true, true, true, true, true, true, false, false, false, false, false, false, false, false, false, false, false, false, false, false, false, false, false, false] rfl rfl (any_of HT_.out (by kernel_rfl)) (fun _ _ _ h => h) (Or.inl ⟨by rfl, ?_⟩) ?_ ?_
                rotate_left
                · intro w'
                  go_simp
                  with_reducible rfl
                rotate_left
                · simp only [Act.put, List.setIfInBounds_toArray, List.set_cons_zero, List.set_cons_succ, i64_w, i32_w]
                  rfl
                refine pure_ (i := 11) (N := some 42) (v := ?_) (a' := ?_) #[true, true, true, true, true, true, true, true, true, true, true, true, false, false, false, false, false, false, false, false, false, false, false, false, false, false, false, false, false] rfl rfl (any_of HT_.out (by kernel_rfl)) (fun _ _ _ h => h) (Or.inl ⟨by rfl, ?_⟩) ?_ ?_
                rotate_left
                · intro w'
                  go_simp
                  with_reducible rfl
                rotate_left
                · simp only [Act.put, List.setIfInBounds_toArray, List.set_cons_zero, List.set_cons_succ, i64_w, i32_w]
                  rfl
                refine take_ (i := 12) (N := some 43) (v := ?_) (a' := ?_) #[true, true, true, true, true, true, true, true, true, true, true, true, true, false, false, false, false, false, false, false, false, false, false, false, false, false, false, false, false] rfl rfl (take_ofW HT_.out HW_.out (by kernel_rfl)) (fun _ _ _ h => h) (Or.inl ⟨by rfl, ?_⟩) hHeld ?_ ?_
                rotate_left
                · rintro w' ⟨s0, s1, s2, s3⟩
                  go_simp
                  with_reducible rfl
                rotate_left
                · simp only [Act.put, List.setIfInBounds_toArray, List.set_cons_zero, List.set_cons_succ, i64_w, i32_w]
                  rfl
                refine one_ (i := 13) (N := some 44) #[true, true, true, true, true, true, true, true, true, true, true, true, true, true, false, false, false, false, false, false, false, false, false, false, false, false, false, false, false] rfl rfl (one_of HT_.out (by kernel_rfl)) (by decide) (fun K hK => ?_)
                refine goes_ Try.func79 (by kernel_rfl) rfl #[.int .i64 ((rd_T133 l5 x15_1).f0), .int .i64 (-10000000), .int .i64 40000] (by rfl) rfl rfl (by (try simp only [List.map_toArray, List.map_cons, List.map_nil]); first | done | rfl | (simp only [List.length_drop, List.length_take]; rfl)) ?_
                with_reducible refine (spec_l1In.calls ((rd_T133 l5 x15_1).f0) (-10000000) 40000 false _ A22.out).mono ?_
                rintro e w' ⟨rfl, ⟨nd, rfl⟩⟩
                refine ⟨_, rfl, ?_⟩
                refine hK.out _ _ ⟨((HB.out.cell (World.block_lt_of_cell? w _ hw37008_0)).trans hw37008_0), ((HB.out.cell (World.block_lt_of_cell? w _ hw37008_1)).trans hw37008_1), ((HB.out.cell (World.block_lt_of_cell? w _ hw37010_0)).trans hw37010_0), ((HB.out.cell (World.block_lt_of_cell? w _ hw37010_1)).trans hw37010_1)⟩ (fun hHeld => ?_)
                clear hK K
                refine norm_ (a' := ?_) ?_ ?_
                rotate_left
                · show Act.put _ (some 44) _ = _
                  simp only [Act.put, List.setIfInBounds_toArray, List.set_cons_zero, List.set_cons_succ, i64_w, i32_w]
                  rfl
                refine pure_ (i := 14) (N := some 45) (v := ?_) (a' := ?_) #[true, true, true, true, true, true, true, true, true, true, true, true, true, true, true, false, false, false, false, false, false, false, false, false, false, false, false, false, false] rfl rfl (any_of HT_.out (by kernel_rfl)) (fun _ _ _ h => h) (Or.inl ⟨by rfl, ?_⟩) ?_ ?_
                rotate_left
                · intro w'
                  go_simp
                  with_reducible rfl
                rotate_left
                · simp only [Act.put, List.setIfInBounds_toArray, List.set_cons_zero, List.set_cons_succ, i64_w, i32_w]
                  rfl
                refine pure_ (i := 15) (N := some 46) (v := ?_) (a' := ?_) #[true, true, true, true, true, true, true, true, true, true, true, true, true, true, true, true, false, false, false, false, false, false, false, false, false, false, false, false, false] rfl rfl (any_of HT_.out (by kernel_rfl)) (fun _ _ _ h => h) (Or.inl ⟨by rfl, ?_⟩) ?_ ?_
                rotate_left
                · intro w'
                  go_simp
                  with_reducible rfl
                rotate_left
                · simp only [Act.put, List.setIfInBounds_toArray, List.set_cons_zero, List.set_cons_succ, i64_w, i32_w]
                  rfl
                refine pure_ (i := 16) (N := some 47) (v := ?_) (a' := ?_) #[true, true, true, true, true, true, true, true, true, true, true, true, true, true, true, true, true, false, false, false, false, false, false, false, false, false, false, false, false] rfl rfl (any_of HT_.out (by kernel_rfl)) (fun _ _ _ h => h) (Or.inl ⟨by rfl, ?_⟩) ?_ ?_
                rotate_left
                · intro w'
                  go_simp
                  with_reducible rfl
                rotate_left
                · simp only [Act.put, List.setIfInBounds_toArray, List.set_cons_zero, List.set_cons_succ, i64_w, i32_w]
                  rfl
                refine pure_ (i := 17) (N := some 48) (v := undef) (a' := ?_) #[true, true, true, true, true, true, true, true, true, true, true, true, true, true, true, true, true, true, false, false, false, false, false, false, false, false, false, false, false] rfl rfl (any_of HT_.out (by kernel_rfl)) (fun _ _ _ h => h) (Or.inr ⟨by rfl, rfl⟩) ?_ ?_
                rotate_left
                · simp only [Act.put, List.setIfInBounds_toArray, List.set_cons_zero, List.set_cons_succ, i64_w, i32_w]
                  rfl
                refine pure_ (i := 18) (N := some 49) (v := undef) (a' := ?_) #[true, true, true, true, true, true, true, true, true, true, true, true, true, true, true, true, true, true, true, false, false, false, false, false, false, false, false, false, false] rfl rfl (any_of HT_.out (by kernel_rfl)) (fun _ _ _ h => h) (Or.inr ⟨by rfl, rfl⟩) ?_ ?_
                rotate_left
                · simp only [Act.put, List.setIfInBounds_toArray, List.set_cons_zero, List.set_cons_succ, i64_w, i32_w]
                  rfl
                refine pure_ (i := 19) (N := some 50) (v := undef) (a' := ?_) #[true, true, true, true, true, true, true, true, true, true, true, true, true, true, true, true, true, true, true, true, false, false, false, false, false, false, false, false, false] rfl rfl (any_of HT_.out (by kernel_rfl)) (fun _ _ _ h => h) (Or.inr ⟨by rfl, rfl⟩) ?_ ?_
                rotate_left
                · simp only [Act.put, List.setIfInBounds_toArray, List.set_cons_zero, List.set_cons_succ, i64_w, i32_w]
                  rfl
                refine pure_ (i := 20) (N := some 51) (v := undef) (a' := ?_) #[true, true, true, true, true, true, true, true, true, true, true, true, true, true, true, true, true, true, true, true, true, false, false, false, false, false, false, false, false] rfl rfl (any_of HT_.out (by kernel_rfl)) (fun _ _ _ h => h) (Or.inr ⟨by rfl, rfl⟩) ?_ ?_
                rotate_left
                · simp only [Act.put, List.setIfInBounds_toArray, List.set_cons_zero, List.set_cons_succ, i64_w, i32_w]
                  rfl
                refine pure_ (i := 21) (N := some 52) (v := undef) (a' := ?_) #[true, true, true, true, true, true, true, true, true, true, true, true, true, true, true, true, true, true, true, true, true, true, false, false, false, false, false, false, false] rfl rfl (any_of HT_.out (by kernel_rfl)) (fun _ _ _ h => h) (Or.inr ⟨by rfl, rfl⟩) ?_ ?_
                rotate_left
                · simp only [Act.put, List.setIfInBounds_toArray, List.set_cons_zero, List.set_cons_succ, i64_w, i32_w]
                  rfl
                refine pure_ (i := 22) (N := some 53) (v := undef) (a' := ?_) #[true, true, true, true, true, true, true, true, true, true, true, true, true, true, true, true, true, true, true, true, true, true, true, false, false, false, false, false, false] rfl rfl (any_of HT_.out (by kernel_rfl)) (fun _ _ _ h => h) (Or.inr ⟨by rfl, rfl⟩) ?_ ?_
                rotate_left
                · simp only [Act.put, List.setIfInBounds_toArray, List.set_cons_zero, List.set_cons_succ, i64_w, i32_w]
                  rfl
                refine pure_ (i := 23) (N := some 54) (v := undef) (a' := ?_) #[true, true, true, true, true, true, true, true, true, true, true, true, true, true, true, true, true, true, true, true, true, true, true, true, false, false, false, false, false] rfl rfl (any_of HT_.out (by kernel_rfl)) (fun _ _ _ h => h) (Or.inr ⟨by rfl, rfl⟩) ?_ ?_
                rotate_left
                · simp only [Act.put, List.setIfInBounds_toArray, List.set_cons_zero, List.set_cons_succ, i64_w, i32_w]
                  rfl
                refine pure_ (i := 24) (N := some 55) (v := undef) (a' := ?_) #[true, true, true, true, true, true, true, true, true, true, true, true, true, true, true, true, true, true, true, true, true, true, true, true, true, false, false, false, false] rfl rfl (any_of HT_.out (by kernel_rfl)) (fun _ _ _ h => h) (Or.inr ⟨by rfl, rfl⟩) ?_ ?_
                rotate_left
                · simp only [Act.put, List.setIfInBounds_toArray, List.set_cons_zero, List.set_cons_succ, i64_w, i32_w]
                  rfl
                refine pure_ (i := 25) (N := some 56) (v := undef) (a' := ?_) #[true, true, true, true, true, true, true, true, true, true, true, true, true, true, true, true, true, true, true, true, true, true, true, true, true, true, false, false, false] rfl rfl (any_of HT_.out (by kernel_rfl)) (fun _ _ _ h => h) (Or.inr ⟨by rfl, rfl⟩) ?_ ?_
                rotate_left
                · simp only [Act.put, List.setIfInBounds_toArray, List.set_cons_zero, List.set_cons_succ, i64_w, i32_w]
                  rfl
                refine pure_ (i := 26) (N := some 57) (v := undef) (a' := ?_) #[true, true, true, true, true, true, true, true, true, true, true, true, true, true, true, true, true, true, true, true, true, true, true, true, true, true, true, false, false] rfl rfl (any_of HT_.out (by kernel_rfl)) (fun _ _ _ h => h) (Or.inr ⟨by rfl, rfl⟩) ?_ ?_
                rotate_left
                · simp only [Act.put, List.setIfInBounds_toArray, List.set_cons_zero, List.set_cons_succ, i64_w, i32_w]
                  rfl
                refine pure_ (i := 27) (N := some 58) (v := undef) (a' := ?_) #[true, true, true, true, true, true, true, true, true, true, true, true, true, true, true, true, true, true, true, true, true, true, true, true, true, true, true, true, false] rfl rfl (any_of HT_.out (by kernel_rfl)) (fun _ _ _ h => h) (Or.inr ⟨by rfl, rfl⟩) ?_ ?_
                rotate_left
                · simp only [Act.put, List.setIfInBounds_toArray, List.set_cons_zero, List.set_cons_succ, i64_w, i32_w]
                  rfl
                refine pure_ (i := 28) (N := some 59) (v := ?_) (a' := ?_) #[true, true, true, true, true, true, true, true, true, true, true, true, true, true, true, true, true, true, true, true, true, true, true, true, true, true, true, true, true] rfl rfl (any_of HT_.out (by kernel_rfl)) (fun _ _ _ h => h) (Or.inl ⟨by rfl, ?_⟩) ?_ ?_
                rotate_left
                · intro w'
                  go_simp
                  with_reducible rfl
                rotate_left
                · simp only [Act.put, List.setIfInBounds_toArray, List.set_cons_zero, List.set_cons_succ, i64_w, i32_w]
                  rfl
                refine done_ (done_of HT_.out (by kernel_rfl)) ?_
                try go_wp2
                go_ret
                exact ⟨_, by first | rfl | (simp [errW_none, errW_some] <;> rfl) | (simp [*, errW_none, errW_some] <;> rfl), by (with_reducible repeat (first | apply Kd.S_alloc | apply Kd.S_drewN | apply Kd.S_drew)); exact HO_13.out, by repeat (first | (with_reducible first | exact HB.out | apply below_alloc | apply pw_below_drewN | apply below_drew1 | refine below_set ?_ GE37001.out) | exact HB.out)⟩
            · replace c21 := Bool.eq_false_iff.mpr c21
              subst c21
              have H1 : (some y37002) = some r := by rw [if_neg (show ¬ (false = true) by decide)] at H; exact H
              clear H
              have H := H1
              clear H1
              obtain rfl := Option.some.inj H
              try go_wp2
              have n0_ := Aside0.mk (Kd.S_drew HO_13.out)
              have n1_ := Aside0.mk (Kd.R_drew HO_14.out)
              have n2_ := Aside0.mk (blk_drew BK37001.out)
              have n3_ := Aside0.mk (below_drew1 HB.out)
              clear HO_13
              clear HO_14
              clear BK37001
              clear HB
              have HO_13 := n0_
              have HO_14 := n1_
              have BK37001 := n2_
              have HB := n3_
              clear n0_ n1_ n2_ n3_
              have p37008 : 0 ≤ (x15_1 : Int) := of_decide_eq_true (by first | (with_reducible assumption) | assumption)
              have q37008 : x15_1 < (l5.length : Int) := of_decide_eq_true (by first | (with_reducible assumption) | assumption)
              obtain ⟨ad37008, e37008, hx37008_0, hx37008_1⟩ := at_T133 HR5.out x15_1 p37008 q37008
              have hw37008_1 := hx37008_1
              have hw37008_0 := hx37008_0
              cases e37008
              replace hx37008_0 := (HB.out.cell (World.block_lt_of_cell? w _ hx37008_0)).trans hx37008_0
              replace hx37008_1 := (HB.out.cell (World.block_lt_of_cell? w _ hx37008_1)).trans hx37008_1
              replace p37008 := eq_true p37008
              replace q37008 := eq_true q37008
              refine start_ (n := 29) (S := fun w' => w'.cell? (ad37008.add ((x15_1).toNat * 2)) = some (.int .i64 ((rd_T133 l5 x15_1).f0)) ∧ w'.cell? ⟨(ad37008.add ((x15_1).toNat * 2)).block, (ad37008.add ((x15_1).toNat * 2)).off + 1, none⟩ = some (.int .i64 ((rd_T133 l5 x15_1).f1))) (ds := []) #[false, false, false, false, false, false, false, false, false, false, false, false, false, false, false, false, false, false, false, false, false, false, false, false, false, false, false, false, false] (by kernel_rfl) rfl rfl ⟨((HB.out.cell (World.block_lt_of_cell? w _ hw37008_0)).trans hw37008_0), ((HB.out.cell (World.block_lt_of_cell? w _ hw37008_1)).trans hw37008_1)⟩ (fun hHeld => ?_); refine with_tabW spec_Spread.tab8 spec_Spread.bits8 (fun HT_ HW_ => ?_)
              generalize wr.drew = w31 at HO_13 HO_14 BK37001 HB hx37008_0 hx37008_1 hHeld ⊢
              refine pure_ (i := 0) (N := some 31) (v := ?_) (a' := ?_) #[true, false, false, false, false, false, false, false, false, false, false, false, false, false, false, false, false, false, false, false, false, false, false, false, false, false, false, false, false] rfl rfl (any_of HT_.out (by kernel_rfl)) (fun _ _ _ h => h) (Or.inl ⟨by rfl, ?_⟩) ?_ ?_
              rotate_left
              · intro w'
                go_simp
                with_reducible rfl
              rotate_left
              · simp only [Act.put, List.setIfInBounds_toArray, List.set_cons_zero, List.set_cons_succ, i64_w, i32_w]
                rfl
              refine pure_ (i := 1) (N := some 32) (v := ?_) (a' := ?_) #[true, true, false, false, false, false, false, false, false, false, false, false, false, false, false, false, false, false, false, false, false, false, false, false, false, false, false, false, false] rfl rfl (any_of HT_.out (by kernel_rfl)) (fun _ _ _ h => h) (Or.inl ⟨by rfl, ?_⟩) ?_ ?_
              rotate_left
              · intro w'
                go_simp
                with_reducible rfl
              rotate_left
              · simp only [Act.put, List.setIfInBounds_toArray, List.set_cons_zero, List.set_cons_succ, i64_w, i32_w]
                rfl
              refine pure_ (i := 2) (N := some 33) (v := ?_) (a' := ?_) #[true, true, true, false, false, false, false, false, false, false, false, false, false, false, false, false, false, false, false, false, false, false, false, false, false, false, false, false, false] rfl rfl (any_of HT_.out (by kernel_rfl)) (fun _ _ _ h => h) (Or.inl ⟨by rfl, ?_⟩) ?_ ?_
              rotate_left
              · intro w'
                go_simp
                with_reducible rfl
              rotate_left
              · simp only [Act.put, List.setIfInBounds_toArray, List.set_cons_zero, List.set_cons_succ, i64_w, i32_w]
                rfl
              refine pure_ (i := 3) (N := some 34) (v := ?_) (a' := ?_) #[true, true, true, true, false, false, false, false, false, false, false, false, false, false, false, false, false, false, false, false, false, false, false, false, false, false, false, false, false] rfl rfl (any_of HT_.out (by kernel_rfl)) (fun _ _ _ h => h) (Or.inl ⟨by rfl, ?_⟩) ?_ ?_
              rotate_left
              · intro w'
                go_simp
                with_reducible rfl
              rotate_left
              · simp only [Act.put, List.setIfInBounds_toArray, List.set_cons_zero, List.set_cons_succ, i64_w, i32_w]
                rfl
              refine take_ (i := 4) (N := some 35) (v := ?_) (a' := ?_) #[true, true, true, true, true, false, false, false, false, false, false, false, false, false, false, false, false, false, false, false, false, false, false, false, false, false, false, false, false] rfl rfl (take_ofW HT_.out HW_.out (by kernel_rfl)) (fun _ _ _ h => h) (Or.inl ⟨by rfl, ?_⟩) hHeld ?_ ?_
              rotate_left
              · rintro w' ⟨s0, s1⟩
                go_simp
                with_reducible rfl
              rotate_left
              · simp only [Act.put, List.setIfInBounds_toArray, List.set_cons_zero, List.set_cons_succ, i64_w, i32_w]
                rfl
              refine one_ (i := 5) (N := some 36) #[true, true, true, true, true, true, false, false, false, false, false, false, false, false, false, false, false, false, false, false, false, false, false, false, false, false, false, false, false] rfl rfl (one_of HT_.out (by kernel_rfl)) (by decide) (fun K hK => ?_)
              refine goes_ Try.func80 (by kernel_rfl) rfl #[.int .i64 ((rd_T133 l5 x15_1).f1)] (by rfl) rfl rfl (by (try simp only [List.map_toArray, List.map_cons, List.map_nil]); first | done | rfl | (simp only [List.length_drop, List.length_take]; rfl)) ?_
              with_reducible refine (spec_l2Day.calls ((rd_T133 l5 x15_1).f1) false _ A20.out).mono ?_
              rintro e w' ⟨rfl, ⟨nd, rfl⟩⟩
              refine ⟨_, rfl, ?_⟩
              refine hK.out _ _ ⟨((HB.out.cell (World.block_lt_of_cell? w _ hw37008_0)).trans hw37008_0), ((HB.out.cell (World.block_lt_of_cell? w _ hw37008_1)).trans hw37008_1)⟩ (fun hHeld => ?_)
              clear hK K
              refine norm_ (a' := ?_) ?_ ?_
              rotate_left
              · show Act.put _ (some 36) _ = _
                simp only [Act.put, List.setIfInBounds_toArray, List.set_cons_zero, List.set_cons_succ, i64_w, i32_w]
                rfl
              refine pure_ (i := 6) (N := some 37) (v := ?_) (a' := ?_) #[true, true, true, true, true, true, true, false, false, false, false, false, false, false, false, false, false, false, false, false, false, false, false, false, false, false, false, false, false] rfl rfl (any_of HT_.out (by kernel_rfl)) (fun _ _ _ h => h) (Or.inl ⟨by rfl, ?_⟩) ?_ ?_
              rotate_left
              · intro w'
                go_simp
                with_reducible rfl
              rotate_left
              · simp only [Act.put, List.setIfInBounds_toArray, List.set_cons_zero, List.set_cons_succ, i64_w, i32_w]
                rfl
              refine pure_ (i := 7) (N := some 38) (v := ?_) (a' := ?_) #[true, true, true, true, true, true, true, true, false, false, false, false, false, false, false, false, false, false, false, false, false, false, false, false, false, false, false, false, false] rfl rfl (any_of HT_.out (by kernel_rfl)) (fun _ _ _ h => h) (Or.inl ⟨by rfl, ?_⟩) ?_ ?_
              rotate_left
              · intro w'
                go_simp
                with_reducible rfl
              rotate_left
              · simp only [Act.put, List.setIfInBounds_toArray, List.set_cons_zero, List.set_cons_succ, i64_w, i32_w]
                rfl
              refine pure_ (i := 8) (N := some 39) (v := undef) (a' := ?_) #[true, true, true, true, true, true, true, true, true, false, false, false, false, false, false, false, false, false, false, false, false, false, false, false, false, false, false, false, false] rfl rfl (any_of HT_.out (by kernel_rfl)) (fun _ _ _ h => h) (Or.inr ⟨by rfl, rfl⟩) ?_ ?_
              rotate_left
              · simp only [Act.put, List.setIfInBounds_toArray, List.set_cons_zero, List.set_cons_succ, i64_w, i32_w]
                rfl
              refine pure_ (i := 9) (N := some 40) (v := undef) (a' := ?_) #[true, true, true, true, true, true, true, true, true, true, false, false, false, false, false, false, false, false, false, false, false, false, false, false, false, false, false, false, false] rfl rfl (any_of HT_.out (by kernel_rfl)) (fun _ _ _ h => h) (Or.inr ⟨by rfl, rfl⟩) ?_ ?_
              rotate_left
              · simp only [Act.put, List.setIfInBounds_toArray, List.set_cons_zero, List.set_cons_succ, i64_w, i32_w]
                rfl
              refine pure_ (i := 10) (N := some 41) (v := undef) (a' := ?_) #[true, true, true, true, true, true, true, true, true, true, true, false, false, false, false, false, false, false, false, false, false, false, false, false, false, false, false, false, false] rfl rfl (any_of HT_.out (by kernel_rfl)) (fun _ _ _ h => h) (Or.inr ⟨by rfl, rfl⟩) ?_ ?_
              rotate_left
              · simp only [Act.put, List.setIfInBounds_toArray, List.set_cons_zero, List.set_cons_succ, i64_w, i32_w]
                rfl
              refine pure_ (i := 11) (N := some 42) (v := undef) (a' := ?_) #[true, true, true, true, true, true, true, true, true, true, true, true, false, false, false, false, false, false, false, false, false, false, false, false, false, false, false, false, false] rfl rfl (any_of HT_.out (by kernel_rfl)) (fun _ _ _ h => h) (Or.inr ⟨by rfl, rfl⟩) ?_ ?_
              rotate_left
              · simp only [Act.put, List.setIfInBounds_toArray, List.set_cons_zero, List.set_cons_succ, i64_w, i32_w]
                rfl
              refine pure_ (i := 12) (N := some 43) (v := undef) (a' := ?_) #[true, true, true, true, true, true, true, true, true, true, true, true, true, false, false, false, false, false, false, false, false, false, false, false, false, false, false, false, false] rfl rfl (any_of HT_.out (by kernel_rfl)) (fun _ _ _ h => h) (Or.inr ⟨by rfl, rfl⟩) ?_ ?_
              rotate_left
              · simp only [Act.put, List.setIfInBounds_toArray, List.set_cons_zero, List.set_cons_succ, i64_w, i32_w]
                rfl
              refine pure_ (i := 13) (N := some 44) (v := undef) (a' := ?_) #[true, true, true, true, true, true, true, true, true, true, true, true, true, true, false, false, false, false, false, false, false, false, false, false, false, false, false, false, false] rfl rfl (any_of HT_.out (by kernel_rfl)) (fun _ _ _ h => h) (Or.inr ⟨by rfl, rfl⟩) ?_ ?_
              rotate_left
              · simp only [Act.put, List.setIfInBounds_toArray, List.set_cons_zero, List.set_cons_succ, i64_w, i32_w]
                rfl
              refine pure_ (i := 14) (N := some 45) (v := undef) (a' := ?_) #[true, true, true, true, true, true, true, true, true, true, true, true, true, true, true, false, false, false, false, false, false, false, false, false, false, false, false, false, false] rfl rfl (any_of HT_.out (by kernel_rfl)) (fun _ _ _ h => h) (Or.inr ⟨by rfl, rfl⟩) ?_ ?_
              rotate_left
              · simp only [Act.put, List.setIfInBounds_toArray, List.set_cons_zero, List.set_cons_succ, i64_w, i32_w]
                rfl
              refine pure_ (i := 15) (N := some 46) (v := ?_) (a' := ?_) #[true, true, true, true, true, true, true, true, true, true, true, true, true, true, true, true, false, false, false, false, false, false, false, false, false, false, false, false, false] rfl rfl (any_of HT_.out (by kernel_rfl)) (fun _ _ _ h => h) (Or.inl ⟨by rfl, ?_⟩) ?_ ?_
              rotate_left
              · intro w'
                go_simp
                with_reducible rfl
              rotate_left
              · simp only [Act.put, List.setIfInBounds_toArray, List.set_cons_zero, List.set_cons_succ, i64_w, i32_w]
                rfl
              refine pure_ (i := 16) (N := some 47) (v := ?_) (a' := ?_) #[true, true, true, true, true, true, true, true, true, true, true, true, true, true, true, true, true, false, false, false, false, false, false, false, false, false, false, false, false] rfl rfl (any_of HT_.out (by kernel_rfl)) (fun _ _ _ h => h) (Or.inl ⟨by rfl, ?_⟩) ?_ ?_
              rotate_left
              · intro w'
                go_simp
                with_reducible rfl
              rotate_left
              · simp only [Act.put, List.setIfInBounds_toArray, List.set_cons_zero, List.set_cons_succ, i64_w, i32_w]
                rfl
              refine pure_ (i := 17) (N := some 48) (v := undef) (a' := ?_) #[true, true, true, true, true, true, true, true, true, true, true, true, true, true, true, true, true, true, false, false, false, false, false, false, false, false, false, false, false] rfl rfl (any_of HT_.out (by kernel_rfl)) (fun _ _ _ h => h) (Or.inr ⟨by rfl, rfl⟩) ?_ ?_
              rotate_left
              · simp only [Act.put, List.setIfInBounds_toArray, List.set_cons_zero, List.set_cons_succ, i64_w, i32_w]
                rfl
              refine pure_ (i := 18) (N := some 49) (v := undef) (a' := ?_) #[true, true, true, true, true, true, true, true, true, true, true, true, true, true, true, true, true, true, true, false, false, false, false, false, false, false, false, false, false] rfl rfl (any_of HT_.out (by kernel_rfl)) (fun _ _ _ h => h) (Or.inr ⟨by rfl, rfl⟩) ?_ ?_
              rotate_left
              · simp only [Act.put, List.setIfInBounds_toArray, List.set_cons_zero, List.set_cons_succ, i64_w, i32_w]
                rfl
              refine pure_ (i := 19) (N := some 50) (v := undef) (a' := ?_) #[true, true, true, true, true, true, true, true, true, true, true, true, true, true, true, true, true, true, true, true, false, false, false, false, false, false, false, false, false] rfl rfl (any_of HT_.out (by kernel_rfl)) (fun _ _ _ h => h) (Or.inr ⟨by rfl, rfl⟩) ?_ ?_
              rotate_left
              · simp only [Act.put, List.setIfInBounds_toArray, List.set_cons_zero, List.set_cons_succ, i64_w, i32_w]
                rfl
              refine pure_ (i := 20) (N := some 51) (v := undef) (a' := ?_) #[true, true, true, true, true, true, true, true, true, true, true, true, true, true, true, true, true, true, true, true, true, false, false, false, false, false, false, false, false] rfl rfl (any_of HT_.out (by kernel_rfl)) (fun _ _ _ h => h) (Or.inr ⟨by rfl, rfl⟩) ?_ ?_
              rotate_left
              · simp only [Act.put, List.setIfInBounds_toArray, List.set_cons_zero, List.set_cons_succ, i64_w, i32_w]
                rfl
              refine pure_ (i := 21) (N := some 52) (v := undef) (a' := ?_) #[true, true, true, true, true, true, true, true, true, true, true, true, true, true, true, true, true, true, true, true, true, true, false, false, false, false, false, false, false] rfl rfl (any_of HT_.out (by kernel_rfl)) (fun _ _ _ h => h) (Or.inr ⟨by rfl, rfl⟩) ?_ ?_
              rotate_left
              · simp only [Act.put, List.setIfInBounds_toArray, List.set_cons_zero, List.set_cons_succ, i64_w, i32_w]
                rfl
              refine pure_ (i := 22) (N := some 53) (v := undef) (a' := ?_) #[true, true, true, true, true, true, true, true, true, true, true, true, true, true, true, true, true, true, true, true, true, true, true, false, false, false, false, false, false] rfl rfl (any_of HT_.out (by kernel_rfl)) (fun _ _ _ h => h) (Or.inr ⟨by rfl, rfl⟩) ?_ ?_
              rotate_left
              · simp only [Act.put, List.setIfInBounds_toArray, List.set_cons_zero, List.set_cons_succ, i64_w, i32_w]
                rfl
              refine pure_ (i := 23) (N := some 54) (v := undef) (a' := ?_) #[true, true, true, true, true, true, true, true, true, true, true, true, true, true, true, true, true, true, true, true, true, true, true, true, false, false, false, false, false] rfl rfl (any_of HT_.out (by kernel_rfl)) (fun _ _ _ h => h) (Or.inr ⟨by rfl, rfl⟩) ?_ ?_
              rotate_left
              · simp only [Act.put, List.setIfInBounds_toArray, List.set_cons_zero, List.set_cons_succ, i64_w, i32_w]
                rfl
              refine pure_ (i := 24) (N := some 55) (v := undef) (a' := ?_) #[true, true, true, true, true, true, true, true, true, true, true, true, true, true, true, true, true, true, true, true, true, true, true, true, true, false, false, false, false] rfl rfl (any_of HT_.out (by kernel_rfl)) (fun _ _ _ h => h) (Or.inr ⟨by rfl, rfl⟩) ?_ ?_
              rotate_left
              · simp only [Act.put, List.setIfInBounds_toArray, List.set_cons_zero, List.set_cons_succ, i64_w, i32_w]
                rfl
              refine pure_ (i := 25) (N := some 56) (v := undef) (a' := ?_) #[true, true, true, true, true, true, true, true, true, true, true, true, true, true, true, true, true, true, true, true, true, true, true, true, true, true, false, false, false] rfl rfl (any_of HT_.out (by kernel_rfl)) (fun _ _ _ h => h) (Or.inr ⟨by rfl, rfl⟩) ?_ ?_
              rotate_left
              · simp only [Act.put, List.setIfInBounds_toArray, List.set_cons_zero, List.set_cons_succ, i64_w, i32_w]
                rfl
              refine pure_ (i := 26) (N := some 57) (v := undef) (a' := ?_) #[true, true, true, true, true, true, true, true, true, true, true, true, true, true, true, true, true, true, true, true, true, true, true, true, true, true, true, false, false] rfl rfl (any_of HT_.out (by kernel_rfl)) (fun _ _ _ h => h) (Or.inr ⟨by rfl, rfl⟩) ?_ ?_
              rotate_left
              · simp only [Act.put, List.setIfInBounds_toArray, List.set_cons_zero, List.set_cons_succ, i64_w, i32_w]
                rfl
              refine pure_ (i := 27) (N := some 58) (v := undef) (a' := ?_) #[true, true, true, true, true, true, true, true, true, true, true, true, true, true, true, true, true, true, true, true, true, true, true, true, true, true, true, true, false] rfl rfl (any_of HT_.out (by kernel_rfl)) (fun _ _ _ h => h) (Or.inr ⟨by rfl, rfl⟩) ?_ ?_
              rotate_left
              · simp only [Act.put, List.setIfInBounds_toArray, List.set_cons_zero, List.set_cons_succ, i64_w, i32_w]
                rfl
              refine pure_ (i := 28) (N := some 59) (v := ?_) (a' := ?_) #[true, true, true, true, true, true, true, true, true, true, true, true, true, true, true, true, true, true, true, true, true, true, true, true, true, true, true, true, true] rfl rfl (any_of HT_.out (by kernel_rfl)) (fun _ _ _ h => h) (Or.inl ⟨by rfl, ?_⟩) ?_ ?_
              rotate_left
              · intro w'
                go_simp
                with_reducible rfl
              rotate_left
              · simp only [Act.put, List.setIfInBounds_toArray, List.set_cons_zero, List.set_cons_succ, i64_w, i32_w]
                rfl
              refine done_ (done_of HT_.out (by kernel_rfl)) ?_
              try go_wp2
              go_ret
              exact ⟨_, by first | rfl | (simp [errW_none, errW_some] <;> rfl) | (simp [*, errW_none, errW_some] <;> rfl), by (with_reducible repeat (first | apply Kd.S_alloc | apply Kd.S_drewN | apply Kd.S_drew)); exact HO_13.out, by repeat (first | (with_reducible first | exact HB.out | apply below_alloc | apply pw_below_drewN | apply below_drew1 | refine below_set ?_ GE37001.out) | exact HB.out)⟩
          · rw [if_neg c19] at H
            exact absurd H (by simp)
        · rw [if_neg c18] at H
          have c18b0 : decide (x15_1 < (l5.length : Int)) = false := decide_eq_false c18
          clear c18
          replace H := Option.bind_eq_some_iff.mp H
          obtain ⟨t37019, A320, H⟩ := H
          replace H : (spec_Spread.l1 k1 a2 a3 a4 l5 y37002 t37019 0 l0_0 a0_1 a0_2) = some r := H
          have A32 := Aside0.mk A320
          clear A320
          have H' := Aside0.mk H
          clear H
          obtain ⟨Ao33, co33, eo33⟩ := Kd.R_slice HO_14.out
          subst eo33
          go_wp2_with (first | ((with_reducible refine gate_callee (f := 103) rfl ?_); refine goesL_ (some 78) rfl rfl Try.func103 (by kernel_rfl) rfl #[.int .i64 a1, .slice Ao33 x14_1.length co33] rfl (by (try simp only [List.map_toArray, List.map_cons, List.map_nil]); first | done | rfl | (simp only [List.length_drop, List.length_take]; rfl)) ?_; (with_reducible refine (spec_Shares.calls k1 a1 _ _ x14_1 t37019 _ ?side1 ?side2 A32.out).mono ?_); (case side1 => repeat (first | exact (Kd.R_reads' HO_14.out).2.2 | (with_reducible refine Kd.C_alloc ?_ _) | (with_reducible refine Kd.C_drewN ?_ _) | (with_reducible refine Kd.C_drew ?_))); (case side2 => exact (Kd.R_reads' HO_14.out).2.1); rintro e w34 ⟨v37020, rfl, ho0, hb⟩; refine ⟨_, rfl, ?_⟩; have n0_ := Aside0.mk (Kd.S_below (by (with_reducible repeat (first | apply Kd.S_alloc | apply Kd.S_drewN | apply Kd.S_drew)); exact HO_13.out) hb); have n1_ := Aside0.mk (Kd.R_elder' (by (with_reducible repeat (first | apply Kd.R_alloc | apply Kd.R_drewN | apply Kd.R_drew)); exact HO_14.out) (Kd.R_base ho0) hb); have n2_ := Aside0.mk (Kd.R_lower (Kd.R_new' ho0 (Kd.R_lt (by (with_reducible repeat (first | apply Kd.R_alloc | apply Kd.R_drewN | apply Kd.R_drew)); exact HO_14.out))) (below_size (by repeat (first | (with_reducible first | exact HB.out | apply below_alloc | apply pw_below_drewN | apply below_drew1 | refine below_set ?_ GE37001.out) | exact HB.out)))); have n3_ := Aside0.mk (blk_below (g := gb37001) (o := .cells #[.slice A0_0 l0_0.length c0_0, .int .i64 a0_1, .int .i64 a0_2] 26 (0, 0)) (by (with_reducible repeat (first | refine blk_drewN ?_ _ | refine blk_drew ?_ | refine blk_alloc ?_ _)); exact BK37001.out) hb); have n4_ := Aside0.mk (below_step (by repeat (first | (with_reducible first | exact HB.out | apply below_alloc | apply pw_below_drewN | apply below_drew1 | refine below_set ?_ GE37001.out) | exact HB.out)) hb); clear HO_13; clear HO_14; clear BK37001; clear HB; have HO_13 := n0_; have HO_14 := n1_; have HO37021 := n2_; have BK37001 := n3_; have HB := n4_; clear n0_ n1_ n2_ n3_ n4_; (try clear hb); (try clear hb2); (try clear hk); (try clear hi); (try clear ho0)))
          go_loopg [13, 17] k1 (fun kq v13 v17 w' => ∃ (x13_2 : List (S34)) (x17_2 : Int), v17 = .int .i64 x17_2 ∧ Aside0 (spec_Spread.l1 kq a2 a3 a4 l5 x13_2 t37019 x17_2 l0_0 a0_1 a0_2 = some r) ∧ Aside0 (kq ≤ k1) ∧ Aside0 (Kd.S k34 34 w' w.heap.size (fun _ => True) v13 x13_2) ∧ Aside0 (Kd.R (Kd.int .i64) 3 w' w.heap.size (fun _ => True) v37020 t37019) ∧ Aside0 (w'.heap[gb37001]? = some (.cells #[(.slice A0_0 l0_0.length c0_0), .int .i64 a0_1, .int .i64 a0_2] 26 (0, 0))) ∧ Aside0 (Below w.heap.size w w'))
          case atStart => exact ⟨(y37002), (0), (by first | rfl | (simp; done) | (simp [*]; done)), H', ⟨Nat.le_refl _⟩, ⟨by (with_reducible repeat (first | apply Kd.S_alloc | apply Kd.S_drewN | apply Kd.S_drew)); exact HO_13.out⟩, ⟨by (with_reducible repeat (first | apply Kd.R_alloc | apply Kd.R_drewN | apply Kd.R_drew)); exact Kd.R_mono HO37021.out (fun _ hk => trivial)⟩, ⟨by (with_reducible repeat (first | refine blk_drewN ?_ _ | refine blk_drew ?_ | refine blk_alloc ?_ _)); exact BK37001.out⟩, ⟨by repeat (first | (with_reducible first | exact HB.out | apply below_alloc | apply pw_below_drewN | apply below_drew1 | refine below_set ?_ GE37001.out) | exact HB.out)⟩⟩
          case round =>
            clear H'
            try clear c1
            try clear c2
            try clear p2
            try clear p3
            try clear q3
            try clear hx3
            try clear p6
            try clear c7
            try clear c8
            try clear c10
            try clear c18
            try clear c18b0
            try clear c19
            try clear c21
            try clear c23
            try clear c26
            try clear hx37008_0
            try clear hx37008_1
            try clear hx37010_0
            try clear hx37010_1
            try clear p37008
            try clear p37010
            try clear q37008
            try clear q37010
            obtain ⟨x13_2, x17_2, rfl, HA, HK2, HO_13, HO_16, BK37001, HB⟩ := hrel
            cases gk with
            | zero => exact absurd HA.out (by simp [spec_Spread.l1])
            | succ k2 =>
              have H := HA.out
              clear HA
              simp only [spec_Spread.l1] at H
              by_cases c35 : x17_2 < (t37019.length : Int)
              · rw [if_pos c35] at H
                have c35b0 : decide (x17_2 < (t37019.length : Int)) = true := decide_eq_true c35
                clear c35
                by_cases c36 : 0 ≤ x17_2
                · rw [if_pos c36] at H
                  have c36b0 : decide (0 ≤ x17_2) = true := decide_eq_true c36
                  clear c36
                  by_cases c37 : x17_2 < (l5.length : Int)
                  · rw [if_pos c37] at H
                    have c37b0 : decide (x17_2 < (l5.length : Int)) = true := decide_eq_true c37
                    clear c37
                    obtain ⟨y37028, hy37028⟩ : ∃ y_ : List (S112), y_ = (([(⟨a3, a4, 0, rd t37019 x17_2, rd t37019 x17_2⟩ : S112), (⟨a2, a4, 0, wrap64 (-(rd t37019 x17_2)), wrap64 (-(rd t37019 x17_2))⟩ : S112)] : List (S112))) := ⟨_, rfl⟩
                    replace H : (if ([] : List (S112)).length + y37028.length < 3518437208883 then ((some (([] : List (S112)) ++ y37028 : List (S112))).bind fun y37031 => ((spec_EntryOk.f l0_0 a0_1 a0_2 ((rd_T133 l5 x17_2).f1) 0 (⟨#[115, 112, 114, 101, 97, 100]⟩ : ByteArray) y37031).bind fun t37034 => (if t37034 = true then (if x13_2.length < 2513169434916 then (spec_Spread.l1 k2 a2 a3 a4 l5 (x13_2 ++ [(⟨(rd_T133 l5 x17_2).f1, 0, (⟨#[115, 112, 114, 101, 97, 100]⟩ : ByteArray), y37031⟩ : S34)]) t37019 (wrap64 (x17_2 + 1)) l0_0 a0_1 a0_2) else (none)) else (some (([] : List (S34))))))) else (none)) = some r := by first | (rw [hy37028]; with_reducible exact H) | (have H2_ := (Option.bind_some _ _).symm.trans H; rw [hy37028]; with_reducible exact H2_) | (have H2_ := (Option.bind_some _ _).symm.trans H; with_reducible exact H2_) | with_reducible exact H | (rw [hy37028]; exact H) | exact H
                    have Ny37028 := Aside0.mk hy37028
                    clear hy37028
                    by_cases c38 : ([] : List (S112)).length + y37028.length < 3518437208883
                    · rw [if_pos c38] at H
                      have LMc38 := Aside0.mk c38
                      clear c38
                      obtain ⟨y37031, hy37031⟩ : ∃ y_ : List (S112), y_ = (([] : List (S112)) ++ y37028) := ⟨_, rfl⟩
                      replace H : ((spec_EntryOk.f l0_0 a0_1 a0_2 ((rd_T133 l5 x17_2).f1) 0 (⟨#[115, 112, 114, 101, 97, 100]⟩ : ByteArray) y37031).bind fun t37034 => (if t37034 = true then (if x13_2.length < 2513169434916 then (spec_Spread.l1 k2 a2 a3 a4 l5 (x13_2 ++ [(⟨(rd_T133 l5 x17_2).f1, 0, (⟨#[115, 112, 114, 101, 97, 100]⟩ : ByteArray), y37031⟩ : S34)]) t37019 (wrap64 (x17_2 + 1)) l0_0 a0_1 a0_2) else (none)) else (some (([] : List (S34)))))) = some r := by first | (rw [hy37031]; with_reducible exact H) | (have H2_ := (Option.bind_some _ _).symm.trans H; rw [hy37031]; with_reducible exact H2_) | (have H2_ := (Option.bind_some _ _).symm.trans H; with_reducible exact H2_) | with_reducible exact H | (rw [hy37031]; exact H) | exact H
                      have Ny37031 := Aside0.mk hy37031
                      clear hy37031
                      replace H := Option.bind_eq_some_iff.mp H
                      obtain ⟨t37034, A390, H⟩ := H
                      replace H : (if t37034 = true then (if x13_2.length < 2513169434916 then (spec_Spread.l1 k2 a2 a3 a4 l5 (x13_2 ++ [(⟨(rd_T133 l5 x17_2).f1, 0, (⟨#[115, 112, 114, 101, 97, 100]⟩ : ByteArray), y37031⟩ : S34)]) t37019 (wrap64 (x17_2 + 1)) l0_0 a0_1 a0_2) else (none)) else (some (([] : List (S34))))) = some r := H
                      have A39 := Aside0.mk A390
                      clear A390
                      by_cases c40 : t37034 = true
                      · subst c40
                        have H1 : (if x13_2.length < 2513169434916 then (spec_Spread.l1 k2 a2 a3 a4 l5 (x13_2 ++ [(⟨(rd_T133 l5 x17_2).f1, 0, (⟨#[115, 112, 114, 101, 97, 100]⟩ : ByteArray), y37031⟩ : S34)]) t37019 (wrap64 (x17_2 + 1)) l0_0 a0_1 a0_2) else (none)) = some r := by rw [if_pos rfl] at H; exact H
                        clear H
                        have H := H1
                        clear H1
                        by_cases c41 : x13_2.length < 2513169434916
                        · rw [if_pos c41] at H
                          have LMc41 := Aside0.mk c41
                          clear c41
                          obtain ⟨y37035, hy37035⟩ : ∃ y_ : List (S34), y_ = (x13_2 ++ [(⟨(rd_T133 l5 x17_2).f1, 0, (⟨#[115, 112, 114, 101, 97, 100]⟩ : ByteArray), y37031⟩ : S34)]) := ⟨_, rfl⟩
                          replace H : (spec_Spread.l1 k2 a2 a3 a4 l5 y37035 t37019 (wrap64 (x17_2 + 1)) l0_0 a0_1 a0_2) = some r := by first | (rw [hy37035]; with_reducible exact H) | (have H2_ := (Option.bind_some _ _).symm.trans H; rw [hy37035]; with_reducible exact H2_) | (have H2_ := (Option.bind_some _ _).symm.trans H; with_reducible exact H2_) | with_reducible exact H | (rw [hy37035]; exact H) | exact H
                          have Ny37035 := Aside0.mk hy37035
                          clear hy37035
                          have H' := Aside0.mk H
                          clear H
                          obtain ⟨Ao42, co42, eo42⟩ := Kd.R_slice HO_16.out
                          subst eo42
                          have p37022 : 0 ≤ (x17_2 : Int) := of_decide_eq_true (by first | (with_reducible assumption) | assumption)
                          have q37022 : x17_2 < (l5.length : Int) := of_decide_eq_true (by first | (with_reducible assumption) | assumption)
                          obtain ⟨ad37022, e37022, hx37022_0, hx37022_1⟩ := at_T133 HR5.out x17_2 p37022 q37022
                          cases e37022
                          replace hx37022_0 := (HB.out.cell (World.block_lt_of_cell? w _ hx37022_0)).trans hx37022_0
                          replace hx37022_1 := (HB.out.cell (World.block_lt_of_cell? w _ hx37022_1)).trans hx37022_1
                          replace p37022 := eq_true p37022
                          replace q37022 := eq_true q37022
                          try go_wp2_with (first | ((with_reducible refine gate_dst (N := 18) rfl ?_); refine box_event ?hg (N := 18) ?hd (cs := #[.int .i64 0, .int .i64 0, .string (⟨#[]⟩ : ByteArray), .slice none 0 0]) (t := 34) ?hr ?_; (case hd => rfl); (case hg => rfl); (case hr => first | (go_simp; done) | (go_simp; rfl)); intro gb37023 hg w43 hbox hb; have n0_ := Aside0.mk (Kd.S_below (Kd.S_elderB (by (with_reducible repeat (first | apply Kd.S_alloc | apply Kd.S_drewN | apply Kd.S_drew)); exact HO_13.out) gb37023 (Nat.le_of_eq hg.symm)) hb); have n1_ := Aside0.mk (Kd.R_below (by (with_reducible repeat (first | apply Kd.R_alloc | apply Kd.R_drewN | apply Kd.R_drew)); exact HO_16.out) hb); have n2_ := Aside0.mk (blk_below (g := gb37001) (o := .cells #[.slice A0_0 l0_0.length c0_0, .int .i64 a0_1, .int .i64 a0_2] 26 (0, 0)) (by (with_reducible repeat (first | refine blk_drewN ?_ _ | refine blk_drew ?_ | refine blk_alloc ?_ _)); exact BK37001.out) hb); have n3_ := Aside0.mk (below_step (by repeat (first | (with_reducible first | exact HB.out | apply below_alloc | apply pw_below_drewN | apply below_drew1 | refine below_set ?_ GE37001.out) | exact HB.out)) hb); have n4_ := Aside0.mk (hbox); have n5_ := Aside0.mk ((by rw [hg]; exact (below_size (by repeat (first | (with_reducible first | exact HB.out | apply below_alloc | apply pw_below_drewN | apply below_drew1 | refine below_set ?_ GE37001.out) | exact HB.out))) : w.heap.size ≤ gb37023)); have n6_ := Aside0.mk ((by rw [hg]; exact (below_size (by repeat (first | (with_reducible first | exact HB.out | apply below_alloc | apply pw_below_drewN | apply below_drew1 | refine below_set ?_ GE37001.out) | exact HB.out))) : w.heap.size ≤ gb37023)); have n7_ := Aside0.mk ((by rw [hg]; exact Nat.ne_of_lt (blk_lt (g := gb37001) (o := .cells #[.slice A0_0 l0_0.length c0_0, .int .i64 a0_1, .int .i64 a0_2] 26 (0, 0)) (by (with_reducible repeat (first | refine blk_drewN ?_ _ | refine blk_drew ?_ | refine blk_alloc ?_ _)); exact BK37001.out)) : gb37001 ≠ gb37023)); have n8_ := Aside0.mk ((by rw [hg]; exact Nat.ne_of_gt (blk_lt (g := gb37001) (o := .cells #[.slice A0_0 l0_0.length c0_0, .int .i64 a0_1, .int .i64 a0_2] 26 (0, 0)) (by (with_reducible repeat (first | refine blk_drewN ?_ _ | refine blk_drew ?_ | refine blk_alloc ?_ _)); exact BK37001.out)) : gb37023 ≠ gb37001)); clear HO_13; clear HO_16; clear BK37001; clear HB; have HO_13 := n0_; have HO_16 := n1_; have BK37001 := n2_; have HB := n3_; have BK37023 := n4_; have GW37023 := n5_; have GE37023 := n6_; have NB37001_37023 := n7_; have NB37023_37001 := n8_; clear n0_ n1_ n2_ n3_ n4_ n5_ n6_ n7_ n8_; clear hb hbox hg; have hnb44 := NB37023_37001.out; have hnc44 := NB37001_37023.out; have hcz45_0 : w43.cell? ⟨gb37023, 0, none⟩ = some (.int .i64 0) := (blk_cell BK37023.out 0).trans rfl; have hcz45_1 : w43.cell? ⟨gb37023, 1, none⟩ = some (.int .i64 0) := (blk_cell BK37023.out 1).trans rfl; have hcz45_2 : w43.cell? ⟨gb37023, 2, none⟩ = some (.string (⟨#[]⟩ : ByteArray)) := (blk_cell BK37023.out 2).trans rfl; have hcz45_3 : w43.cell? ⟨gb37023, 3, none⟩ = some (.slice none 0 0) := (blk_cell BK37023.out 3).trans rfl; have hfz45_0 := blk_frozen BK37023.out 0; have hfz45_1 := blk_frozen BK37023.out 1; have hfz45_2 := blk_frozen BK37023.out 2; have hfz45_3 := blk_frozen BK37023.out 3))
                          have n0_ : Aside0 (Kd.S k34 34 ((((w43.setCell ⟨gb37023, 0, none⟩ (.int .i64 ((rd_T133 l5 x17_2).f1))).setCell ⟨gb37023, 1, none⟩ (.int .i64 0)).setCell ⟨gb37023, 2, none⟩ (.string (⟨#[115, 112, 114, 101, 97, 100]⟩ : ByteArray))).setCell ⟨gb37023, 3, none⟩ (.slice none 0 0)) w.heap.size (fun k_ => k_ ≠ gb37023) u13 x13_2) := ⟨by (with_reducible repeat (first | apply Kd.S_alloc | apply Kd.S_drewN | apply Kd.S_drew)); exact Kd.S_mono (Kd.S_far (p := ⟨gb37023, 3, none⟩) (Kd.S_far (p := ⟨gb37023, 2, none⟩) (Kd.S_far (p := ⟨gb37023, 1, none⟩) (Kd.S_far (p := ⟨gb37023, 0, none⟩) (Kd.S_mono HO_13.out (fun k_ hk => (⟨hk, hk.2⟩ : _ ∧ k_ ≠ gb37023))) (fun _ hk => hk.2) (.int .i64 ((rd_T133 l5 x17_2).f1))) (fun _ hk => hk.2) (.int .i64 0)) (fun _ hk => hk.2) (.string (⟨#[115, 112, 114, 101, 97, 100]⟩ : ByteArray))) (fun _ hk => hk.2) (.slice none 0 0)) (fun _ hk => hk.1.2)⟩
                          have n1_ : Aside0 (Kd.R (Kd.int .i64) 3 ((((w43.setCell ⟨gb37023, 0, none⟩ (.int .i64 ((rd_T133 l5 x17_2).f1))).setCell ⟨gb37023, 1, none⟩ (.int .i64 0)).setCell ⟨gb37023, 2, none⟩ (.string (⟨#[115, 112, 114, 101, 97, 100]⟩ : ByteArray))).setCell ⟨gb37023, 3, none⟩ (.slice none 0 0)) w.heap.size (fun _ => True) (.slice Ao42 t37019.length co42) t37019) := ⟨by (with_reducible repeat (first | apply Kd.R_alloc | apply Kd.R_drewN | apply Kd.R_drew)); exact Kd.R_mono (Kd.R_far (p := ⟨gb37023, 3, none⟩) (Kd.R_far (p := ⟨gb37023, 2, none⟩) (Kd.R_far (p := ⟨gb37023, 1, none⟩) (Kd.R_far (p := ⟨gb37023, 0, none⟩) (Kd.R_types HO_16.out BK37023.out (by decide)) (fun _ hk => hk.2) (.int .i64 ((rd_T133 l5 x17_2).f1))) (fun _ hk => hk.2) (.int .i64 0)) (fun _ hk => hk.2) (.string (⟨#[115, 112, 114, 101, 97, 100]⟩ : ByteArray))) (fun _ hk => hk.2) (.slice none 0 0)) (fun _ hk => trivial)⟩
                          have n2_ : Aside0 (((((w43.setCell ⟨gb37023, 0, none⟩ (.int .i64 ((rd_T133 l5 x17_2).f1))).setCell ⟨gb37023, 1, none⟩ (.int .i64 0)).setCell ⟨gb37023, 2, none⟩ (.string (⟨#[115, 112, 114, 101, 97, 100]⟩ : ByteArray))).setCell ⟨gb37023, 3, none⟩ (.slice none 0 0)).heap[gb37001]? = some (.cells #[.slice A0_0 l0_0.length c0_0, .int .i64 a0_1, .int .i64 a0_2] 26 (0, 0))) := ⟨by (with_reducible repeat (first | refine blk_drewN ?_ _ | refine blk_drew ?_ | refine blk_alloc ?_ _)); refine blk_far ?_ NB37001_37023.out _; (with_reducible repeat (first | refine blk_drewN ?_ _ | refine blk_drew ?_ | refine blk_alloc ?_ _)); refine blk_far ?_ NB37001_37023.out _; (with_reducible repeat (first | refine blk_drewN ?_ _ | refine blk_drew ?_ | refine blk_alloc ?_ _)); refine blk_far ?_ NB37001_37023.out _; (with_reducible repeat (first | refine blk_drewN ?_ _ | refine blk_drew ?_ | refine blk_alloc ?_ _)); refine blk_far ?_ NB37001_37023.out _; (with_reducible repeat (first | refine blk_drewN ?_ _ | refine blk_drew ?_ | refine blk_alloc ?_ _)); exact BK37001.out⟩
                          have n3_ : Aside0 (((((w43.setCell ⟨gb37023, 0, none⟩ (.int .i64 ((rd_T133 l5 x17_2).f1))).setCell ⟨gb37023, 1, none⟩ (.int .i64 0)).setCell ⟨gb37023, 2, none⟩ (.string (⟨#[115, 112, 114, 101, 97, 100]⟩ : ByteArray))).setCell ⟨gb37023, 3, none⟩ (.slice none 0 0)).heap[gb37023]? = some (.cells #[.int .i64 ((rd_T133 l5 x17_2).f1), .int .i64 0, .string (⟨#[115, 112, 114, 101, 97, 100]⟩ : ByteArray), .slice none 0 0] 34 (0, 0))) := ⟨by (with_reducible repeat (first | refine blk_drewN ?_ _ | refine blk_drew ?_ | refine blk_alloc ?_ _)); refine blk_put (cs := #[.int .i64 ((rd_T133 l5 x17_2).f1), .int .i64 0, .string (⟨#[115, 112, 114, 101, 97, 100]⟩ : ByteArray), .slice none 0 0]) ?_ 3 _ rfl; (with_reducible repeat (first | refine blk_drewN ?_ _ | refine blk_drew ?_ | refine blk_alloc ?_ _)); refine blk_put (cs := #[.int .i64 ((rd_T133 l5 x17_2).f1), .int .i64 0, .string (⟨#[]⟩ : ByteArray), .slice none 0 0]) ?_ 2 _ rfl; (with_reducible repeat (first | refine blk_drewN ?_ _ | refine blk_drew ?_ | refine blk_alloc ?_ _)); refine blk_put (cs := #[.int .i64 ((rd_T133 l5 x17_2).f1), .int .i64 0, .string (⟨#[]⟩ : ByteArray), .slice none 0 0]) ?_ 1 _ rfl; (with_reducible repeat (first | refine blk_drewN ?_ _ | refine blk_drew ?_ | refine blk_alloc ?_ _)); refine blk_put (cs := #[.int .i64 0, .int .i64 0, .string (⟨#[]⟩ : ByteArray), .slice none 0 0]) ?_ 0 _ rfl; (with_reducible repeat (first | refine blk_drewN ?_ _ | refine blk_drew ?_ | refine blk_alloc ?_ _)); exact BK37023.out⟩
                          have n4_ : Aside0 (Below w.heap.size w ((((w43.setCell ⟨gb37023, 0, none⟩ (.int .i64 ((rd_T133 l5 x17_2).f1))).setCell ⟨gb37023, 1, none⟩ (.int .i64 0)).setCell ⟨gb37023, 2, none⟩ (.string (⟨#[115, 112, 114, 101, 97, 100]⟩ : ByteArray))).setCell ⟨gb37023, 3, none⟩ (.slice none 0 0))) := ⟨by repeat (first | (with_reducible first | exact HB.out | apply below_alloc | apply pw_below_drewN | apply below_drew1 | refine below_set ?_ GE37001.out | refine below_set ?_ GE37023.out) | exact HB.out)⟩
                          (try clear HO_13)
                          (try clear HO_16)
                          (try clear BK37001)
                          (try clear BK37023)
                          (try clear HB)
                          generalize ((((w43.setCell ⟨gb37023, 0, none⟩ (.int .i64 ((rd_T133 l5 x17_2).f1))).setCell ⟨gb37023, 1, none⟩ (.int .i64 0)).setCell ⟨gb37023, 2, none⟩ (.string (⟨#[115, 112, 114, 101, 97, 100]⟩ : ByteArray))).setCell ⟨gb37023, 3, none⟩ (.slice none 0 0)) = w46 at n0_ n1_ n2_ n3_ n4_ ⊢
                          have HO_13 := n0_
                          have HO_16 := n1_
                          have BK37001 := n2_
                          have BK37023 := n3_
                          have HB := n4_
                          clear n0_ n1_ n2_ n3_ n4_
                          have n0_ := Aside0.mk (Kd.S_drew HO_13.out)
                          have n1_ := Aside0.mk (Kd.R_drew HO_16.out)
                          have n2_ := Aside0.mk (blk_drew BK37001.out)
                          have n3_ := Aside0.mk (blk_drew BK37023.out)
                          have n4_ := Aside0.mk (below_drew1 HB.out)
                          clear HO_13
                          clear HO_16
                          clear BK37001
                          clear BK37023
                          clear HB
                          have HO_13 := n0_
                          have HO_16 := n1_
                          have BK37001 := n2_
                          have BK37023 := n3_
                          have HB := n4_
                          clear n0_ n1_ n2_ n3_ n4_
                          have p37024 : 0 ≤ (x17_2 : Int) := of_decide_eq_true (by first | (with_reducible assumption) | assumption)
                          have q37024 : x17_2 < (t37019.length : Int) := of_decide_eq_true (by first | (with_reducible assumption) | assumption)
                          obtain ⟨ad37024, e37024, hx37024_0⟩ := Kd.at_int (Kd.R_reads' HO_16.out).2.2 x17_2 p37024 q37024
                          cases e37024
                          replace p37024 := eq_true p37024
                          replace q37024 := eq_true q37024
                          have p37025 : 0 ≤ (x17_2 : Int) := of_decide_eq_true (by first | (with_reducible assumption) | assumption)
                          have q37025 : x17_2 < (t37019.length : Int) := of_decide_eq_true (by first | (with_reducible assumption) | assumption)
                          obtain ⟨ad37025, e37025, hx37025_0⟩ := Kd.at_int (Kd.R_reads' HO_16.out).2.2 x17_2 p37025 q37025
                          obtain rfl : ad37024 = ad37025 := (by injection e37025)
                          replace p37025 := eq_true p37025
                          replace q37025 := eq_true q37025
                          have p37026 : 0 ≤ (x17_2 : Int) := of_decide_eq_true (by first | (with_reducible assumption) | assumption)
                          have q37026 : x17_2 < (t37019.length : Int) := of_decide_eq_true (by first | (with_reducible assumption) | assumption)
                          obtain ⟨ad37026, e37026, hx37026_0⟩ := Kd.at_int (Kd.R_reads' HO_16.out).2.2 x17_2 p37026 q37026
                          obtain rfl : ad37024 = ad37026 := (by injection e37026)
                          replace p37026 := eq_true p37026
                          replace q37026 := eq_true q37026
                          have p37027 : 0 ≤ (x17_2 : Int) := of_decide_eq_true (by first | (with_reducible assumption) | assumption)
                          have q37027 : x17_2 < (t37019.length : Int) := of_decide_eq_true (by first | (with_reducible assumption) | assumption)
                          obtain ⟨ad37027, e37027, hx37027_0⟩ := Kd.at_int (Kd.R_reads' HO_16.out).2.2 x17_2 p37027 q37027
                          obtain rfl : ad37024 = ad37027 := (by injection e37027)
                          replace p37027 := eq_true p37027
                          replace q37027 := eq_true q37027
                          refine start_ (n := 30) (S := fun w' => w'.cell? ⟨gb37023, 0, none⟩ = some (.int .i64 ((rd_T133 l5 x17_2).f1)) ∧ w'.cell? ⟨gb37023, 1, none⟩ = some (.int .i64 0) ∧ w'.cell? ⟨gb37023, 2, none⟩ = some (.string (⟨#[115, 112, 114, 101, 97, 100]⟩ : ByteArray)) ∧ w'.cell? ⟨gb37023, 3, none⟩ = some (.slice none 0 0) ∧ w'.cell? (ad37024.add (x17_2).toNat) = some (.int .i64 (rd t37019 x17_2)) ∧ w'.cell? (ad37024.add (x17_2).toNat) = some (.int .i64 (rd t37019 x17_2)) ∧ w'.cell? (ad37024.add (x17_2).toNat) = some (.int .i64 (rd t37019 x17_2)) ∧ w'.cell? (ad37024.add (x17_2).toNat) = some (.int .i64 (rd t37019 x17_2))) (ds := [27, 29]) #[false, false, false, false, false, false, false, false, false, false, false, false, false, false, false, false, false, false, false, false, false, false, false, false, false, false, false, false, false, false] (by kernel_rfl) rfl rfl ⟨(blk_cell BK37023.out 0).trans rfl, (blk_cell BK37023.out 1).trans rfl, (blk_cell BK37023.out 2).trans rfl, (blk_cell BK37023.out 3).trans rfl, hx37024_0, hx37025_0, hx37026_0, hx37027_0⟩ (fun hHeld => ?_); refine with_tabW spec_Spread.tab16 spec_Spread.bits16 (fun HT_ HW_ => ?_)
                          generalize w46.drew = w47 at HO_13 HO_16 BK37001 BK37023 HB hx37024_0 hx37025_0 hx37026_0 hx37027_0 hHeld ⊢
                          refine pure_ (i := 0) (N := some 91) (v := ?_) (a' := ?_) #[true, false, false, false, false, false, false, false, false, false, false, false, false, false, false, false, false, false, false, false, false, false, false, false, false, false, false, false, false, false] rfl rfl (any_of HT_.out (by kernel_rfl)) (fun _ _ _ h => h) (Or.inl ⟨by rfl, ?_⟩) ?_ ?_
                          rotate_left
                          · intro w'
                            go_simp
                            with_reducible rfl
                          rotate_left
                          · simp only [Act.put, List.setIfInBounds_toArray, List.set_cons_zero, List.set_cons_succ, i64_w, i32_w]
                            rfl
                          refine pure_ (i := 2) (N := some 93) (v := ?_) (a' := ?_) #[true, false, true, false, false, false, false, false, false, false, false, false, false, false, false, false, false, false, false, false, false, false, false, false, false, false, false, false, false, false] rfl rfl (any_of HT_.out (by kernel_rfl)) (fun _ _ _ h => h) (Or.inl ⟨by rfl, ?_⟩) ?_ ?_
                          rotate_left
                          · intro w'
                            go_simp
                            with_reducible rfl
                          rotate_left
                          · simp only [Act.put, List.setIfInBounds_toArray, List.set_cons_zero, List.set_cons_succ, i64_w, i32_w]
                            rfl
                          refine pure_ (i := 3) (N := some 94) (v := ?_) (a' := ?_) #[true, false, true, true, false, false, false, false, false, false, false, false, false, false, false, false, false, false, false, false, false, false, false, false, false, false, false, false, false, false] rfl rfl (any_of HT_.out (by kernel_rfl)) (fun _ _ _ h => h) (Or.inl ⟨by rfl, ?_⟩) ?_ ?_
                          rotate_left
                          · intro w'
                            go_simp
                            with_reducible rfl
                          rotate_left
                          · simp only [Act.put, List.setIfInBounds_toArray, List.set_cons_zero, List.set_cons_succ, i64_w, i32_w]
                            rfl
                          refine pure_ (i := 4) (N := some 95) (v := ?_) (a' := ?_) #[true, false, true, true, true, false, false, false, false, false, false, false, false, false, false, false, false, false, false, false, false, false, false, false, false, false, false, false, false, false] rfl rfl (any_of HT_.out (by kernel_rfl)) (fun _ _ _ h => h) (Or.inl ⟨by rfl, ?_⟩) ?_ ?_
                          rotate_left
                          · intro w'
                            go_simp
                            with_reducible rfl
                          rotate_left
                          · simp only [Act.put, List.setIfInBounds_toArray, List.set_cons_zero, List.set_cons_succ, i64_w, i32_w]
                            rfl
                          refine pure_ (i := 5) (N := some 96) (v := ?_) (a' := ?_) #[true, false, true, true, true, true, false, false, false, false, false, false, false, false, false, false, false, false, false, false, false, false, false, false, false, false, false, false, false, false] rfl rfl (any_of HT_.out (by kernel_rfl)) (fun _ _ _ h => h) (Or.inl ⟨by rfl, ?_⟩) ?_ ?_
                          rotate_left
                          · intro w'
                            go_simp
                            with_reducible rfl
                          rotate_left
                          · simp only [Act.put, List.setIfInBounds_toArray, List.set_cons_zero, List.set_cons_succ, i64_w, i32_w]
                            rfl
                          refine pure_ (i := 6) (N := some 97) (v := ?_) (a' := ?_) #[true, false, true, true, true, true, true, false, false, false, false, false, false, false, false, false, false, false, false, false, false, false, false, false, false, false, false, false, false, false] rfl rfl (any_of HT_.out (by kernel_rfl)) (fun _ _ _ h => h) (Or.inl ⟨by rfl, ?_⟩) ?_ ?_
                          rotate_left
                          · intro w'
                            go_simp
                            with_reducible rfl
                          rotate_left
                          · simp only [Act.put, List.setIfInBounds_toArray, List.set_cons_zero, List.set_cons_succ, i64_w, i32_w]
                            rfl
                          refine pure_ (i := 8) (N := some 99) (v := ?_) (a' := ?_) #[true, false, true, true, true, true, true, false, true, false, false, false, false, false, false, false, false, false, false, false, false, false, false, false, false, false, false, false, false, false] rfl rfl (any_of HT_.out (by kernel_rfl)) (fun _ _ _ h => h) (Or.inl ⟨by rfl, ?_⟩) ?_ ?_
                          rotate_left
                          · intro w'
                            go_simp
                            with_reducible rfl
                          rotate_left
                          · simp only [Act.put, List.setIfInBounds_toArray, List.set_cons_zero, List.set_cons_succ, i64_w, i32_w]
                            rfl
                          refine pure_ (i := 9) (N := some 100) (v := ?_) (a' := ?_) #[true, false, true, true, true, true, true, false, true, true, false, false, false, false, false, false, false, false, false, false, false, false, false, false, false, false, false, false, false, false] rfl rfl (any_of HT_.out (by kernel_rfl)) (fun _ _ _ h => h) (Or.inl ⟨by rfl, ?_⟩) ?_ ?_
                          rotate_left
                          · intro w'
                            go_simp
                            with_reducible rfl
                          rotate_left
                          · simp only [Act.put, List.setIfInBounds_toArray, List.set_cons_zero, List.set_cons_succ, i64_w, i32_w]
                            rfl
                          refine pure_ (i := 10) (N := some 101) (v := ?_) (a' := ?_) #[true, false, true, true, true, true, true, false, true, true, true, false, false, false, false, false, false, false, false, false, false, false, false, false, false, false, false, false, false, false] rfl rfl (any_of HT_.out (by kernel_rfl)) (fun _ _ _ h => h) (Or.inl ⟨by rfl, ?_⟩) ?_ ?_
                          rotate_left
                          · intro w'
                            go_simp
                            with_reducible rfl
                          rotate_left
                          · simp only [Act.put, List.setIfInBounds_toArray, List.set_cons_zero, List.set_cons_succ, i64_w, i32_w]
                            rfl
                          refine pure_ (i := 13) (N := some 104) (v := ?_) (a' := ?_) #[true, false, true, true, true, true, true, false, true, true, true, false, false, true, false, false, false, false, false, false, false, false, false, false, false, false, false, false, false, false] rfl rfl (any_of HT_.out (by kernel_rfl)) (fun _ _ _ h => h) (Or.inl ⟨by rfl, ?_⟩) ?_ ?_
                          rotate_left
                          · intro w'
                            go_simp
                            with_reducible rfl
                          rotate_left
                          · simp only [Act.put, List.setIfInBounds_toArray, List.set_cons_zero, List.set_cons_succ, i64_w, i32_w]
                            rfl
                          refine pure_ (i := 14) (N := some 105) (v := ?_) (a' := ?_) #[true, false, true, true, true, true, true, false, true, true, true, false, false, true, true, false, false, false, false, false, false, false, false, false, false, false, false, false, false, false] rfl rfl (any_of HT_.out (by kernel_rfl)) (fun _ _ _ h => h) (Or.inl ⟨by rfl, ?_⟩) ?_ ?_
                          rotate_left
                          · intro w'
                            go_simp
                            with_reducible rfl
                          rotate_left
                          · simp only [Act.put, List.setIfInBounds_toArray, List.set_cons_zero, List.set_cons_succ, i64_w, i32_w]
                            rfl
                          refine pure_ (i := 15) (N := some 106) (v := ?_) (a' := ?_) #[true, false, true, true, true, true, true, false, true, true, true, false, false, true, true, true, false, false, false, false, false, false, false, false, false, false, false, false, false, false] rfl rfl (any_of HT_.out (by kernel_rfl)) (fun _ _ _ h => h) (Or.inl ⟨by rfl, ?_⟩) ?_ ?_
                          rotate_left
                          · intro w'
                            go_simp
                            with_reducible rfl
                          rotate_left
                          · simp only [Act.put, List.setIfInBounds_toArray, List.set_cons_zero, List.set_cons_succ, i64_w, i32_w]
                            rfl
                          refine pure_ (i := 16) (N := some 107) (v := ?_) (a' := ?_) #[true, false, true, true, true, true, true, false, true, true, true, false, false, true, true, true, true, false, false, false, false, false, false, false, false, false, false, false, false, false] rfl rfl (any_of HT_.out (by kernel_rfl)) (fun _ _ _ h => h) (Or.inl ⟨by rfl, ?_⟩) ?_ ?_
                          rotate_left
                          · intro w'
                            go_simp
                            with_reducible rfl
                          rotate_left
                          · simp only [Act.put, List.setIfInBounds_toArray, List.set_cons_zero, List.set_cons_succ, i64_w, i32_w]
                            rfl
                          refine pure_ (i := 17) (N := some 108) (v := ?_) (a' := ?_) #[true, false, true, true, true, true, true, false, true, true, true, false, false, true, true, true, true, true, false, false, false, false, false, false, false, false, false, false, false, false] rfl rfl (any_of HT_.out (by kernel_rfl)) (fun _ _ _ h => h) (Or.inl ⟨by rfl, ?_⟩) ?_ ?_
                          rotate_left
                          · intro w'
                            go_simp
                            with_reducible rfl
                          rotate_left
                          · simp only [Act.put, List.setIfInBounds_toArray, List.set_cons_zero, List.set_cons_succ, i64_w, i32_w]
                            rfl
                          refine pure_ (i := 20) (N := some 111) (v := ?_) (a' := ?_) #[true, false, true, true, true, true, true, false, true, true, true, false, false, true, true, true, true, true, false, false, true, false, false, false, false, false, false, false, false, false] rfl rfl (any_of HT_.out (by kernel_rfl)) (fun _ _ _ h => h) (Or.inl ⟨by rfl, ?_⟩) ?_ ?_
                          rotate_left
                          · intro w'
                            go_simp
                            with_reducible rfl
                          rotate_left
                          · simp only [Act.put, List.setIfInBounds_toArray, List.set_cons_zero, List.set_cons_succ, i64_w, i32_w]
                            rfl
                          refine pure_ (i := 21) (N := some 112) (v := ?_) (a' := ?_) #[true, false, true, true, true, true, true, false, true, true, true, false, false, true, true, true, true, true, false, false, true, true, false, false, false, false, false, false, false, false] rfl rfl (any_of HT_.out (by kernel_rfl)) (fun _ _ _ h => h) (Or.inl ⟨by rfl, ?_⟩) ?_ ?_
                          rotate_left
                          · intro w'
                            go_simp
                            with_reducible rfl
                          rotate_left
                          · simp only [Act.put, List.setIfInBounds_toArray, List.set_cons_zero, List.set_cons_succ, i64_w, i32_w]
                            rfl
                          refine pure_ (i := 22) (N := some 113) (v := ?_) (a' := ?_) #[true, false, true, true, true, true, true, false, true, true, true, false, false, true, true, true, true, true, false, false, true, true, true, false, false, false, false, false, false, false] rfl rfl (any_of HT_.out (by kernel_rfl)) (fun _ _ _ h => h) (Or.inl ⟨by rfl, ?_⟩) ?_ ?_
                          rotate_left
                          · intro w'
                            go_simp
                            with_reducible rfl
                          rotate_left
                          · simp only [Act.put, List.setIfInBounds_toArray, List.set_cons_zero, List.set_cons_succ, i64_w, i32_w]
                            rfl
                          refine take_ (i := 1) (N := some 92) (v := ?_) (a' := ?_) #[true, true, true, true, true, true, true, false, true, true, true, false, false, true, true, true, true, true, false, false, true, true, true, false, false, false, false, false, false, false] rfl rfl (take_ofW HT_.out HW_.out (by kernel_rfl)) (fun _ _ _ h => h) (Or.inl ⟨by rfl, ?_⟩) hHeld ?_ ?_
                          rotate_left
                          · rintro w' ⟨s0, s1, s2, s3, s4, s5, s6, s7⟩
                            go_simp
                            with_reducible rfl
                          rotate_left
                          · simp only [Act.put, List.setIfInBounds_toArray, List.set_cons_zero, List.set_cons_succ, i64_w, i32_w]
                            rfl
                          refine take_ (i := 7) (N := some 98) (v := ?_) (a' := ?_) #[true, true, true, true, true, true, true, true, true, true, true, false, false, true, true, true, true, true, false, false, true, true, true, false, false, false, false, false, false, false] rfl rfl (take_ofW HT_.out HW_.out (by kernel_rfl)) (fun _ _ _ h => h) (Or.inl ⟨by rfl, ?_⟩) hHeld ?_ ?_
                          rotate_left
                          · rintro w' ⟨s0, s1, s2, s3, s4, s5, s6, s7⟩
                            go_simp
                            with_reducible rfl
                          rotate_left
                          · simp only [Act.put, List.setIfInBounds_toArray, List.set_cons_zero, List.set_cons_succ, i64_w, i32_w]
                            rfl
                          refine take_ (i := 11) (N := some 102) (v := ?_) (a' := ?_) #[true, true, true, true, true, true, true, true, true, true, true, true, false, true, true, true, true, true, false, false, true, true, true, false, false, false, false, false, false, false] rfl rfl (take_ofW HT_.out HW_.out (by kernel_rfl)) (fun _ _ _ h => h) (Or.inl ⟨by rfl, ?_⟩) hHeld ?_ ?_
                          rotate_left
                          · rintro w' ⟨s0, s1, s2, s3, s4, s5, s6, s7⟩
                            go_simp
                            with_reducible rfl
                          rotate_left
                          · simp only [Act.put, List.setIfInBounds_toArray, List.set_cons_zero, List.set_cons_succ, i64_w, i32_w]
                            rfl
                          refine pure_ (i := 12) (N := some 103) (v := ?_) (a' := ?_) #[true, true, true, true, true, true, true, true, true, true, true, true, true, true, true, true, true, true, false, false, true, true, true, false, false, false, false, false, false, false] rfl rfl (any_of HT_.out (by kernel_rfl)) (fun _ _ _ h => h) (Or.inl ⟨by rfl, ?_⟩) ?_ ?_
                          rotate_left
                          · intro w'
                            go_simp
                            with_reducible rfl
                          rotate_left
                          · simp only [Act.put, List.setIfInBounds_toArray, List.set_cons_zero, List.set_cons_succ, i64_w, i32_w]
                            rfl
                          refine take_ (i := 18) (N := some 109) (v := ?_) (a' := ?_) #[true, true, true, true, true, true, true, true, true, true, true, true, true, true, true, true, true, true, true, false, true, true, true, false, false, false, false, false, false, false] rfl rfl (take_ofW HT_.out HW_.out (by kernel_rfl)) (fun _ _ _ h => h) (Or.inl ⟨by rfl, ?_⟩) hHeld ?_ ?_
                          rotate_left
                          · rintro w' ⟨s0, s1, s2, s3, s4, s5, s6, s7⟩
                            go_simp
                            with_reducible rfl
                          rotate_left
                          · simp only [Act.put, List.setIfInBounds_toArray, List.set_cons_zero, List.set_cons_succ, i64_w, i32_w]
                            rfl
                          refine pure_ (i := 19) (N := some 110) (v := ?_) (a' := ?_) #[true, true, true, true, true, true, true, true, true, true, true, true, true, true, true, true, true, true, true, true, true, true, true, false, false, false, false, false, false, false] rfl rfl (any_of HT_.out (by kernel_rfl)) (fun _ _ _ h => h) (Or.inl ⟨by rfl, ?_⟩) ?_ ?_
                          rotate_left
                          · intro w'
                            go_simp
                            with_reducible rfl
                          rotate_left
                          · simp only [Act.put, List.setIfInBounds_toArray, List.set_cons_zero, List.set_cons_succ, i64_w, i32_w]
                            rfl
                          refine take_ (i := 23) (N := some 114) (v := ?_) (a' := ?_) #[true, true, true, true, true, true, true, true, true, true, true, true, true, true, true, true, true, true, true, true, true, true, true, true, false, false, false, false, false, false] rfl rfl (take_ofW HT_.out HW_.out (by kernel_rfl)) (fun _ _ _ h => h) (Or.inl ⟨by rfl, ?_⟩) hHeld ?_ ?_
                          rotate_left
                          · rintro w' ⟨s0, s1, s2, s3, s4, s5, s6, s7⟩
                            go_simp
                            with_reducible rfl
                          rotate_left
                          · simp only [Act.put, List.setIfInBounds_toArray, List.set_cons_zero, List.set_cons_succ, i64_w, i32_w]
                            rfl
                          refine pure_ (i := 24) (N := some 115) (v := ?_) (a' := ?_) #[true, true, true, true, true, true, true, true, true, true, true, true, true, true, true, true, true, true, true, true, true, true, true, true, true, false, false, false, false, false] rfl rfl (any_of HT_.out (by kernel_rfl)) (fun _ _ _ h => h) (Or.inl ⟨by rfl, ?_⟩) ?_ ?_
                          rotate_left
                          · intro w'
                            go_simp
                            with_reducible rfl
                          rotate_left
                          · simp only [Act.put, List.setIfInBounds_toArray, List.set_cons_zero, List.set_cons_succ, i64_w, i32_w]
                            rfl
                          refine pure_ (i := 25) (N := some 116) (v := ?_) (a' := ?_) #[true, true, true, true, true, true, true, true, true, true, true, true, true, true, true, true, true, true, true, true, true, true, true, true, true, true, false, false, false, false] rfl rfl (any_of HT_.out (by kernel_rfl)) (fun _ _ _ h => h) (Or.inl ⟨by rfl, ?_⟩) ?_ ?_
                          rotate_left
                          · intro w'
                            go_simp
                            with_reducible rfl
                          rotate_left
                          · simp only [Act.put, List.setIfInBounds_toArray, List.set_cons_zero, List.set_cons_succ, i64_w, i32_w]
                            rfl
                          refine one_ (i := 26) (N := some 117) #[true, true, true, true, true, true, true, true, true, true, true, true, true, true, true, true, true, true, true, true, true, true, true, true, true, true, true, false, false, false] rfl rfl (one_of HT_.out (by kernel_rfl)) (by decide) (fun K hK => ?_)
                          refine Kd.R_lit_step k112 _ 112 ?hg (N := 117) ?hd (xs := ([(⟨a3, a4, 0, rd t37019 x17_2, rd t37019 x17_2⟩ : S112), (⟨a2, a4, 0, wrap64 (-(rd t37019 x17_2)), wrap64 (-(rd t37019 x17_2))⟩ : S112)] : List (S112))) (inner := [.int .i64 a3, .int .i64 a4, .int .i64 0, .int .i64 (rd t37019 x17_2), .int .i64 (rd t37019 x17_2), .int .i64 a2, .int .i64 a4, .int .i64 0, .int .i64 (wrap64 (-(rd t37019 x17_2))), .int .i64 (wrap64 (-(rd t37019 x17_2)))]) (ok := fun _ => True) (okp := fun _ => True) ?hr ?hp (fun _ hk => hk) trivial (Below.refl _ _) (Nat.le_refl _) (by simp) ?_; (case hd => rfl); (case hg => rfl); (case hr => first | (go_simp; done) | (go_simp; rfl)); (case hp => exact (Reps.c5 (show Kd.M k112 _ _ _ (⟨a3, a4, 0, rd t37019 x17_2, rd t37019 x17_2⟩ : S112) [.int .i64 a3, .int .i64 a4, .int .i64 0, .int .i64 (rd t37019 x17_2), .int .i64 (rd t37019 x17_2)] from (k112_mkM _ _ _ (⟨a3, a4, 0, rd t37019 x17_2, rd t37019 x17_2⟩ : S112) )) (Reps.c5 (show Kd.M k112 _ _ _ (⟨a2, a4, 0, wrap64 (-(rd t37019 x17_2)), wrap64 (-(rd t37019 x17_2))⟩ : S112) [.int .i64 a2, .int .i64 a4, .int .i64 0, .int .i64 (wrap64 (-(rd t37019 x17_2))), .int .i64 (wrap64 (-(rd t37019 x17_2)))] from (k112_mkM _ _ _ (⟨a2, a4, 0, wrap64 (-(rd t37019 x17_2)), wrap64 (-(rd t37019 x17_2))⟩ : S112) )) (Reps.none _ _))))
                          intro v37029 w48 ho49 hb hg_ hnew_
                          have HS4_ := (hb.cell (World.block_lt_of_cell? _ _ (hHeld.2.2.2.2.1))).trans (hHeld.2.2.2.2.1)
                          have HS5_ := (hb.cell (World.block_lt_of_cell? _ _ (hHeld.2.2.2.2.2.1))).trans (hHeld.2.2.2.2.2.1)
                          have HS6_ := (hb.cell (World.block_lt_of_cell? _ _ (hHeld.2.2.2.2.2.2.1))).trans (hHeld.2.2.2.2.2.2.1)
                          have HS7_ := (hb.cell (World.block_lt_of_cell? _ _ (hHeld.2.2.2.2.2.2.2))).trans (hHeld.2.2.2.2.2.2.2)
                          clear hg_ hnew_
                          (first | rw [← Ny37028.out] at ho49 | (simp only [Int.reduceToNat] at ho49; rw [← Ny37028.out] at ho49))
                          have n0_ := Aside0.mk (Kd.S_elder' (by (with_reducible repeat (first | apply Kd.S_alloc | apply Kd.S_drewN | apply Kd.S_drew)); exact HO_13.out) (Kd.R_base ho49) hb)
                          have n1_ := Aside0.mk (Kd.R_below (by (with_reducible repeat (first | apply Kd.R_alloc | apply Kd.R_drewN | apply Kd.R_drew)); exact HO_16.out) hb)
                          have n2_ := Aside0.mk (Kd.R_lower ho49 (below_size (by repeat (first | (with_reducible first | exact HB.out | apply below_alloc | apply pw_below_drewN | apply below_drew1 | refine below_set ?_ GE37001.out | refine below_set ?_ GE37023.out) | exact HB.out))))
                          have n3_ := Aside0.mk (blk_below (g := gb37001) (o := .cells #[.slice A0_0 l0_0.length c0_0, .int .i64 a0_1, .int .i64 a0_2] 26 (0, 0)) (by (with_reducible repeat (first | refine blk_drewN ?_ _ | refine blk_drew ?_ | refine blk_alloc ?_ _)); exact BK37001.out) hb)
                          have n4_ := Aside0.mk (blk_below (g := gb37023) (o := .cells #[.int .i64 ((rd_T133 l5 x17_2).f1), .int .i64 0, .string (⟨#[115, 112, 114, 101, 97, 100]⟩ : ByteArray), .slice none 0 0] 34 (0, 0)) (by (with_reducible repeat (first | refine blk_drewN ?_ _ | refine blk_drew ?_ | refine blk_alloc ?_ _)); exact BK37023.out) hb)
                          have n5_ := Aside0.mk (below_step (by repeat (first | (with_reducible first | exact HB.out | apply below_alloc | apply pw_below_drewN | apply below_drew1 | refine below_set ?_ GE37001.out | refine below_set ?_ GE37023.out) | exact HB.out)) hb)
                          clear HO_13
                          clear HO_16
                          clear BK37001
                          clear BK37023
                          clear HB
                          have HO_13 := n0_
                          have HO_16 := n1_
                          have HO37030 := n2_
                          have BK37001 := n3_
                          have BK37023 := n4_
                          have HB := n5_
                          clear n0_ n1_ n2_ n3_ n4_ n5_
                          clear hb ho49
                          obtain ⟨Ao51, co51, eo51⟩ := Kd.R_slice HO37030.out
                          (first | subst eo51 | (injection eo51 with f1_ f2_ f3_; have f4_ := f1_.symm; have f5_ := f3_.symm; clear f1_ f2_ f3_; subst f4_; subst f5_))
                          refine hK.out _ _ ⟨(blk_cell BK37023.out 0).trans rfl, (blk_cell BK37023.out 1).trans rfl, (blk_cell BK37023.out 2).trans rfl, (blk_cell BK37023.out 3).trans rfl, HS4_, HS5_, HS6_, HS7_⟩ (fun hHeld => ?_)
                          clear hK K
                          refine norm_ (a' := ?_) ?_ ?_
                          rotate_left
                          · show Act.put _ (some 117) _ = _
                            simp only [Act.put, List.setIfInBounds_toArray, List.set_cons_zero, List.set_cons_succ, i64_w, i32_w]
                            rfl
                          refine last_ (i := 27) (N := some 118) #[true, true, true, true, true, true, true, true, true, true, true, true, true, true, true, true, true, true, true, true, true, true, true, true, true, true, true, true, false, false] rfl rfl (one_of HT_.out (by kernel_rfl)) (by decide) (fun K hK => ?_)
                          refine Kd.R_append_rows_step k112 (w0 := w) w.heap.size (by rfl) (.tmp 92) (.tmp 117) 32 112 (.agg #[(.int .i64 0), (.int .i64 0), (.int .i64 0), (.int .i64 0), (.int .i64 0)]) 40 rfl Try.underlying32 info112 rfl (by decide) (by omega) (.slice none 0 0) ([] : List (S112)) y37028 _ _ _ (fun k_ => some k_ ≠ (.slice Ao51 y37028.length co51 : Value).ownBlock) (fun _ => False) rfl rfl ?aO ?aR (fun _ _ h => h) (fun _ h => h.elim) ?aF ?aB ?aS ?aL ?_
                          (case aR => repeat (first | exact (Kd.R_reads' HO37030.out).2.2 | (with_reducible refine Kd.C_alloc ?_ _) | (with_reducible refine Kd.C_drewN ?_ _) | (with_reducible refine Kd.C_drew ?_)))
                          (case aB => exact (by repeat (first | (with_reducible first | exact HB.out | apply below_alloc | apply pw_below_drewN | apply below_drew1 | refine below_set ?_ GE37001.out | refine below_set ?_ GE37023.out) | exact HB.out)))
                          (case aF => exact (fun k_ hk => Kd.fresh' (Kd.R_lt (by (with_reducible repeat (first | apply Kd.R_alloc | apply Kd.R_drewN | apply Kd.R_drew)); exact HO37030.out)) k_ hk))
                          (case aO => exact ((Kd.R_nil _ _ _ _ (fun k_ => some k_ ≠ (.slice Ao51 y37028.length co51 : Value).ownBlock))))
                          (case aS => exact (below_size (by repeat (first | (with_reducible first | exact HB.out | apply below_alloc | apply pw_below_drewN | apply below_drew1 | refine below_set ?_ GE37001.out | refine below_set ?_ GE37023.out) | exact HB.out))))
                          (case aL => have := LMc38.out; omega)
                          intro v37032 w50 ho hb hg hat
                          rw [← Ny37031.out] at ho
                          have n0_ := Aside0.mk (Kd.S_after (Kd.S_apart_nil (by (with_reducible repeat (first | apply Kd.S_alloc | apply Kd.S_drewN | apply Kd.S_drew)); exact HO_13.out)) hg hat)
                          have n1_ := Aside0.mk (Kd.R_grown (by (with_reducible repeat (first | apply Kd.R_alloc | apply Kd.R_drewN | apply Kd.R_drew)); exact HO_16.out) hg (fun _ _ => by simp [Value.ownBlock]))
                          have n2_ := Aside0.mk (blk_grown (g := gb37001) (o := .cells #[.slice A0_0 l0_0.length c0_0, .int .i64 a0_1, .int .i64 a0_2] 26 (0, 0)) (by (with_reducible repeat (first | refine blk_drewN ?_ _ | refine blk_drew ?_ | refine blk_alloc ?_ _)); exact BK37001.out) hg (by simp [Value.ownBlock]))
                          have n3_ := Aside0.mk (blk_grown (g := gb37023) (o := .cells #[.int .i64 ((rd_T133 l5 x17_2).f1), .int .i64 0, .string (⟨#[115, 112, 114, 101, 97, 100]⟩ : ByteArray), .slice none 0 0] 34 (0, 0)) (by (with_reducible repeat (first | refine blk_drewN ?_ _ | refine blk_drew ?_ | refine blk_alloc ?_ _)); exact BK37023.out) hg (by simp [Value.ownBlock]))
                          have n4_ := Aside0.mk (Kd.R_after (Kd.R_apart_nil (by (with_reducible repeat (first | apply Kd.R_alloc | apply Kd.R_drewN | apply Kd.R_drew)); exact HO37030.out)) hg hat)
                          have n5_ := Aside0.mk (hb)
                          have n6_ := Aside0.mk (ho)
                          clear HO_13
                          clear HO_16
                          clear BK37001
                          clear BK37023
                          clear HO37030
                          clear HB
                          have HO_13 := n0_
                          have HO_16 := n1_
                          have BK37001 := n2_
                          have BK37023 := n3_
                          have HO37030 := n4_
                          have HB := n5_
                          have HO37033 := n6_
                          clear n0_ n1_ n2_ n3_ n4_ n5_ n6_
                          clear ho hb hg hat
                          obtain ⟨Ao52, co52, eo52⟩ := Kd.R_slice HO37033.out
                          (first | subst eo52 | (injection eo52 with f1_ f2_ f3_; have f4_ := f1_.symm; have f5_ := f3_.symm; clear f1_ f2_ f3_; subst f4_; subst f5_))
                          refine hK.out _ _ ?_
                          clear hK K
                          refine norm_ (a' := ?_) ?_ ?_
                          rotate_left
                          · show Act.put _ (some 118) _ = _
                            simp only [Act.put, List.setIfInBounds_toArray, List.set_cons_zero, List.set_cons_succ, i64_w, i32_w]
                            rfl
                          refine pure_ (i := 28) (N := some 119) (v := ?_) (a' := ?_) #[true, true, true, true, true, true, true, true, true, true, true, true, true, true, true, true, true, true, true, true, true, true, true, true, true, true, true, true, true, false] rfl rfl (any_of HT_.out (by kernel_rfl)) (fun _ _ _ h => h) (Or.inl ⟨by rfl, ?_⟩) ?_ ?_
                          rotate_left
                          · intro w'
                            go_simp
                            with_reducible rfl
                          rotate_left
                          · simp only [Act.put, List.setIfInBounds_toArray, List.set_cons_zero, List.set_cons_succ, i64_w, i32_w]
                            rfl
                          refine last_ (i := 29) (N := none) #[true, true, true, true, true, true, true, true, true, true, true, true, true, true, true, true, true, true, true, true, true, true, true, true, true, true, true, true, true, true] rfl rfl (one_of HT_.out (by kernel_rfl)) (by decide) (fun K hK => ?_)
                          have hs53 : w50.cell? ⟨gb37023, 3, none⟩ = some (.slice none 0 0) := (blk_cell BK37023.out 3).trans rfl
                          have hfs53 := blk_frozen BK37023.out 3
                          have hns53_0 := NB37001_37023.out
                          have hms53_0 := NB37023_37001.out
                          refine skip_ (w1 := ?_) (by rfl) rfl ?_ ?_
                          rotate_left
                          · go_simp
                            rfl
                          refine hK.out _ _ ?_
                          clear hK K
                          refine done_ (done_of HT_.out (by kernel_rfl)) ?_
                          have hcz54_0 : w50.cell? ⟨gb37001, 0, none⟩ = some (.slice A0_0 l0_0.length c0_0) := (blk_cell BK37001.out 0).trans rfl
                          have hcz54_1 : w50.cell? ⟨gb37001, 1, none⟩ = some (.int .i64 a0_1) := (blk_cell BK37001.out 1).trans rfl
                          have hcz54_2 : w50.cell? ⟨gb37001, 2, none⟩ = some (.int .i64 a0_2) := (blk_cell BK37001.out 2).trans rfl
                          have hfz54_0 := blk_frozen BK37001.out 0
                          have hfz54_1 := blk_frozen BK37001.out 1
                          have hfz54_2 := blk_frozen BK37001.out 2
                          have hcz55_0 : w50.cell? ⟨gb37023, 0, none⟩ = some (.int .i64 ((rd_T133 l5 x17_2).f1)) := (blk_cell BK37023.out 0).trans rfl
                          have hcz55_1 : w50.cell? ⟨gb37023, 1, none⟩ = some (.int .i64 0) := (blk_cell BK37023.out 1).trans rfl
                          have hcz55_2 : w50.cell? ⟨gb37023, 2, none⟩ = some (.string (⟨#[115, 112, 114, 101, 97, 100]⟩ : ByteArray)) := (blk_cell BK37023.out 2).trans rfl
                          have hcz55_3 : w50.cell? ⟨gb37023, 3, none⟩ = some (.slice none 0 0) := (blk_cell BK37023.out 3).trans rfl
                          have hfz55_0 := blk_frozen BK37023.out 0
                          have hfz55_1 := blk_frozen BK37023.out 1
                          have hfz55_2 := blk_frozen BK37023.out 2
                          have hfz55_3 := blk_frozen BK37023.out 3
                          try go_wp2_with (first | ((with_reducible refine gate_callee (f := 91) rfl ?_); refine goesL_ (some 122) rfl rfl Try.func91 (by kernel_rfl) rfl #[.agg #[.slice A0_0 l0_0.length c0_0, .int .i64 a0_1, .int .i64 a0_2], .agg #[.int .i64 ((rd_T133 l5 x17_2).f1), .int .i64 0, .string (⟨#[115, 112, 114, 101, 97, 100]⟩ : ByteArray), .slice Ao52 y37031.length co52]] rfl (by (try simp only [List.map_toArray, List.map_cons, List.map_nil]); first | done | rfl | (simp only [List.length_drop, List.length_take]; rfl)) ?_; (with_reducible refine (spec_EntryOk.calls _ _ l0_0 a0_1 a0_2 ((rd_T133 l5 x17_2).f1) 0 (⟨#[115, 112, 114, 101, 97, 100]⟩ : ByteArray) _ _ y37031 true _ ?side1 ?side2 ?side3 ?side4 A39.out).mono ?_); (case side1 => exact Kd.C_below HR0_0.out (by repeat (first | (with_reducible first | exact HB.out | apply below_alloc | apply pw_below_drewN | apply below_drew1 | refine below_set ?_ GE37001.out | refine below_set ?_ GE37023.out) | exact HB.out))); (case side2 => exact HC0_0.out); (case side3 => refine (Kd.R_reads' (e := 112) (base := w.heap.size) (ok := fun k_ => some k_ ≠ (.slice Ao51 y37028.length co51 : Value).ownBlock) (n := y37031.length) (c := co52) ?_).2.2; exact (by (with_reducible repeat (first | apply Kd.R_alloc | apply Kd.R_drewN | apply Kd.R_drew)); exact (Kd.R_mono (Kd.R_far (p := ⟨gb37023, 3, none⟩) (Kd.R_types HO37033.out BK37023.out (by decide)) (fun _ hk => hk.2) (.slice Ao52 y37031.length co52)) (fun _ h_ => h_.1)))); (case side4 => exact (Kd.R_reads' HO37033.out).2.1); rintro e w56 ⟨rfl, hb⟩; refine ⟨_, rfl, ?_⟩; have n0_ := Aside0.mk (Kd.S_below (by (with_reducible repeat (first | apply Kd.S_alloc | apply Kd.S_drewN | apply Kd.S_drew)); exact (Kd.S_mono (Kd.S_far (p := ⟨gb37023, 3, none⟩) (Kd.S_mono HO_13.out (fun k_ hk => (⟨hk, hk.1.1⟩ : _ ∧ k_ ≠ gb37023))) (fun _ hk => hk.2) (.slice Ao52 y37031.length co52)) (fun _ h_ => h_.1))) hb); have n1_ := Aside0.mk (Kd.R_below (by (with_reducible repeat (first | apply Kd.R_alloc | apply Kd.R_drewN | apply Kd.R_drew)); exact (Kd.R_mono (Kd.R_far (p := ⟨gb37023, 3, none⟩) (Kd.R_types HO_16.out BK37023.out (by decide)) (fun _ hk => hk.2) (.slice Ao52 y37031.length co52)) (fun _ h_ => h_.1))) hb); have n2_ := Aside0.mk (Kd.R_below (by (with_reducible repeat (first | apply Kd.R_alloc | apply Kd.R_drewN | apply Kd.R_drew)); exact (Kd.R_mono (Kd.R_far (p := ⟨gb37023, 3, none⟩) (Kd.R_types HO37030.out BK37023.out (by decide)) (fun _ hk => hk.2) (.slice Ao52 y37031.length co52)) (fun _ h_ => h_.1))) hb); have n3_ := Aside0.mk (Kd.R_below (by (with_reducible repeat (first | apply Kd.R_alloc | apply Kd.R_drewN | apply Kd.R_drew)); exact (Kd.R_mono (Kd.R_far (p := ⟨gb37023, 3, none⟩) (Kd.R_types HO37033.out BK37023.out (by decide)) (fun _ hk => hk.2) (.slice Ao52 y37031.length co52)) (fun _ h_ => h_.1))) hb); have n4_ := Aside0.mk (blk_below (g := gb37001) (o := .cells #[.slice A0_0 l0_0.length c0_0, .int .i64 a0_1, .int .i64 a0_2] 26 (0, 0)) (by (with_reducible repeat (first | refine blk_drewN ?_ _ | refine blk_drew ?_ | refine blk_alloc ?_ _)); refine blk_far ?_ NB37001_37023.out _; (with_reducible repeat (first | refine blk_drewN ?_ _ | refine blk_drew ?_ | refine blk_alloc ?_ _)); exact BK37001.out) hb); have n5_ := Aside0.mk (blk_below (g := gb37023) (o := .cells #[.int .i64 ((rd_T133 l5 x17_2).f1), .int .i64 0, .string (⟨#[115, 112, 114, 101, 97, 100]⟩ : ByteArray), .slice Ao52 y37031.length co52] 34 (0, 0)) (by (with_reducible repeat (first | refine blk_drewN ?_ _ | refine blk_drew ?_ | refine blk_alloc ?_ _)); refine blk_put (cs := #[.int .i64 ((rd_T133 l5 x17_2).f1), .int .i64 0, .string (⟨#[115, 112, 114, 101, 97, 100]⟩ : ByteArray), .slice none 0 0]) ?_ 3 _ rfl; (with_reducible repeat (first | refine blk_drewN ?_ _ | refine blk_drew ?_ | refine blk_alloc ?_ _)); exact BK37023.out) hb); have n6_ := Aside0.mk (below_step (by repeat (first | (with_reducible first | exact HB.out | apply below_alloc | apply pw_below_drewN | apply below_drew1 | refine below_set ?_ GE37001.out | refine below_set ?_ GE37023.out) | exact HB.out)) hb); clear HO_13; clear HO_16; clear HO37030; clear HO37033; clear BK37001; clear BK37023; clear HB; have HO_13 := n0_; have HO_16 := n1_; have HO37030 := n2_; have HO37033 := n3_; have BK37001 := n4_; have BK37023 := n5_; have HB := n6_; clear n0_ n1_ n2_ n3_ n4_ n5_ n6_; (try clear hb); (try clear hb2); (try clear hk); (try clear hi); have hcz57_0 : w56.cell? ⟨gb37023, 0, none⟩ = some (.int .i64 ((rd_T133 l5 x17_2).f1)) := (blk_cell BK37023.out 0).trans rfl; have hcz57_1 : w56.cell? ⟨gb37023, 1, none⟩ = some (.int .i64 0) := (blk_cell BK37023.out 1).trans rfl; have hcz57_2 : w56.cell? ⟨gb37023, 2, none⟩ = some (.string (⟨#[115, 112, 114, 101, 97, 100]⟩ : ByteArray)) := (blk_cell BK37023.out 2).trans rfl; have hcz57_3 : w56.cell? ⟨gb37023, 3, none⟩ = some (.slice Ao52 y37031.length co52) := (blk_cell BK37023.out 3).trans rfl; have hfz57_0 := blk_frozen BK37023.out 0; have hfz57_1 := blk_frozen BK37023.out 1; have hfz57_2 := blk_frozen BK37023.out 2; have hfz57_3 := blk_frozen BK37023.out 3) | ((with_reducible refine gate_builtin (b := .append) (xs := #[.tmp 125, .tmp 127]) rfl ?_); at_builtin; refine Kd.S_append k34 (w0 := w) w.heap.size rfl (.tmp 125) (.tmp 127) 27 34 (.agg #[(.int .i64 0), (.int .i64 0), (.string ⟨#[]⟩), (.slice none 0 0)]) 56 rfl Try.underlying27 info34 rfl (by decide) (by omega) u13 x13_2 (⟨(rd_T133 l5 x17_2).f1, 0, (⟨#[115, 112, 114, 101, 97, 100]⟩ : ByteArray), y37031⟩ : S34) [.int .i64 ((rd_T133 l5 x17_2).f1), .int .i64 0, .string (⟨#[115, 112, 114, 101, 97, 100]⟩ : ByteArray), .slice Ao52 y37031.length co52] (fun k_ => some k_ ≠ (.slice Ao51 y37028.length co51 : Value).ownBlock ∧ k_ ≠ gb37023) (fun k_ => some k_ = (.slice Ao52 y37031.length co52 : Value).ownBlock) rfl rfl ?aP (fun k_ hk_ => ((Kd.R_mono (ok' := fun k_ => ((fun k_ => some k_ ≠ (.slice Ao51 y37028.length co51 : Value).ownBlock ∧ k_ ≠ gb37023)) k_ ∧ some k_ ≠ (u13 : Value).ownBlock) (Kd.R_types (Kd.R_apart' (HO37033.out) (Kd.S_typed HO_13.out) (by decide)) BK37023.out (by decide)) (fun k_ hk => ⟨⟨hk.1.1, hk.2⟩, hk.1.2⟩))).1 k_ hk_.symm) ?aF ?aO ?aB ?aS ?aL ?_; (case aP => exact k34_mkM _ _ _ (⟨(rd_T133 l5 x17_2).f1, 0, (⟨#[115, 112, 114, 101, 97, 100]⟩ : ByteArray), y37031⟩ : S34) (Kd.R_mono (Kd.R_tight rfl (Kd.R_mono (ok' := fun k_ => ((fun k_ => some k_ ≠ (.slice Ao51 y37028.length co51 : Value).ownBlock ∧ k_ ≠ gb37023)) k_ ∧ some k_ ≠ (u13 : Value).ownBlock) (Kd.R_types (Kd.R_apart' (HO37033.out) (Kd.S_typed HO_13.out) (by decide)) BK37023.out (by decide)) (fun k_ hk => ⟨⟨hk.1.1, hk.2⟩, hk.1.2⟩))) (fun _ h_ => h_))); (case aB => exact (by repeat (first | (with_reducible first | exact HB.out | apply below_alloc | apply pw_below_drewN | apply below_drew1 | refine below_set ?_ GE37001.out | refine below_set ?_ GE37023.out) | exact HB.out))); (case aF => exact (fun k_ hk => ⟨Kd.fresh' (Kd.R_lt (by (with_reducible repeat (first | apply Kd.R_alloc | apply Kd.R_drewN | apply Kd.R_drew)); exact HO37030.out)) k_ hk, Kd.freshB (g := gb37023) (o := .cells #[.int .i64 ((rd_T133 l5 x17_2).f1), .int .i64 0, .string (⟨#[115, 112, 114, 101, 97, 100]⟩ : ByteArray), .slice Ao52 y37031.length co52] 34 (0, 0)) (by (with_reducible repeat (first | refine blk_drewN ?_ _ | refine blk_drew ?_ | refine blk_alloc ?_ _)); exact BK37023.out) k_ hk⟩)); (case aO => exact (by (with_reducible repeat (first | apply Kd.S_alloc | apply Kd.S_drewN | apply Kd.S_drew)); exact Kd.S_mono HO_13.out (fun k_ hk => ⟨⟨hk.1.2, hk.1.1⟩, fun e_ => hk.2 e_⟩))); (case aS => exact (below_size (by repeat (first | (with_reducible first | exact HB.out | apply below_alloc | apply pw_below_drewN | apply below_drew1 | refine below_set ?_ GE37001.out | refine below_set ?_ GE37023.out) | exact HB.out)))); (case aL => have := LMc41.out; omega); intro v37036 w58 ho hb hg hat; rw [← Ny37035.out] at ho; have n0_ := Aside0.mk (Kd.R_over' (by (with_reducible repeat (first | apply Kd.R_alloc | apply Kd.R_drewN | apply Kd.R_drew)); exact HO_16.out) (Kd.S_typed (by (with_reducible repeat (first | apply Kd.S_alloc | apply Kd.S_drewN | apply Kd.S_drew)); exact HO_13.out)) (by decide) hg); have n1_ := Aside0.mk (blk_grown (g := gb37001) (o := .cells #[.slice A0_0 l0_0.length c0_0, .int .i64 a0_1, .int .i64 a0_2] 26 (0, 0)) (by (with_reducible repeat (first | refine blk_drewN ?_ _ | refine blk_drew ?_ | refine blk_alloc ?_ _)); exact BK37001.out) hg (Kd.S_ne HO_13.out BK37001.out (by decide))); have n2_ := Aside0.mk (blk_grown (g := gb37023) (o := .cells #[.int .i64 ((rd_T133 l5 x17_2).f1), .int .i64 0, .string (⟨#[115, 112, 114, 101, 97, 100]⟩ : ByteArray), .slice Ao52 y37031.length co52] 34 (0, 0)) (by (with_reducible repeat (first | refine blk_drewN ?_ _ | refine blk_drew ?_ | refine blk_alloc ?_ _)); exact BK37023.out) hg (Kd.S_away HO_13.out (fun _ hk => hk.1.1))); have n3_ := Aside0.mk (Kd.R_over' (by (with_reducible repeat (first | apply Kd.R_alloc | apply Kd.R_drewN | apply Kd.R_drew)); exact HO37030.out) (Kd.S_typed (by (with_reducible repeat (first | apply Kd.S_alloc | apply Kd.S_drewN | apply Kd.S_drew)); exact HO_13.out)) (by decide) hg); have n4_ := Aside0.mk (hb); have n5_ := Aside0.mk (ho); clear HO_16; clear BK37001; clear BK37023; clear HO37030; clear HB; clear HO_13; clear HO37033; have HO_16 := n0_; have BK37001 := n1_; have BK37023 := n2_; have HO37030 := n3_; have HB := n4_; have HO37037 := n5_; clear n0_ n1_ n2_ n3_ n4_ n5_; clear ho hb hg hat))
                          go_roundg k2
                          case measure => have := HK1.out; have := HK2.out; omega
                          case rel => exact ⟨(y37035), (wrap64 (x17_2 + 1)), (by first | rfl | (simp; done) | (simp [*]; done)), H', ⟨by have := HK1.out; have := HK2.out; omega⟩, ⟨by (with_reducible repeat (first | apply Kd.S_alloc | apply Kd.S_drewN | apply Kd.S_drew)); exact Kd.S_mono HO37037.out (fun _ hk => trivial)⟩, ⟨by (with_reducible repeat (first | apply Kd.R_alloc | apply Kd.R_drewN | apply Kd.R_drew)); exact HO_16.out⟩, ⟨by (with_reducible repeat (first | refine blk_drewN ?_ _ | refine blk_drew ?_ | refine blk_alloc ?_ _)); exact BK37001.out⟩, ⟨by repeat (first | (with_reducible first | exact HB.out | apply below_alloc | apply pw_below_drewN | apply below_drew1 | refine below_set ?_ GE37001.out | refine below_set ?_ GE37023.out) | exact HB.out)⟩⟩
                        · rw [if_neg c41] at H
                          exact absurd H (by simp)
                      · replace c40 := Bool.eq_false_iff.mpr c40
                        subst c40
                        have H1 : (some (([] : List (S34)))) = some r := by rw [if_neg (show ¬ (false = true) by decide)] at H; exact H
                        clear H
                        have H := H1
                        clear H1
                        obtain ⟨y37038, hy37038⟩ : ∃ y_ : List (S34), y_ = (([] : List (S34))) := ⟨_, rfl⟩
                        replace H : (some y37038) = some r := by first | (rw [hy37038]; with_reducible exact H) | (have H2_ := (Option.bind_some _ _).symm.trans H; rw [hy37038]; with_reducible exact H2_) | (have H2_ := (Option.bind_some _ _).symm.trans H; with_reducible exact H2_) | with_reducible exact H | (rw [hy37038]; exact H) | exact H
                        have Ny37038 := Aside0.mk hy37038
                        clear hy37038
                        obtain rfl := Option.some.inj H
                        obtain ⟨Ao59, co59, eo59⟩ := Kd.R_slice HO_16.out
                        subst eo59
                        have p37022 : 0 ≤ (x17_2 : Int) := of_decide_eq_true (by first | (with_reducible assumption) | assumption)
                        have q37022 : x17_2 < (l5.length : Int) := of_decide_eq_true (by first | (with_reducible assumption) | assumption)
                        obtain ⟨ad37022, e37022, hx37022_0, hx37022_1⟩ := at_T133 HR5.out x17_2 p37022 q37022
                        cases e37022
                        replace hx37022_0 := (HB.out.cell (World.block_lt_of_cell? w _ hx37022_0)).trans hx37022_0
                        replace hx37022_1 := (HB.out.cell (World.block_lt_of_cell? w _ hx37022_1)).trans hx37022_1
                        replace p37022 := eq_true p37022
                        replace q37022 := eq_true q37022
                        try go_wp2_with (first | ((with_reducible refine gate_dst (N := 18) rfl ?_); refine box_event ?hg (N := 18) ?hd (cs := #[.int .i64 0, .int .i64 0, .string (⟨#[]⟩ : ByteArray), .slice none 0 0]) (t := 34) ?hr ?_; (case hd => rfl); (case hg => rfl); (case hr => first | (go_simp; done) | (go_simp; rfl)); intro gb37023 hg w60 hbox hb; have n0_ := Aside0.mk (Kd.S_below (Kd.S_elderB (by (with_reducible repeat (first | apply Kd.S_alloc | apply Kd.S_drewN | apply Kd.S_drew)); exact HO_13.out) gb37023 (Nat.le_of_eq hg.symm)) hb); have n1_ := Aside0.mk (Kd.R_below (by (with_reducible repeat (first | apply Kd.R_alloc | apply Kd.R_drewN | apply Kd.R_drew)); exact HO_16.out) hb); have n2_ := Aside0.mk (blk_below (g := gb37001) (o := .cells #[.slice A0_0 l0_0.length c0_0, .int .i64 a0_1, .int .i64 a0_2] 26 (0, 0)) (by (with_reducible repeat (first | refine blk_drewN ?_ _ | refine blk_drew ?_ | refine blk_alloc ?_ _)); exact BK37001.out) hb); have n3_ := Aside0.mk (below_step (by repeat (first | (with_reducible first | exact HB.out | apply below_alloc | apply pw_below_drewN | apply below_drew1 | refine below_set ?_ GE37001.out) | exact HB.out)) hb); have n4_ := Aside0.mk (hbox); have n5_ := Aside0.mk ((by rw [hg]; exact (below_size (by repeat (first | (with_reducible first | exact HB.out | apply below_alloc | apply pw_below_drewN | apply below_drew1 | refine below_set ?_ GE37001.out) | exact HB.out))) : w.heap.size ≤ gb37023)); have n6_ := Aside0.mk ((by rw [hg]; exact (below_size (by repeat (first | (with_reducible first | exact HB.out | apply below_alloc | apply pw_below_drewN | apply below_drew1 | refine below_set ?_ GE37001.out) | exact HB.out))) : w.heap.size ≤ gb37023)); have n7_ := Aside0.mk ((by rw [hg]; exact Nat.ne_of_lt (blk_lt (g := gb37001) (o := .cells #[.slice A0_0 l0_0.length c0_0, .int .i64 a0_1, .int .i64 a0_2] 26 (0, 0)) (by (with_reducible repeat (first | refine blk_drewN ?_ _ | refine blk_drew ?_ | refine blk_alloc ?_ _)); exact BK37001.out)) : gb37001 ≠ gb37023)); have n8_ := Aside0.mk ((by rw [hg]; exact Nat.ne_of_gt (blk_lt (g := gb37001) (o := .cells #[.slice A0_0 l0_0.length c0_0, .int .i64 a0_1, .int .i64 a0_2] 26 (0, 0)) (by (with_reducible repeat (first | refine blk_drewN ?_ _ | refine blk_drew ?_ | refine blk_alloc ?_ _)); exact BK37001.out)) : gb37023 ≠ gb37001)); clear HO_13; clear HO_16; clear BK37001; clear HB; have HO_13 := n0_; have HO_16 := n1_; have BK37001 := n2_; have HB := n3_; have BK37023 := n4_; have GW37023 := n5_; have GE37023 := n6_; have NB37001_37023 := n7_; have NB37023_37001 := n8_; clear n0_ n1_ n2_ n3_ n4_ n5_ n6_ n7_ n8_; clear hb hbox hg; have hnb61 := NB37023_37001.out; have hnc61 := NB37001_37023.out; have hcz62_0 : w60.cell? ⟨gb37023, 0, none⟩ = some (.int .i64 0) := (blk_cell BK37023.out 0).trans rfl; have hcz62_1 : w60.cell? ⟨gb37023, 1, none⟩ = some (.int .i64 0) := (blk_cell BK37023.out 1).trans rfl; have hcz62_2 : w60.cell? ⟨gb37023, 2, none⟩ = some (.string (⟨#[]⟩ : ByteArray)) := (blk_cell BK37023.out 2).trans rfl; have hcz62_3 : w60.cell? ⟨gb37023, 3, none⟩ = some (.slice none 0 0) := (blk_cell BK37023.out 3).trans rfl; have hfz62_0 := blk_frozen BK37023.out 0; have hfz62_1 := blk_frozen BK37023.out 1; have hfz62_2 := blk_frozen BK37023.out 2; have hfz62_3 := blk_frozen BK37023.out 3))
                        have n0_ : Aside0 (Kd.S k34 34 ((((w60.setCell ⟨gb37023, 0, none⟩ (.int .i64 ((rd_T133 l5 x17_2).f1))).setCell ⟨gb37023, 1, none⟩ (.int .i64 0)).setCell ⟨gb37023, 2, none⟩ (.string (⟨#[115, 112, 114, 101, 97, 100]⟩ : ByteArray))).setCell ⟨gb37023, 3, none⟩ (.slice none 0 0)) w.heap.size (fun k_ => k_ ≠ gb37023) u13 x13_2) := ⟨by (with_reducible repeat (first | apply Kd.S_alloc | apply Kd.S_drewN | apply Kd.S_drew)); exact Kd.S_mono (Kd.S_far (p := ⟨gb37023, 3, none⟩) (Kd.S_far (p := ⟨gb37023, 2, none⟩) (Kd.S_far (p := ⟨gb37023, 1, none⟩) (Kd.S_far (p := ⟨gb37023, 0, none⟩) (Kd.S_mono HO_13.out (fun k_ hk => (⟨hk, hk.2⟩ : _ ∧ k_ ≠ gb37023))) (fun _ hk => hk.2) (.int .i64 ((rd_T133 l5 x17_2).f1))) (fun _ hk => hk.2) (.int .i64 0)) (fun _ hk => hk.2) (.string (⟨#[115, 112, 114, 101, 97, 100]⟩ : ByteArray))) (fun _ hk => hk.2) (.slice none 0 0)) (fun _ hk => hk.1.2)⟩
                        have n1_ : Aside0 (Kd.R (Kd.int .i64) 3 ((((w60.setCell ⟨gb37023, 0, none⟩ (.int .i64 ((rd_T133 l5 x17_2).f1))).setCell ⟨gb37023, 1, none⟩ (.int .i64 0)).setCell ⟨gb37023, 2, none⟩ (.string (⟨#[115, 112, 114, 101, 97, 100]⟩ : ByteArray))).setCell ⟨gb37023, 3, none⟩ (.slice none 0 0)) w.heap.size (fun _ => True) (.slice Ao59 t37019.length co59) t37019) := ⟨by (with_reducible repeat (first | apply Kd.R_alloc | apply Kd.R_drewN | apply Kd.R_drew)); exact Kd.R_mono (Kd.R_far (p := ⟨gb37023, 3, none⟩) (Kd.R_far (p := ⟨gb37023, 2, none⟩) (Kd.R_far (p := ⟨gb37023, 1, none⟩) (Kd.R_far (p := ⟨gb37023, 0, none⟩) (Kd.R_types HO_16.out BK37023.out (by decide)) (fun _ hk => hk.2) (.int .i64 ((rd_T133 l5 x17_2).f1))) (fun _ hk => hk.2) (.int .i64 0)) (fun _ hk => hk.2) (.string (⟨#[115, 112, 114, 101, 97, 100]⟩ : ByteArray))) (fun _ hk => hk.2) (.slice none 0 0)) (fun _ hk => trivial)⟩
                        have n2_ : Aside0 (((((w60.setCell ⟨gb37023, 0, none⟩ (.int .i64 ((rd_T133 l5 x17_2).f1))).setCell ⟨gb37023, 1, none⟩ (.int .i64 0)).setCell ⟨gb37023, 2, none⟩ (.string (⟨#[115, 112, 114, 101, 97, 100]⟩ : ByteArray))).setCell ⟨gb37023, 3, none⟩ (.slice none 0 0)).heap[gb37001]? = some (.cells #[.slice A0_0 l0_0.length c0_0, .int .i64 a0_1, .int .i64 a0_2] 26 (0, 0))) := ⟨by (with_reducible repeat (first | refine blk_drewN ?_ _ | refine blk_drew ?_ | refine blk_alloc ?_ _)); refine blk_far ?_ NB37001_37023.out _; (with_reducible repeat (first | refine blk_drewN ?_ _ | refine blk_drew ?_ | refine blk_alloc ?_ _)); refine blk_far ?_ NB37001_37023.out _; (with_reducible repeat (first | refine blk_drewN ?_ _ | refine blk_drew ?_ | refine blk_alloc ?_ _)); refine blk_far ?_ NB37001_37023.out _; (with_reducible repeat (first | refine blk_drewN ?_ _ | refine blk_drew ?_ | refine blk_alloc ?_ _)); refine blk_far ?_ NB37001_37023.out _; (with_reducible repeat (first | refine blk_drewN ?_ _ | refine blk_drew ?_ | refine blk_alloc ?_ _)); exact BK37001.out⟩
                        have n3_ : Aside0 (((((w60.setCell ⟨gb37023, 0, none⟩ (.int .i64 ((rd_T133 l5 x17_2).f1))).setCell ⟨gb37023, 1, none⟩ (.int .i64 0)).setCell ⟨gb37023, 2, none⟩ (.string (⟨#[115, 112, 114, 101, 97, 100]⟩ : ByteArray))).setCell ⟨gb37023, 3, none⟩ (.slice none 0 0)).heap[gb37023]? = some (.cells #[.int .i64 ((rd_T133 l5 x17_2).f1), .int .i64 0, .string (⟨#[115, 112, 114, 101, 97, 100]⟩ : ByteArray), .slice none 0 0] 34 (0, 0))) := ⟨by (with_reducible repeat (first | refine blk_drewN ?_ _ | refine blk_drew ?_ | refine blk_alloc ?_ _)); refine blk_put (cs := #[.int .i64 ((rd_T133 l5 x17_2).f1), .int .i64 0, .string (⟨#[115, 112, 114, 101, 97, 100]⟩ : ByteArray), .slice none 0 0]) ?_ 3 _ rfl; (with_reducible repeat (first | refine blk_drewN ?_ _ | refine blk_drew ?_ | refine blk_alloc ?_ _)); refine blk_put (cs := #[.int .i64 ((rd_T133 l5 x17_2).f1), .int .i64 0, .string (⟨#[]⟩ : ByteArray), .slice none 0 0]) ?_ 2 _ rfl; (with_reducible repeat (first | refine blk_drewN ?_ _ | refine blk_drew ?_ | refine blk_alloc ?_ _)); refine blk_put (cs := #[.int .i64 ((rd_T133 l5 x17_2).f1), .int .i64 0, .string (⟨#[]⟩ : ByteArray), .slice none 0 0]) ?_ 1 _ rfl; (with_reducible repeat (first | refine blk_drewN ?_ _ | refine blk_drew ?_ | refine blk_alloc ?_ _)); refine blk_put (cs := #[.int .i64 0, .int .i64 0, .string (⟨#[]⟩ : ByteArray), .slice none 0 0]) ?_ 0 _ rfl; (with_reducible repeat (first | refine blk_drewN ?_ _ | refine blk_drew ?_ | refine blk_alloc ?_ _)); exact BK37023.out⟩
                        have n4_ : Aside0 (Below w.heap.size w ((((w60.setCell ⟨gb37023, 0, none⟩ (.int .i64 ((rd_T133 l5 x17_2).f1))).setCell ⟨gb37023, 1, none⟩ (.int .i64 0)).setCell ⟨gb37023, 2, none⟩ (.string (⟨#[115, 112, 114, 101, 97, 100]⟩ : ByteArray))).setCell ⟨gb37023, 3, none⟩ (.slice none 0 0))) := ⟨by repeat (first | (with_reducible first | exact HB.out | apply below_alloc | apply pw_below_drewN | apply below_drew1 | refine below_set ?_ GE37001.out | refine below_set ?_ GE37023.out) | exact HB.out)⟩
                        (try clear HO_13)
                        (try clear HO_16)
                        (try clear BK37001)
                        (try clear BK37023)
                        (try clear HB)
                        generalize ((((w60.setCell ⟨gb37023, 0, none⟩ (.int .i64 ((rd_T133 l5 x17_2).f1))).setCell ⟨gb37023, 1, none⟩ (.int .i64 0)).setCell ⟨gb37023, 2, none⟩ (.string (⟨#[115, 112, 114, 101, 97, 100]⟩ : ByteArray))).setCell ⟨gb37023, 3, none⟩ (.slice none 0 0)) = w63 at n0_ n1_ n2_ n3_ n4_ ⊢
                        have HO_13 := n0_
                        have HO_16 := n1_
                        have BK37001 := n2_
                        have BK37023 := n3_
                        have HB := n4_
                        clear n0_ n1_ n2_ n3_ n4_
                        have n0_ := Aside0.mk (Kd.S_drew HO_13.out)
                        have n1_ := Aside0.mk (Kd.R_drew HO_16.out)
                        have n2_ := Aside0.mk (blk_drew BK37001.out)
                        have n3_ := Aside0.mk (blk_drew BK37023.out)
                        have n4_ := Aside0.mk (below_drew1 HB.out)
                        clear HO_13
                        clear HO_16
                        clear BK37001
                        clear BK37023
                        clear HB
                        have HO_13 := n0_
                        have HO_16 := n1_
                        have BK37001 := n2_
                        have BK37023 := n3_
                        have HB := n4_
                        clear n0_ n1_ n2_ n3_ n4_
                        have p37024 : 0 ≤ (x17_2 : Int) := of_decide_eq_true (by first | (with_reducible assumption) | assumption)
                        have q37024 : x17_2 < (t37019.length : Int) := of_decide_eq_true (by first | (with_reducible assumption) | assumption)
                        obtain ⟨ad37024, e37024, hx37024_0⟩ := Kd.at_int (Kd.R_reads' HO_16.out).2.2 x17_2 p37024 q37024
                        cases e37024
                        replace p37024 := eq_true p37024
                        replace q37024 := eq_true q37024
                        have p37025 : 0 ≤ (x17_2 : Int) := of_decide_eq_true (by first | (with_reducible assumption) | assumption)
                        have q37025 : x17_2 < (t37019.length : Int) := of_decide_eq_true (by first | (with_reducible assumption) | assumption)
                        obtain ⟨ad37025, e37025, hx37025_0⟩ := Kd.at_int (Kd.R_reads' HO_16.out).2.2 x17_2 p37025 q37025
                        obtain rfl : ad37024 = ad37025 := (by injection e37025)
                        replace p37025 := eq_true p37025
                        replace q37025 := eq_true q37025
                        have p37026 : 0 ≤ (x17_2 : Int) := of_decide_eq_true (by first | (with_reducible assumption) | assumption)
                        have q37026 : x17_2 < (t37019.length : Int) := of_decide_eq_true (by first | (with_reducible assumption) | assumption)
                        obtain ⟨ad37026, e37026, hx37026_0⟩ := Kd.at_int (Kd.R_reads' HO_16.out).2.2 x17_2 p37026 q37026
                        obtain rfl : ad37024 = ad37026 := (by injection e37026)
                        replace p37026 := eq_true p37026
                        replace q37026 := eq_true q37026
                        have p37027 : 0 ≤ (x17_2 : Int) := of_decide_eq_true (by first | (with_reducible assumption) | assumption)
                        have q37027 : x17_2 < (t37019.length : Int) := of_decide_eq_true (by first | (with_reducible assumption) | assumption)
                        obtain ⟨ad37027, e37027, hx37027_0⟩ := Kd.at_int (Kd.R_reads' HO_16.out).2.2 x17_2 p37027 q37027
                        obtain rfl : ad37024 = ad37027 := (by injection e37027)
                        replace p37027 := eq_true p37027
                        replace q37027 := eq_true q37027
                        refine start_ (n := 30) (S := fun w' => w'.cell? ⟨gb37023, 0, none⟩ = some (.int .i64 ((rd_T133 l5 x17_2).f1)) ∧ w'.cell? ⟨gb37023, 1, none⟩ = some (.int .i64 0) ∧ w'.cell? ⟨gb37023, 2, none⟩ = some (.string (⟨#[115, 112, 114, 101, 97, 100]⟩ : ByteArray)) ∧ w'.cell? ⟨gb37023, 3, none⟩ = some (.slice none 0 0) ∧ w'.cell? (ad37024.add (x17_2).toNat) = some (.int .i64 (rd t37019 x17_2)) ∧ w'.cell? (ad37024.add (x17_2).toNat) = some (.int .i64 (rd t37019 x17_2)) ∧ w'.cell? (ad37024.add (x17_2).toNat) = some (.int .i64 (rd t37019 x17_2)) ∧ w'.cell? (ad37024.add (x17_2).toNat) = some (.int .i64 (rd t37019 x17_2))) (ds := [27, 29]) #[false, false, false, false, false, false, false, false, false, false, false, false, false, false, false, false, false, false, false, false, false, false, false, false, false, false, false, false, false, false] (by kernel_rfl) rfl rfl ⟨(blk_cell BK37023.out 0).trans rfl, (blk_cell BK37023.out 1).trans rfl, (blk_cell BK37023.out 2).trans rfl, (blk_cell BK37023.out 3).trans rfl, hx37024_0, hx37025_0, hx37026_0, hx37027_0⟩ (fun hHeld => ?_); refine with_tabW spec_Spread.tab16 spec_Spread.bits16 (fun HT_ HW_ => ?_)
                        generalize w63.drew = w64 at HO_13 HO_16 BK37001 BK37023 HB hx37024_0 hx37025_0 hx37026_0 hx37027_0 hHeld ⊢
                        refine pure_ (i := 0) (N := some 91) (v := ?_) (a' := ?_) #[true, false, false, false, false, false, false, false, false, false, false, false, false, false, false, false, false, false, false, false, false, false, false, false, false, false, false, false, false, false] rfl rfl (any_of HT_.out (by kernel_rfl)) (fun _ _ _ h => h) (Or.inl ⟨by rfl, ?_⟩) ?_ ?_
                        rotate_left
                        · intro w'
                          go_simp
                          with_reducible rfl
                        rotate_left
                        · simp only [Act.put, List.setIfInBounds_toArray, List.set_cons_zero, List.set_cons_succ, i64_w, i32_w]
                          rfl
                        refine pure_ (i := 2) (N := some 93) (v := ?_) (a' := ?_) #[true, false, true, false, false, false, false, false, false, false, false, false, false, false, false, false, false, false, false, false, false, false, false, false, false, false, false, false, false, false] rfl rfl (any_of HT_.out (by kernel_rfl)) (fun _ _ _ h => h) (Or.inl ⟨by rfl, ?_⟩) ?_ ?_
                        rotate_left
                        · intro w'
                          go_simp
                          with_reducible rfl
                        rotate_left
                        · simp only [Act.put, List.setIfInBounds_toArray, List.set_cons_zero, List.set_cons_succ, i64_w, i32_w]
                          rfl
                        refine pure_ (i := 3) (N := some 94) (v := ?_) (a' := ?_) #[true, false, true, true, false, false, false, false, false, false, false, false, false, false, false, false, false, false, false, false, false, false, false, false, false, false, false, false, false, false] rfl rfl (any_of HT_.out (by kernel_rfl)) (fun _ _ _ h => h) (Or.inl ⟨by rfl, ?_⟩) ?_ ?_
                        rotate_left
                        · intro w'
                          go_simp
                          with_reducible rfl
                        rotate_left
                        · simp only [Act.put, List.setIfInBounds_toArray, List.set_cons_zero, List.set_cons_succ, i64_w, i32_w]
                          rfl
                        refine pure_ (i := 4) (N := some 95) (v := ?_) (a' := ?_) #[true, false, true, true, true, false, false, false, false, false, false, false, false, false, false, false, false, false, false, false, false, false, false, false, false, false, false, false, false, false] rfl rfl (any_of HT_.out (by kernel_rfl)) (fun _ _ _ h => h) (Or.inl ⟨by rfl, ?_⟩) ?_ ?_
                        rotate_left
                        · intro w'
                          go_simp
                          with_reducible rfl
                        rotate_left
                        · simp only [Act.put, List.setIfInBounds_toArray, List.set_cons_zero, List.set_cons_succ, i64_w, i32_w]
                          rfl
                        refine pure_ (i := 5) (N := some 96) (v := ?_) (a' := ?_) #[true, false, true, true, true, true, false, false, false, false, false, false, false, false, false, false, false, false, false, false, false, false, false, false, false, false, false, false, false, false] rfl rfl (any_of HT_.out (by kernel_rfl)) (fun _ _ _ h => h) (Or.inl ⟨by rfl, ?_⟩) ?_ ?_
                        rotate_left
                        · intro w'
                          go_simp
                          with_reducible rfl
                        rotate_left
                        · simp only [Act.put, List.setIfInBounds_toArray, List.set_cons_zero, List.set_cons_succ, i64_w, i32_w]
                          rfl
                        refine pure_ (i := 6) (N := some 97) (v := ?_) (a' := ?_) #[true, false, true, true, true, true, true, false, false, false, false, false, false, false, false, false, false, false, false, false, false, false, false, false, false, false, false, false, false, false] rfl rfl (any_of HT_.out (by kernel_rfl)) (fun _ _ _ h => h) (Or.inl ⟨by rfl, ?_⟩) ?_ ?_
                        rotate_left
                        · intro w'
                          go_simp
                          with_reducible rfl
                        rotate_left
                        · simp only [Act.put, List.setIfInBounds_toArray, List.set_cons_zero, List.set_cons_succ, i64_w, i32_w]
                          rfl
                        refine pure_ (i := 8) (N := some 99) (v := ?_) (a' := ?_) #[true, false, true, true, true, true, true, false, true, false, false, false, false, false, false, false, false, false, false, false, false, false, false, false, false, false, false, false, false, false] rfl rfl (any_of HT_.out (by kernel_rfl)) (fun _ _ _ h => h) (Or.inl ⟨by rfl, ?_⟩) ?_ ?_
                        rotate_left
                        · intro w'
                          go_simp
                          with_reducible rfl
                        rotate_left
                        · simp only [Act.put, List.setIfInBounds_toArray, List.set_cons_zero, List.set_cons_succ, i64_w, i32_w]
                          rfl
                        refine pure_ (i := 9) (N := some 100) (v := ?_) (a' := ?_) #[true, false, true, true, true, true, true, false, true, true, false, false, false, false, false, false, false, false, false, false, false, false, false, false, false, false, false, false, false, false] rfl rfl (any_of HT_.out (by kernel_rfl)) (fun _ _ _ h => h) (Or.inl ⟨by rfl, ?_⟩) ?_ ?_
                        rotate_left
                        · intro w'
                          go_simp
                          with_reducible rfl
                        rotate_left
                        · simp only [Act.put, List.setIfInBounds_toArray, List.set_cons_zero, List.set_cons_succ, i64_w, i32_w]
                          rfl
                        refine pure_ (i := 10) (N := some 101) (v := ?_) (a' := ?_) #[true, false, true, true, true, true, true, false, true, true, true, false, false, false, false, false, false, false, false, false, false, false, false, false, false, false, false, false, false, false] rfl rfl (any_of HT_.out (by kernel_rfl)) (fun _ _ _ h => h) (Or.inl ⟨by rfl, ?_⟩) ?_ ?_
                        rotate_left
                        · intro w'
                          go_simp
                          with_reducible rfl
                        rotate_left
                        · simp only [Act.put, List.setIfInBounds_toArray, List.set_cons_zero, List.set_cons_succ, i64_w, i32_w]
                          rfl
                        refine pure_ (i := 13) (N := some 104) (v := ?_) (a' := ?_) #[true, false, true, true, true, true, true, false, true, true, true, false, false, true, false, false, false, false, false, false, false, false, false, false, false, false, false, false, false, false] rfl rfl (any_of HT_.out (by kernel_rfl)) (fun _ _ _ h => h) (Or.inl ⟨by rfl, ?_⟩) ?_ ?_
                        rotate_left
                        · intro w'
                          go_simp
                          with_reducible rfl
                        rotate_left
                        · simp only [Act.put, List.setIfInBounds_toArray, List.set_cons_zero, List.set_cons_succ, i64_w, i32_w]
                          rfl
                        refine pure_ (i := 14) (N := some 105) (v := ?_) (a' := ?_) #[true, false, true, true, true, true, true, false, true, true, true, false, false, true, true, false, false, false, false, false, false, false, false, false, false, false, false, false, false, false] rfl rfl (any_of HT_.out (by kernel_rfl)) (fun _ _ _ h => h) (Or.inl ⟨by rfl, ?_⟩) ?_ ?_
                        rotate_left
                        · intro w'
                          go_simp
                          with_reducible rfl
                        rotate_left
                        · simp only [Act.put, List.setIfInBounds_toArray, List.set_cons_zero, List.set_cons_succ, i64_w, i32_w]
                          rfl
                        refine pure_ (i := 15) (N := some 106) (v := ?_) (a' := ?_) #[true, false, true, true, true, true, true, false, true, true, true, false, false, true, true, true, false, false, false, false, false, false, false, false, false, false, false, false, false, false] rfl rfl (any_of HT_.out (by kernel_rfl)) (fun _ _ _ h => h) (Or.inl ⟨by rfl, ?_⟩) ?_ ?_
                        rotate_left
                        · intro w'
                          go_simp
                          with_reducible rfl
                        rotate_left
                        · simp only [Act.put, List.setIfInBounds_toArray, List.set_cons_zero, List.set_cons_succ, i64_w, i32_w]
                          rfl
                        refine pure_ (i := 16) (N := some 107) (v := ?_) (a' := ?_) #[true, false, true, true, true, true, true, false, true, true, true, false, false, true, true, true, true, false, false, false, false, false, false, false, false, false, false, false, false, false] rfl rfl (any_of HT_.out (by kernel_rfl)) (fun _ _ _ h => h) (Or.inl ⟨by rfl, ?_⟩) ?_ ?_
                        rotate_left
                        · intro w'
                          go_simp
                          with_reducible rfl
                        rotate_left
                        · simp only [Act.put, List.setIfInBounds_toArray, List.set_cons_zero, List.set_cons_succ, i64_w, i32_w]
                          rfl
                        refine pure_ (i := 17) (N := some 108) (v := ?_) (a' := ?_) #[true, false, true, true, true, true, true, false, true, true, true, false, false, true, true, true, true, true, false, false, false, false, false, false, false, false, false, false, false, false] rfl rfl (any_of HT_.out (by kernel_rfl)) (fun _ _ _ h => h) (Or.inl ⟨by rfl, ?_⟩) ?_ ?_
                        rotate_left
                        · intro w'
                          go_simp
                          with_reducible rfl
                        rotate_left
                        · simp only [Act.put, List.setIfInBounds_toArray, List.set_cons_zero, List.set_cons_succ, i64_w, i32_w]
                          rfl
                        refine pure_ (i := 20) (N := some 111) (v := ?_) (a' := ?_) #[true, false, true, true, true, true, true, false, true, true, true, false, false, true, true, true, true, true, false, false, true, false, false, false, false, false, false, false, false, false] rfl rfl (any_of HT_.out (by kernel_rfl)) (fun _ _ _ h => h) (Or.inl ⟨by rfl, ?_⟩) ?_ ?_
                        rotate_left
                        · intro w'
                          go_simp
                          with_reducible rfl
                        rotate_left
                        · simp only [Act.put, List.setIfInBounds_toArray, List.set_cons_zero, List.set_cons_succ, i64_w, i32_w]
                          rfl
                        refine pure_ (i := 21) (N := some 112) (v := ?_) (a' := ?_) #[true, false, true, true, true, true, true, false, true, true, true, false, false, true, true, true, true, true, false, false, true, true, false, false, false, false, false, false, false, false] rfl rfl (any_of HT_.out (by kernel_rfl)) (fun _ _ _ h => h) (Or.inl ⟨by rfl, ?_⟩) ?_ ?_
                        rotate_left
                        · intro w'
                          go_simp
                          with_reducible rfl
                        rotate_left
                        · simp only [Act.put, List.setIfInBounds_toArray, List.set_cons_zero, List.set_cons_succ, i64_w, i32_w]
                          rfl
                        refine pure_ (i := 22) (N := some 113) (v := ?_) (a' := ?_) #[true, false, true, true, true, true, true, false, true, true, true, false, false, true, true, true, true, true, false, false, true, true, true, false, false, false, false, false, false, false] rfl rfl (any_of HT_.out (by kernel_rfl)) (fun _ _ _ h => h) (Or.inl ⟨by rfl, ?_⟩) ?_ ?_
                        rotate_left
                        · intro w'
                          go_simp
                          with_reducible rfl
                        rotate_left
                        · simp only [Act.put, List.setIfInBounds_toArray, List.set_cons_zero, List.set_cons_succ, i64_w, i32_w]
                          rfl
                        refine take_ (i := 1) (N := some 92) (v := ?_) (a' := ?_) #[true, true, true, true, true, true, true, false, true, true, true, false, false, true, true, true, true, true, false, false, true, true, true, false, false, false, false, false, false, false] rfl rfl (take_ofW HT_.out HW_.out (by kernel_rfl)) (fun _ _ _ h => h) (Or.inl ⟨by rfl, ?_⟩) hHeld ?_ ?_
                        rotate_left
                        · rintro w' ⟨s0, s1, s2, s3, s4, s5, s6, s7⟩
                          go_simp
                          with_reducible rfl
                        rotate_left
                        · simp only [Act.put, List.setIfInBounds_toArray, List.set_cons_zero, List.set_cons_succ, i64_w, i32_w]
                          rfl
                        refine take_ (i := 7) (N := some 98) (v := ?_) (a' := ?_) #[true, true, true, true, true, true, true, true, true, true, true, false, false, true, true, true, true, true, false, false, true, true, true, false, false, false, false, false, false, false] rfl rfl (take_ofW HT_.out HW_.out (by kernel_rfl)) (fun _ _ _ h => h) (Or.inl ⟨by rfl, ?_⟩) hHeld ?_ ?_
                        rotate_left
                        · rintro w' ⟨s0, s1, s2, s3, s4, s5, s6, s7⟩
                          go_simp
                          with_reducible rfl
                        rotate_left
                        · simp only [Act.put, List.setIfInBounds_toArray, List.set_cons_zero, List.set_cons_succ, i64_w, i32_w]
                          rfl
                        refine take_ (i := 11) (N := some 102) (v := ?_) (a' := ?_) #[true, true, true, true, true, true, true, true, true, true, true, true, false, true, true, true, true, true, false, false, true, true, true, false, false, false, false, false, false, false] rfl rfl (take_ofW HT_.out HW_.out (by kernel_rfl)) (fun _ _ _ h => h) (Or.inl ⟨by rfl, ?_⟩) hHeld ?_ ?_
                        rotate_left
                        · rintro w' ⟨s0, s1, s2, s3, s4, s5, s6, s7⟩
                          go_simp
                          with_reducible rfl
                        rotate_left
                        · simp only [Act.put, List.setIfInBounds_toArray, List.set_cons_zero, List.set_cons_succ, i64_w, i32_w]
                          rfl
                        refine pure_ (i := 12) (N := some 103) (v := ?_) (a' := ?_) #[true, true, true, true, true, true, true, true, true, true, true, true, true, true, true, true, true, true, false, false, true, true, true, false, false, false, false, false, false, false] rfl rfl (any_of HT_.out (by kernel_rfl)) (fun _ _ _ h => h) (Or.inl ⟨by rfl, ?_⟩) ?_ ?_
                        rotate_left
                        · intro w'
                          go_simp
                          with_reducible rfl
                        rotate_left
                        · simp only [Act.put, List.setIfInBounds_toArray, List.set_cons_zero, List.set_cons_succ, i64_w, i32_w]
                          rfl
                        refine take_ (i := 18) (N := some 109) (v := ?_) (a' := ?_) #[true, true, true, true, true, true, true, true, true, true, true, true, true, true, true, true, true, true, true, false, true, true, true, false, false, false, false, false, false, false] rfl rfl (take_ofW HT_.out HW_.out (by kernel_rfl)) (fun _ _ _ h => h) (Or.inl ⟨by rfl, ?_⟩) hHeld ?_ ?_
                        rotate_left
                        · rintro w' ⟨s0, s1, s2, s3, s4, s5, s6, s7⟩
                          go_simp
                          with_reducible rfl
                        rotate_left
                        · simp only [Act.put, List.setIfInBounds_toArray, List.set_cons_zero, List.set_cons_succ, i64_w, i32_w]
                          rfl
                        refine pure_ (i := 19) (N := some 110) (v := ?_) (a' := ?_) #[true, true, true, true, true, true, true, true, true, true, true, true, true, true, true, true, true, true, true, true, true, true, true, false, false, false, false, false, false, false] rfl rfl (any_of HT_.out (by kernel_rfl)) (fun _ _ _ h => h) (Or.inl ⟨by rfl, ?_⟩) ?_ ?_
                        rotate_left
                        · intro w'
                          go_simp
                          with_reducible rfl
                        rotate_left
                        · simp only [Act.put, List.setIfInBounds_toArray, List.set_cons_zero, List.set_cons_succ, i64_w, i32_w]
                          rfl
                        refine take_ (i := 23) (N := some 114) (v := ?_) (a' := ?_) #[true, true, true, true, true, true, true, true, true, true, true, true, true, true, true, true, true, true, true, true, true, true, true, true, false, false, false, false, false, false] rfl rfl (take_ofW HT_.out HW_.out (by kernel_rfl)) (fun _ _ _ h => h) (Or.inl ⟨by rfl, ?_⟩) hHeld ?_ ?_
                        rotate_left
                        · rintro w' ⟨s0, s1, s2, s3, s4, s5, s6, s7⟩
                          go_simp
                          with_reducible rfl
                        rotate_left
                        · simp only [Act.put, List.setIfInBounds_toArray, List.set_cons_zero, List.set_cons_succ, i64_w, i32_w]
                          rfl
                        refine pure_ (i := 24) (N := some 115) (v := ?_) (a' := ?_) #[true, true, true, true, true, true, true, true, true, true, true, true, true, true, true, true, true, true, true, true, true, true, true, true, true, false, false, false, false, false] rfl rfl (any_of HT_.out (by kernel_rfl)) (fun _ _ _ h => h) (Or.inl ⟨by rfl, ?_⟩) ?_ ?_
                        rotate_left
                        · intro w'
                          go_simp
                          with_reducible rfl
                        rotate_left
                        · simp only [Act.put, List.setIfInBounds_toArray, List.set_cons_zero, List.set_cons_succ, i64_w, i32_w]
                          rfl
                        refine pure_ (i := 25) (N := some 116) (v := ?_) (a' := ?_) #[true, true, true, true, true, true, true, true, true, true, true, true, true, true, true, true, true, true, true, true, true, true, true, true, true, true, false, false, false, false] rfl rfl (any_of HT_.out (by kernel_rfl)) (fun _ _ _ h => h) (Or.inl ⟨by rfl, ?_⟩) ?_ ?_
                        rotate_left
                        · intro w'
                          go_simp
                          with_reducible rfl
                        rotate_left
                        · simp only [Act.put, List.setIfInBounds_toArray, List.set_cons_zero, List.set_cons_succ, i64_w, i32_w]
                          rfl
                        refine one_ (i := 26) (N := some 117) #[true, true, true, true, true, true, true, true, true, true, true, true, true, true, true, true, true, true, true, true, true, true, true, true, true, true, true, false, false, false] rfl rfl (one_of HT_.out (by kernel_rfl)) (by decide) (fun K hK => ?_)
                        refine Kd.R_lit_step k112 _ 112 ?hg (N := 117) ?hd (xs := ([(⟨a3, a4, 0, rd t37019 x17_2, rd t37019 x17_2⟩ : S112), (⟨a2, a4, 0, wrap64 (-(rd t37019 x17_2)), wrap64 (-(rd t37019 x17_2))⟩ : S112)] : List (S112))) (inner := [.int .i64 a3, .int .i64 a4, .int .i64 0, .int .i64 (rd t37019 x17_2), .int .i64 (rd t37019 x17_2), .int .i64 a2, .int .i64 a4, .int .i64 0, .int .i64 (wrap64 (-(rd t37019 x17_2))), .int .i64 (wrap64 (-(rd t37019 x17_2)))]) (ok := fun _ => True) (okp := fun _ => True) ?hr ?hp (fun _ hk => hk) trivial (Below.refl _ _) (Nat.le_refl _) (by simp) ?_; (case hd => rfl); (case hg => rfl); (case hr => first | (go_simp; done) | (go_simp; rfl)); (case hp => exact (Reps.c5 (show Kd.M k112 _ _ _ (⟨a3, a4, 0, rd t37019 x17_2, rd t37019 x17_2⟩ : S112) [.int .i64 a3, .int .i64 a4, .int .i64 0, .int .i64 (rd t37019 x17_2), .int .i64 (rd t37019 x17_2)] from (k112_mkM _ _ _ (⟨a3, a4, 0, rd t37019 x17_2, rd t37019 x17_2⟩ : S112) )) (Reps.c5 (show Kd.M k112 _ _ _ (⟨a2, a4, 0, wrap64 (-(rd t37019 x17_2)), wrap64 (-(rd t37019 x17_2))⟩ : S112) [.int .i64 a2, .int .i64 a4, .int .i64 0, .int .i64 (wrap64 (-(rd t37019 x17_2))), .int .i64 (wrap64 (-(rd t37019 x17_2)))] from (k112_mkM _ _ _ (⟨a2, a4, 0, wrap64 (-(rd t37019 x17_2)), wrap64 (-(rd t37019 x17_2))⟩ : S112) )) (Reps.none _ _))))
                        intro v37029 w65 ho66 hb hg_ hnew_
                        have HS4_ := (hb.cell (World.block_lt_of_cell? _ _ (hHeld.2.2.2.2.1))).trans (hHeld.2.2.2.2.1)
                        have HS5_ := (hb.cell (World.block_lt_of_cell? _ _ (hHeld.2.2.2.2.2.1))).trans (hHeld.2.2.2.2.2.1)
                        have HS6_ := (hb.cell (World.block_lt_of_cell? _ _ (hHeld.2.2.2.2.2.2.1))).trans (hHeld.2.2.2.2.2.2.1)
                        have HS7_ := (hb.cell (World.block_lt_of_cell? _ _ (hHeld.2.2.2.2.2.2.2))).trans (hHeld.2.2.2.2.2.2.2)
                        clear hg_ hnew_
                        (first | rw [← Ny37028.out] at ho66 | (simp only [Int.reduceToNat] at ho66; rw [← Ny37028.out] at ho66))
                        have n0_ := Aside0.mk (Kd.S_elder' (by (with_reducible repeat (first | apply Kd.S_alloc | apply Kd.S_drewN | apply Kd.S_drew)); exact HO_13.out) (Kd.R_base ho66) hb)
                        have n1_ := Aside0.mk (Kd.R_below (by (with_reducible repeat (first | apply Kd.R_alloc | apply Kd.R_drewN | apply Kd.R_drew)); exact HO_16.out) hb)
                        have n2_ := Aside0.mk (Kd.R_lower ho66 (below_size (by repeat (first | (with_reducible first | exact HB.out | apply below_alloc | apply pw_below_drewN | apply below_drew1 | refine below_set ?_ GE37001.out | refine below_set ?_ GE37023.out) | exact HB.out))))
                        have n3_ := Aside0.mk (blk_below (g := gb37001) (o := .cells #[.slice A0_0 l0_0.length c0_0, .int .i64 a0_1, .int .i64 a0_2] 26 (0, 0)) (by (with_reducible repeat (first | refine blk_drewN ?_ _ | refine blk_drew ?_ | refine blk_alloc ?_ _)); exact BK37001.out) hb)
                        have n4_ := Aside0.mk (blk_below (g := gb37023) (o := .cells #[.int .i64 ((rd_T133 l5 x17_2).f1), .int .i64 0, .string (⟨#[115, 112, 114, 101, 97, 100]⟩ : ByteArray), .slice none 0 0] 34 (0, 0)) (by (with_reducible repeat (first | refine blk_drewN ?_ _ | refine blk_drew ?_ | refine blk_alloc ?_ _)); exact BK37023.out) hb)
                        have n5_ := Aside0.mk (below_step (by repeat (first | (with_reducible first | exact HB.out | apply below_alloc | apply pw_below_drewN | apply below_drew1 | refine below_set ?_ GE37001.out | refine below_set ?_ GE37023.out) | exact HB.out)) hb)
                        clear HO_13
                        clear HO_16
                        clear BK37001
                        clear BK37023
                        clear HB
                        have HO_13 := n0_
                        have HO_16 := n1_
                        have HO37030 := n2_
                        have BK37001 := n3_
                        have BK37023 := n4_
                        have HB := n5_
                        clear n0_ n1_ n2_ n3_ n4_ n5_
                        clear hb ho66
                        obtain ⟨Ao68, co68, eo68⟩ := Kd.R_slice HO37030.out
                        (first | subst eo68 | (injection eo68 with f1_ f2_ f3_; have f4_ := f1_.symm; have f5_ := f3_.symm; clear f1_ f2_ f3_; subst f4_; subst f5_))
                        refine hK.out _ _ ⟨(blk_cell BK37023.out 0).trans rfl, (blk_cell BK37023.out 1).trans rfl, (blk_cell BK37023.out 2).trans rfl, (blk_cell BK37023.out 3).trans rfl, HS4_, HS5_, HS6_, HS7_⟩ (fun hHeld => ?_)
                        clear hK K
                        refine norm_ (a' := ?_) ?_ ?_
                        rotate_left
                        · show Act.put _ (some 117) _ = _
                          simp only [Act.put, List.setIfInBounds_toArray, List.set_cons_zero, List.set_cons_succ, i64_w, i32_w]
                          rfl
                        refine last_ (i := 27) (N := some 118) #[true, true, true, true, true, true, true, true, true, true, true, true, true, true, true, true, true, true, true, true, true, true, true, true, true, true, true, true, false, false] rfl rfl (one_of HT_.out (by kernel_rfl)) (by decide) (fun K hK => ?_)
                        refine Kd.R_append_rows_step k112 (w0 := w) w.heap.size (by rfl) (.tmp 92) (.tmp 117) 32 112 (.agg #[(.int .i64 0), (.int .i64 0), (.int .i64 0), (.int .i64 0), (.int .i64 0)]) 40 rfl Try.underlying32 info112 rfl (by decide) (by omega) (.slice none 0 0) ([] : List (S112)) y37028 _ _ _ (fun k_ => some k_ ≠ (.slice Ao68 y37028.length co68 : Value).ownBlock) (fun _ => False) rfl rfl ?aO ?aR (fun _ _ h => h) (fun _ h => h.elim) ?aF ?aB ?aS ?aL ?_
                        (case aR => repeat (first | exact (Kd.R_reads' HO37030.out).2.2 | (with_reducible refine Kd.C_alloc ?_ _) | (with_reducible refine Kd.C_drewN ?_ _) | (with_reducible refine Kd.C_drew ?_)))
                        (case aB => exact (by repeat (first | (with_reducible first | exact HB.out | apply below_alloc | apply pw_below_drewN | apply below_drew1 | refine below_set ?_ GE37001.out | refine below_set ?_ GE37023.out) | exact HB.out)))
                        (case aF => exact (fun k_ hk => Kd.fresh' (Kd.R_lt (by (with_reducible repeat (first | apply Kd.R_alloc | apply Kd.R_drewN | apply Kd.R_drew)); exact HO37030.out)) k_ hk))
                        (case aO => exact ((Kd.R_nil _ _ _ _ (fun k_ => some k_ ≠ (.slice Ao68 y37028.length co68 : Value).ownBlock))))
                        (case aS => exact (below_size (by repeat (first | (with_reducible first | exact HB.out | apply below_alloc | apply pw_below_drewN | apply below_drew1 | refine below_set ?_ GE37001.out | refine below_set ?_ GE37023.out) | exact HB.out))))
                        (case aL => have := LMc38.out; omega)
                        intro v37032 w67 ho hb hg hat
                        rw [← Ny37031.out] at ho
                        have n0_ := Aside0.mk (Kd.S_after (Kd.S_apart_nil (by (with_reducible repeat (first | apply Kd.S_alloc | apply Kd.S_drewN | apply Kd.S_drew)); exact HO_13.out)) hg hat)
                        have n1_ := Aside0.mk (Kd.R_grown (by (with_reducible repeat (first | apply Kd.R_alloc | apply Kd.R_drewN | apply Kd.R_drew)); exact HO_16.out) hg (fun _ _ => by simp [Value.ownBlock]))
                        have n2_ := Aside0.mk (blk_grown (g := gb37001) (o := .cells #[.slice A0_0 l0_0.length c0_0, .int .i64 a0_1, .int .i64 a0_2] 26 (0, 0)) (by (with_reducible repeat (first | refine blk_drewN ?_ _ | refine blk_drew ?_ | refine blk_alloc ?_ _)); exact BK37001.out) hg (by simp [Value.ownBlock]))
                        have n3_ := Aside0.mk (blk_grown (g := gb37023) (o := .cells #[.int .i64 ((rd_T133 l5 x17_2).f1), .int .i64 0, .string (⟨#[115, 112, 114, 101, 97, 100]⟩ : ByteArray), .slice none 0 0] 34 (0, 0)) (by (with_reducible repeat (first | refine blk_drewN ?_ _ | refine blk_drew ?_ | refine blk_alloc ?_ _)); exact BK37023.out) hg (by simp [Value.ownBlock]))
                        have n4_ := Aside0.mk (Kd.R_after (Kd.R_apart_nil (by (with_reducible repeat (first | apply Kd.R_alloc | apply Kd.R_drewN | apply Kd.R_drew)); exact HO37030.out)) hg hat)
                        have n5_ := Aside0.mk (hb)
                        have n6_ := Aside0.mk (ho)
                        clear HO_13
                        clear HO_16
                        clear BK37001
                        clear BK37023
                        clear HO37030
                        clear HB
                        have HO_13 := n0_
                        have HO_16 := n1_
                        have BK37001 := n2_
                        have BK37023 := n3_
                        have HO37030 := n4_
                        have HB := n5_
                        have HO37033 := n6_
                        clear n0_ n1_ n2_ n3_ n4_ n5_ n6_
                        clear ho hb hg hat
                        obtain ⟨Ao69, co69, eo69⟩ := Kd.R_slice HO37033.out
                        (first | subst eo69 | (injection eo69 with f1_ f2_ f3_; have f4_ := f1_.symm; have f5_ := f3_.symm; clear f1_ f2_ f3_; subst f4_; subst f5_))
                        refine hK.out _ _ ?_
                        clear hK K
                        refine norm_ (a' := ?_) ?_ ?_
                        rotate_left
                        · show Act.put _ (some 118) _ = _
                          simp only [Act.put, List.setIfInBounds_toArray, List.set_cons_zero, List.set_cons_succ, i64_w, i32_w]
                          rfl
                        refine pure_ (i := 28) (N := some 119) (v := ?_) (a' := ?_) #[true, true, true, true, true, true, true, true, true, true, true, true, true, true, true, true, true, true, true, true, true, true, true, true, true, true, true, true, true, false] rfl rfl (any_of HT_.out (by kernel_rfl)) (fun _ _ _ h => h) (Or.inl ⟨by rfl, ?_⟩) ?_ ?_
                        rotate_left
                        · intro w'
                          go_simp
                          with_reducible rfl
                        rotate_left
                        · simp only [Act.put, List.setIfInBounds_toArray, List.set_cons_zero, List.set_cons_succ, i64_w, i32_w]
                          rfl
                        refine last_ (i := 29) (N := none) #[true, true, true, true, true, true, true, true, true, true, true, true, true, true, true, true, true, true, true, true, true, true, true, true, true, true, true, true, true, true] rfl rfl (one_of HT_.out (by kernel_rfl)) (by decide) (fun K hK => ?_)
                        have hs70 : w67.cell? ⟨gb37023, 3, none⟩ = some (.slice none 0 0) := (blk_cell BK37023.out 3).trans rfl
                        have hfs70 := blk_frozen BK37023.out 3
                        have hns70_0 := NB37001_37023.out
                        have hms70_0 := NB37023_37001.out
                        refine skip_ (w1 := ?_) (by rfl) rfl ?_ ?_
                        rotate_left
                        · go_simp
                          rfl
                        refine hK.out _ _ ?_
                        clear hK K
                        refine done_ (done_of HT_.out (by kernel_rfl)) ?_
                        have hcz71_0 : w67.cell? ⟨gb37001, 0, none⟩ = some (.slice A0_0 l0_0.length c0_0) := (blk_cell BK37001.out 0).trans rfl
                        have hcz71_1 : w67.cell? ⟨gb37001, 1, none⟩ = some (.int .i64 a0_1) := (blk_cell BK37001.out 1).trans rfl
                        have hcz71_2 : w67.cell? ⟨gb37001, 2, none⟩ = some (.int .i64 a0_2) := (blk_cell BK37001.out 2).trans rfl
                        have hfz71_0 := blk_frozen BK37001.out 0
                        have hfz71_1 := blk_frozen BK37001.out 1
                        have hfz71_2 := blk_frozen BK37001.out 2
                        have hcz72_0 : w67.cell? ⟨gb37023, 0, none⟩ = some (.int .i64 ((rd_T133 l5 x17_2).f1)) := (blk_cell BK37023.out 0).trans rfl
                        have hcz72_1 : w67.cell? ⟨gb37023, 1, none⟩ = some (.int .i64 0) := (blk_cell BK37023.out 1).trans rfl
                        have hcz72_2 : w67.cell? ⟨gb37023, 2, none⟩ = some (.string (⟨#[115, 112, 114, 101, 97, 100]⟩ : ByteArray)) := (blk_cell BK37023.out 2).trans rfl
                        have hcz72_3 : w67.cell? ⟨gb37023, 3, none⟩ = some (.slice none 0 0) := (blk_cell BK37023.out 3).trans rfl
                        have hfz72_0 := blk_frozen BK37023.out 0
                        have hfz72_1 := blk_frozen BK37023.out 1
                        have hfz72_2 := blk_frozen BK37023.out 2
                        have hfz72_3 := blk_frozen BK37023.out 3
                        try go_wp2_with (first | ((with_reducible refine gate_callee (f := 91) rfl ?_); refine goesL_ (some 122) rfl rfl Try.func91 (by kernel_rfl) rfl #[.agg #[.slice A0_0 l0_0.length c0_0, .int .i64 a0_1, .int .i64 a0_2], .agg #[.int .i64 ((rd_T133 l5 x17_2).f1), .int .i64 0, .string (⟨#[115, 112, 114, 101, 97, 100]⟩ : ByteArray), .slice Ao69 y37031.length co69]] rfl (by (try simp only [List.map_toArray, List.map_cons, List.map_nil]); first | done | rfl | (simp only [List.length_drop, List.length_take]; rfl)) ?_; (with_reducible refine (spec_EntryOk.calls _ _ l0_0 a0_1 a0_2 ((rd_T133 l5 x17_2).f1) 0 (⟨#[115, 112, 114, 101, 97, 100]⟩ : ByteArray) _ _ y37031 false _ ?side1 ?side2 ?side3 ?side4 A39.out).mono ?_); (case side1 => exact Kd.C_below HR0_0.out (by repeat (first | (with_reducible first | exact HB.out | apply below_alloc | apply pw_below_drewN | apply below_drew1 | refine below_set ?_ GE37001.out | refine below_set ?_ GE37023.out) | exact HB.out))); (case side2 => exact HC0_0.out); (case side3 => refine (Kd.R_reads' (e := 112) (base := w.heap.size) (ok := fun k_ => some k_ ≠ (.slice Ao68 y37028.length co68 : Value).ownBlock) (n := y37031.length) (c := co69) ?_).2.2; exact (by (with_reducible repeat (first | apply Kd.R_alloc | apply Kd.R_drewN | apply Kd.R_drew)); exact (Kd.R_mono (Kd.R_far (p := ⟨gb37023, 3, none⟩) (Kd.R_types HO37033.out BK37023.out (by decide)) (fun _ hk => hk.2) (.slice Ao69 y37031.length co69)) (fun _ h_ => h_.1)))); (case side4 => exact (Kd.R_reads' HO37033.out).2.1); rintro e w73 ⟨rfl, hb⟩; refine ⟨_, rfl, ?_⟩; have n0_ := Aside0.mk (Kd.S_below (by (with_reducible repeat (first | apply Kd.S_alloc | apply Kd.S_drewN | apply Kd.S_drew)); exact (Kd.S_mono (Kd.S_far (p := ⟨gb37023, 3, none⟩) (Kd.S_mono HO_13.out (fun k_ hk => (⟨hk, hk.1.1⟩ : _ ∧ k_ ≠ gb37023))) (fun _ hk => hk.2) (.slice Ao69 y37031.length co69)) (fun _ h_ => h_.1))) hb); have n1_ := Aside0.mk (Kd.R_below (by (with_reducible repeat (first | apply Kd.R_alloc | apply Kd.R_drewN | apply Kd.R_drew)); exact (Kd.R_mono (Kd.R_far (p := ⟨gb37023, 3, none⟩) (Kd.R_types HO_16.out BK37023.out (by decide)) (fun _ hk => hk.2) (.slice Ao69 y37031.length co69)) (fun _ h_ => h_.1))) hb); have n2_ := Aside0.mk (Kd.R_below (by (with_reducible repeat (first | apply Kd.R_alloc | apply Kd.R_drewN | apply Kd.R_drew)); exact (Kd.R_mono (Kd.R_far (p := ⟨gb37023, 3, none⟩) (Kd.R_types HO37030.out BK37023.out (by decide)) (fun _ hk => hk.2) (.slice Ao69 y37031.length co69)) (fun _ h_ => h_.1))) hb); have n3_ := Aside0.mk (Kd.R_below (by (with_reducible repeat (first | apply Kd.R_alloc | apply Kd.R_drewN | apply Kd.R_drew)); exact (Kd.R_mono (Kd.R_far (p := ⟨gb37023, 3, none⟩) (Kd.R_types HO37033.out BK37023.out (by decide)) (fun _ hk => hk.2) (.slice Ao69 y37031.length co69)) (fun _ h_ => h_.1))) hb); have n4_ := Aside0.mk (blk_below (g := gb37001) (o := .cells #[.slice A0_0 l0_0.length c0_0, .int .i64 a0_1, .int .i64 a0_2] 26 (0, 0)) (by (with_reducible repeat (first | refine blk_drewN ?_ _ | refine blk_drew ?_ | refine blk_alloc ?_ _)); refine blk_far ?_ NB37001_37023.out _; (with_reducible repeat (first | refine blk_drewN ?_ _ | refine blk_drew ?_ | refine blk_alloc ?_ _)); exact BK37001.out) hb); have n5_ := Aside0.mk (blk_below (g := gb37023) (o := .cells #[.int .i64 ((rd_T133 l5 x17_2).f1), .int .i64 0, .string (⟨#[115, 112, 114, 101, 97, 100]⟩ : ByteArray), .slice Ao69 y37031.length co69] 34 (0, 0)) (by (with_reducible repeat (first | refine blk_drewN ?_ _ | refine blk_drew ?_ | refine blk_alloc ?_ _)); refine blk_put (cs := #[.int .i64 ((rd_T133 l5 x17_2).f1), .int .i64 0, .string (⟨#[115, 112, 114, 101, 97, 100]⟩ : ByteArray), .slice none 0 0]) ?_ 3 _ rfl; (with_reducible repeat (first | refine blk_drewN ?_ _ | refine blk_drew ?_ | refine blk_alloc ?_ _)); exact BK37023.out) hb); have n6_ := Aside0.mk (below_step (by repeat (first | (with_reducible first | exact HB.out | apply below_alloc | apply pw_below_drewN | apply below_drew1 | refine below_set ?_ GE37001.out | refine below_set ?_ GE37023.out) | exact HB.out)) hb); clear HO_13; clear HO_16; clear HO37030; clear HO37033; clear BK37001; clear BK37023; clear HB; have HO_13 := n0_; have HO_16 := n1_; have HO37030 := n2_; have HO37033 := n3_; have BK37001 := n4_; have BK37023 := n5_; have HB := n6_; clear n0_ n1_ n2_ n3_ n4_ n5_ n6_; (try clear hb); (try clear hb2); (try clear hk); (try clear hi)) | ((with_reducible refine gate_dst (N := 124) rfl ?_); refine Kd.S_lit k34 _ 34 ?hg (N := 124) ?hd (xs := ([] : List (S34))) (inner := []) (ok := fun _ => True) (okp := fun _ => True) ?hr ?hp (fun _ hk => hk) trivial (Below.refl _ _) (Nat.le_refl _) (by simp) ?_; (case hd => rfl); (case hg => rfl); (case hr => first | (go_simp; done) | (go_simp; rfl)); (case hp => exact (Reps.none _ _)); intro v37039 w74 ho75 hb hg_ hnew_; clear hg_ hnew_; (first | rw [← Ny37038.out] at ho75 | (simp only [Int.reduceToNat] at ho75; rw [← Ny37038.out] at ho75)); have n0_ := Aside0.mk (Kd.S_elder' (by (with_reducible repeat (first | apply Kd.S_alloc | apply Kd.S_drewN | apply Kd.S_drew)); exact HO_13.out) (Kd.S_base ho75) hb); have n1_ := Aside0.mk (Kd.R_below (by (with_reducible repeat (first | apply Kd.R_alloc | apply Kd.R_drewN | apply Kd.R_drew)); exact HO_16.out) hb); have n2_ := Aside0.mk (Kd.R_below (by (with_reducible repeat (first | apply Kd.R_alloc | apply Kd.R_drewN | apply Kd.R_drew)); exact HO37030.out) hb); have n3_ := Aside0.mk (Kd.R_below (by (with_reducible repeat (first | apply Kd.R_alloc | apply Kd.R_drewN | apply Kd.R_drew)); exact HO37033.out) hb); have n4_ := Aside0.mk (Kd.S_lower (Kd.S_newB (Kd.S_new' (Kd.S_new' (Kd.S_new' ho75 (Kd.S_lt (by (with_reducible repeat (first | apply Kd.S_alloc | apply Kd.S_drewN | apply Kd.S_drew)); exact HO_13.out))) (Kd.R_lt (by (with_reducible repeat (first | apply Kd.R_alloc | apply Kd.R_drewN | apply Kd.R_drew)); exact HO37030.out))) (Kd.R_lt (by (with_reducible repeat (first | apply Kd.R_alloc | apply Kd.R_drewN | apply Kd.R_drew)); exact HO37033.out))) (g := gb37023) (o := .cells #[.int .i64 ((rd_T133 l5 x17_2).f1), .int .i64 0, .string (⟨#[115, 112, 114, 101, 97, 100]⟩ : ByteArray), .slice Ao69 y37031.length co69] 34 (0, 0)) (by (with_reducible repeat (first | refine blk_drewN ?_ _ | refine blk_drew ?_ | refine blk_alloc ?_ _)); exact BK37023.out)) (below_size (by repeat (first | (with_reducible first | exact HB.out | apply below_alloc | apply pw_below_drewN | apply below_drew1 | refine below_set ?_ GE37001.out | refine below_set ?_ GE37023.out) | exact HB.out)))); have n5_ := Aside0.mk (blk_below (g := gb37001) (o := .cells #[.slice A0_0 l0_0.length c0_0, .int .i64 a0_1, .int .i64 a0_2] 26 (0, 0)) (by (with_reducible repeat (first | refine blk_drewN ?_ _ | refine blk_drew ?_ | refine blk_alloc ?_ _)); exact BK37001.out) hb); have n6_ := Aside0.mk (blk_below (g := gb37023) (o := .cells #[.int .i64 ((rd_T133 l5 x17_2).f1), .int .i64 0, .string (⟨#[115, 112, 114, 101, 97, 100]⟩ : ByteArray), .slice Ao69 y37031.length co69] 34 (0, 0)) (by (with_reducible repeat (first | refine blk_drewN ?_ _ | refine blk_drew ?_ | refine blk_alloc ?_ _)); exact BK37023.out) hb); have n7_ := Aside0.mk (below_step (by repeat (first | (with_reducible first | exact HB.out | apply below_alloc | apply pw_below_drewN | apply below_drew1 | refine below_set ?_ GE37001.out | refine below_set ?_ GE37023.out) | exact HB.out)) hb); clear HO_13; clear HO_16; clear HO37030; clear HO37033; clear BK37001; clear BK37023; clear HB; have HO_13 := n0_; have HO_16 := n1_; have HO37030 := n2_; have HO37033 := n3_; have HO37040 := n4_; have BK37001 := n5_; have BK37023 := n6_; have HB := n7_; clear n0_ n1_ n2_ n3_ n4_ n5_ n6_ n7_; clear hb ho75))
                        go_ret
                        exact ⟨_, by first | rfl | (simp [errW_none, errW_some] <;> rfl) | (simp [*, errW_none, errW_some] <;> rfl), by (with_reducible repeat (first | apply Kd.S_alloc | apply Kd.S_drewN | apply Kd.S_drew)); exact Kd.S_mono HO37040.out (fun _ hk => trivial), by repeat (first | (with_reducible first | exact HB.out | apply below_alloc | apply pw_below_drewN | apply below_drew1 | refine below_set ?_ GE37001.out | refine below_set ?_ GE37023.out) | exact HB.out)⟩
                    · rw [if_neg c38] at H
                      exact absurd H (by simp)
                  · rw [if_neg c37] at H
                    exact absurd H (by simp)
                · rw [if_neg c36] at H
                  exact absurd H (by simp)
              · rw [if_neg c35] at H
                have c35b0 : decide (x17_2 < (t37019.length : Int)) = false := decide_eq_false c35
                clear c35
                obtain rfl := Option.some.inj H
                obtain ⟨Ao76, co76, eo76⟩ := Kd.R_slice HO_16.out
                subst eo76
                go_wp2
                go_ret
                exact ⟨_, by first | rfl | (simp [errW_none, errW_some] <;> rfl) | (simp [*, errW_none, errW_some] <;> rfl), by (with_reducible repeat (first | apply Kd.S_alloc | apply Kd.S_drewN | apply Kd.S_drew)); exact HO_13.out, by repeat (first | (with_reducible first | exact HB.out | apply below_alloc | apply pw_below_drewN | apply below_drew1 | refine below_set ?_ GE37001.out) | exact HB.out)⟩
end Go.Proofs.Ytphmnkcfjgallaa.Q
