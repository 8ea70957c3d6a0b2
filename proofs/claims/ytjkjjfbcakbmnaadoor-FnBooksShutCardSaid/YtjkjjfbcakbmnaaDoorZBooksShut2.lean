/- Parts of the proof: what functions of the program and of the reference answer.
   No condition. -/
import Derived.Test.YtjkjjfbcakbmnaaDoorZBooksShut1
namespace Go.Proofs.YtjkjjfbcakbmnaaDoor.Q
open Go.RowKit Go.Proofs.YtjkjjfbcakbmnaaDoorW.PrintWords Go.Proofs.YtjkjjfbcakbmnaaDoorW.PrintLast Go.Proofs.YtjkjjfbcakbmnaaDoorW.PrintMore
attribute [local go_sem] max2_int min2_int max_two min_two max_three min_three max_four min_four   -- for this text's walks alone
set_option linter.unusedVariables false
set_option linter.unusedSimpArgs false
mutual
noncomputable def spec_l5Numbers.l0 : Nat → List Int → Int → Int → Int → ByteArray → List (S81) → Option (List Int)
  | 0, _, _, _, _, _, _ => none
  | k + 1, x3, x4, x61002000, x61002001, x61002002, x61002003 => if x4 < (x61002002.size : Int) then (if 0 ≤ x4 then (if x3.length < 17592186044416 then (spec_l5Numbers.l0 k (x3 ++ [wrap64 (bt x61002002 x4)]) (wrap64 (x4 + 1)) x61002000 x61002001 x61002002 x61002003) else (none)) else (none)) else (if x3.length < 17592186044416 then (spec_l5Numbers.l1 k (x3 ++ [(x61002003.length : Int)]) 0 x61002000 x61002001 x61002002 x61002003) else (none))
noncomputable def spec_l5Numbers.l1 : Nat → List Int → Int → Int → Int → ByteArray → List (S81) → Option (List Int)
  | 0, _, _, _, _, _, _ => none
  | k + 1, x3, x5, x61002000, x61002001, x61002002, x61002003 => if x5 < (x61002003.length : Int) then (if 0 ≤ x5 then ((some (([(rd_T81 x61002003 x5).f0, (rd_T81 x61002003 x5).f1, (rd_T81 x61002003 x5).f2, (rd_T81 x61002003 x5).f3, (rd_T81 x61002003 x5).f4] : List Int) : List Int)).bind fun y61013 => (if x3.length + y61013.length < 17592186044416 then (spec_l5Numbers.l1 k (x3 ++ y61013) (wrap64 (x5 + 1)) x61002000 x61002001 x61002002 x61002003) else (none))) else (none)) else (some x3)
end
noncomputable def spec_l5Numbers.f (k : Nat) (a0_0 : Int) (a0_1 : Int) (a0_2 : ByteArray) (l0_3 : List (S81)) : Option (List Int) := spec_l5Numbers.l0 k (([a0_0, a0_1, (a0_2.size : Int)] : List Int)) 0 a0_0 a0_1 a0_2 l0_3
set_option maxHeartbeats 8000000 in
set_option maxRecDepth 100000 in
theorem spec_l5Numbers.calls (k : Nat) (a0_0 : Int) (a0_1 : Int) (a0_2 : ByteArray) (A0_3 : Option Addr) (c0_3 : Nat) (l0_3 : List (S81)) (r : List Int) (w : World) (hr0_3 : Kd.C k81 w A0_3 l0_3.length l0_3) (hc0_3 : l0_3.length ≤ c0_3) (h : spec_l5Numbers.f k a0_0 a0_1 a0_2 l0_3 = some r) :
    Calls Tryd.prog 60 #[.agg #[.int .i64 a0_0, .int .i64 a0_1, .string a0_2, .slice A0_3 l0_3.length c0_3]] w fun e w' => ∃ v0_ : Value, e = .returned (v0_) ∧ Kd.R (Kd.int .i64) 3 w' w.heap.size (fun _ => True) v0_ r ∧ Below w.heap.size w w' := by
  have hu35 := Tryd.underlying35
  have hu81 := Tryd.underlying81
  have HR0_3 := Aside0.mk hr0_3
  have HC0_3 := Aside0.mk hc0_3
  clear hr0_3 hc0_3
  have HB := Aside0.mk (Below.refl w.heap.size w)
  have H : (spec_l5Numbers.l0 k (([a0_0, a0_1, (a0_2.size : Int)] : List Int)) 0 a0_0 a0_1 a0_2 l0_3) = some r := h
  clear h
  obtain ⟨y61002, hy61002⟩ : ∃ y_ : List Int, y_ = (([a0_0, a0_1, (a0_2.size : Int)] : List Int)) := ⟨_, rfl⟩
  replace H : (spec_l5Numbers.l0 k y61002 0 a0_0 a0_1 a0_2 l0_3) = some r := by first | (rw [hy61002]; with_reducible exact H) | (have H2_ := (Option.bind_some _ _).symm.trans H; rw [hy61002]; with_reducible exact H2_) | (have H2_ := (Option.bind_some _ _).symm.trans H; with_reducible exact H2_) | with_reducible exact H | (rw [hy61002]; exact H) | exact H
  have Ny61002 := Aside0.mk hy61002
  clear hy61002
  have H' := Aside0.mk H
  clear H
  go_enter Tryd.func60, Tryd.ntmps60
  go_wp2_with (first | ((with_reducible refine gate_dst (N := 1) rfl ?_); refine box_event ?hg (N := 1) ?hd (cs := #[.int .i64 a0_0, .int .i64 a0_1, .string a0_2, .slice A0_3 l0_3.length c0_3]) (t := 35) ?hr ?_; (case hd => rfl); (case hg => rfl); (case hr => first | (go_simp; done) | (go_simp; rfl)); intro gb61001 hg w2 hbox hb; have n0_ := Aside0.mk (below_step (by repeat (first | (with_reducible first | exact HB.out | apply below_alloc | apply pw_below_drewN | apply below_drew1) | exact HB.out)) hb); have n1_ := Aside0.mk (hbox); have n2_ := Aside0.mk ((by rw [hg]; exact (below_size (by repeat (first | (with_reducible first | exact HB.out | apply below_alloc | apply pw_below_drewN | apply below_drew1) | exact HB.out))) : w.heap.size ≤ gb61001)); have n3_ := Aside0.mk ((by rw [hg]; exact (below_size (by repeat (first | (with_reducible first | exact HB.out | apply below_alloc | apply pw_below_drewN | apply below_drew1) | exact HB.out))) : w.heap.size ≤ gb61001)); clear HB; have HB := n0_; have BK61001 := n1_; have GW61001 := n2_; have GE61001 := n3_; clear n0_ n1_ n2_ n3_; clear hb hbox hg; have hcz3_0 : w2.cell? ⟨gb61001, 0, none⟩ = some (.int .i64 a0_0) := (blk_cell BK61001.out 0).trans rfl; have hcz3_1 : w2.cell? ⟨gb61001, 1, none⟩ = some (.int .i64 a0_1) := (blk_cell BK61001.out 1).trans rfl; have hcz3_2 : w2.cell? ⟨gb61001, 2, none⟩ = some (.string a0_2) := (blk_cell BK61001.out 2).trans rfl; have hcz3_3 : w2.cell? ⟨gb61001, 3, none⟩ = some (.slice A0_3 l0_3.length c0_3) := (blk_cell BK61001.out 3).trans rfl; have hfz3_0 := blk_frozen BK61001.out 0; have hfz3_1 := blk_frozen BK61001.out 1; have hfz3_2 := blk_frozen BK61001.out 2; have hfz3_3 := blk_frozen BK61001.out 3) | ((with_reducible refine gate_dst (N := 14) rfl ?_); refine Kd.R_lit (Kd.int .i64) _ 3 ?hg (N := 14) ?hd (xs := ([a0_0, a0_1, (a0_2.size : Int)] : List Int)) (inner := [.int .i64 a0_0, .int .i64 a0_1, .int .i64 (a0_2.size : Int)]) (ok := fun _ => True) (okp := fun _ => True) ?hr ?hp (fun _ hk => hk) trivial (Below.refl _ _) (Nat.le_refl _) (by simp) ?_; (case hd => rfl); (case hg => rfl); (case hr => first | (go_simp; done) | (go_simp; rfl)); (case hp => exact (Reps.one (show Kd.M (Kd.int .i64) _ _ _ a0_0 [.int .i64 a0_0] from rfl) (Reps.one (show Kd.M (Kd.int .i64) _ _ _ a0_1 [.int .i64 a0_1] from rfl) (Reps.one (show Kd.M (Kd.int .i64) _ _ _ (a0_2.size : Int) [.int .i64 (a0_2.size : Int)] from rfl) (Reps.none _ _))))); intro v61003 w4 ho5 hb hg_ hnew_; clear hg_ hnew_; (first | rw [← Ny61002.out] at ho5 | (simp only [Int.reduceToNat] at ho5; rw [← Ny61002.out] at ho5)); have n0_ := Aside0.mk (Kd.R_lower ho5 (below_size (by repeat (first | (with_reducible first | exact HB.out | apply below_alloc | apply pw_below_drewN | apply below_drew1 | refine below_set ?_ GE61001.out) | exact HB.out)))); have n1_ := Aside0.mk (blk_below (g := gb61001) (o := .cells #[.int .i64 a0_0, .int .i64 a0_1, .string a0_2, .slice A0_3 l0_3.length c0_3] 35 (0, 0)) (by (with_reducible repeat (first | refine blk_drewN ?_ _ | refine blk_drew ?_ | refine blk_alloc ?_ _)); exact BK61001.out) hb); have n2_ := Aside0.mk (below_step (by repeat (first | (with_reducible first | exact HB.out | apply below_alloc | apply pw_below_drewN | apply below_drew1 | refine below_set ?_ GE61001.out) | exact HB.out)) hb); clear BK61001; clear HB; have HO61004 := n0_; have BK61001 := n1_; have HB := n2_; clear n0_ n1_ n2_; clear hb ho5))
  go_loopg [3, 4] k (fun kq v3 v4 w' => ∃ (x3_1 : List Int) (x4_1 : Int), v4 = .int .i64 x4_1 ∧ Aside0 (spec_l5Numbers.l0 kq x3_1 x4_1 a0_0 a0_1 a0_2 l0_3 = some r) ∧ Aside0 (kq ≤ k) ∧ Aside0 (Kd.R (Kd.int .i64) 3 w' w.heap.size (fun _ => True) v3 x3_1) ∧ Aside0 (w'.heap[gb61001]? = some (.cells #[.int .i64 a0_0, .int .i64 a0_1, .string a0_2, (.slice A0_3 l0_3.length c0_3)] 35 (0, 0))) ∧ Aside0 (Below w.heap.size w w'))
  case atStart => exact ⟨(y61002), (0), (by first | rfl | (simp; done) | (simp [*]; done)), H', ⟨Nat.le_refl _⟩, ⟨by (with_reducible repeat (first | apply Kd.R_alloc | apply Kd.R_drewN | apply Kd.R_drew)); exact HO61004.out⟩, ⟨by (with_reducible repeat (first | refine blk_drewN ?_ _ | refine blk_drew ?_ | refine blk_alloc ?_ _)); exact BK61001.out⟩, ⟨by repeat (first | (with_reducible first | exact HB.out | apply below_alloc | apply pw_below_drewN | apply below_drew1 | refine below_set ?_ GE61001.out) | exact HB.out)⟩⟩
  case round =>
    clear H'
    try clear p2
    try clear hcz3_0
    try clear hcz3_1
    try clear hcz3_2
    try clear hcz3_3
    try clear hfz3_0
    try clear hfz3_1
    try clear hfz3_2
    try clear hfz3_3
    obtain ⟨x3_1, x4_1, rfl, HA, HK1, HO_3, BK61001, HB⟩ := hrel
    cases gk with
    | zero => exact absurd HA.out (by simp [spec_l5Numbers.l0])
    | succ k1 =>
      have H := HA.out
      clear HA
      simp only [spec_l5Numbers.l0] at H
      by_cases c6 : x4_1 < (a0_2.size : Int)
      · rw [if_pos c6] at H
        have c6b0 : decide (x4_1 < (a0_2.size : Int)) = true := decide_eq_true c6
        clear c6
        by_cases c7 : 0 ≤ x4_1
        · rw [if_pos c7] at H
          have c7b0 : decide (0 ≤ x4_1) = true := decide_eq_true c7
          clear c7
          by_cases c9 : x3_1.length < 17592186044416
          · rw [if_pos c9] at H
            have LMc9 := Aside0.mk c9
            clear c9
            obtain ⟨y61005, hy61005⟩ : ∃ y_ : List Int, y_ = (x3_1 ++ [wrap64 (bt a0_2 x4_1)]) := ⟨_, rfl⟩
            replace H : (spec_l5Numbers.l0 k1 y61005 (wrap64 (x4_1 + 1)) a0_0 a0_1 a0_2 l0_3) = some r := by first | (rw [hy61005]; with_reducible exact H) | (have H2_ := (Option.bind_some _ _).symm.trans H; rw [hy61005]; with_reducible exact H2_) | (have H2_ := (Option.bind_some _ _).symm.trans H; with_reducible exact H2_) | with_reducible exact H | (rw [hy61005]; exact H) | exact H
            have Ny61005 := Aside0.mk hy61005
            clear hy61005
            have H' := Aside0.mk H
            clear H
            have hcz10_0 : wr.cell? ⟨gb61001, 0, none⟩ = some (.int .i64 a0_0) := (blk_cell BK61001.out 0).trans rfl
            have hcz10_1 : wr.cell? ⟨gb61001, 1, none⟩ = some (.int .i64 a0_1) := (blk_cell BK61001.out 1).trans rfl
            have hcz10_2 : wr.cell? ⟨gb61001, 2, none⟩ = some (.string a0_2) := (blk_cell BK61001.out 2).trans rfl
            have hcz10_3 : wr.cell? ⟨gb61001, 3, none⟩ = some (.slice A0_3 l0_3.length c0_3) := (blk_cell BK61001.out 3).trans rfl
            have hfz10_0 := blk_frozen BK61001.out 0
            have hfz10_1 := blk_frozen BK61001.out 1
            have hfz10_2 := blk_frozen BK61001.out 2
            have hfz10_3 := blk_frozen BK61001.out 3
            have p8 : 0 ≤ (x4_1 : Int) := of_decide_eq_true (by first | (with_reducible assumption) | assumption)
            have q8 : x4_1 < (a0_2.size : Int) := of_decide_eq_true (by first | (with_reducible assumption) | assumption)
            have hx8 := bt_at a0_2 x4_1
            replace p8 := eq_true p8
            replace q8 := eq_true q8
            go_wp2_with (first | ((with_reducible refine gate_builtin (b := .append) (xs := #[.tmp 22, .tmp 28]) rfl ?_); at_builtin; refine Kd.R_append (Kd.int .i64) (w0 := w) w.heap.size rfl (.tmp 22) (.tmp 28) 72 3 (.int .i64 0) 8 rfl Tryd.underlying72 info3 rfl (by decide) (by omega) u3 x3_1 (wrap64 (bt a0_2 x4_1)) [.int .i64 (wrap64 (bt a0_2 x4_1))] (fun _ => True) (fun _ => False) rfl rfl ?aP (fun _ hk => hk.elim) ?aF ?aO ?aB ?aS ?aL ?_; (case aP => exact rfl); (case aB => exact (by repeat (first | (with_reducible first | exact HB.out | apply below_alloc | apply pw_below_drewN | apply below_drew1 | refine below_set ?_ GE61001.out) | exact HB.out))); (case aF => exact (fun _ _ => trivial)); (case aO => exact (by (with_reducible repeat (first | apply Kd.R_alloc | apply Kd.R_drewN | apply Kd.R_drew)); exact HO_3.out)); (case aS => exact (below_size (by repeat (first | (with_reducible first | exact HB.out | apply below_alloc | apply pw_below_drewN | apply below_drew1 | refine below_set ?_ GE61001.out) | exact HB.out)))); (case aL => have := LMc9.out; omega); intro v61006 w11 ho hb hg hat; rw [← Ny61005.out] at ho; have n0_ := Aside0.mk (blk_grown (g := gb61001) (o := .cells #[.int .i64 a0_0, .int .i64 a0_1, .string a0_2, .slice A0_3 l0_3.length c0_3] 35 (0, 0)) (by (with_reducible repeat (first | refine blk_drewN ?_ _ | refine blk_drew ?_ | refine blk_alloc ?_ _)); exact BK61001.out) hg (Kd.R_ne HO_3.out BK61001.out (by decide))); have n1_ := Aside0.mk (hb); have n2_ := Aside0.mk (ho); clear BK61001; clear HB; clear HO_3; have BK61001 := n0_; have HB := n1_; have HO61007 := n2_; clear n0_ n1_ n2_; clear ho hb hg hat))
            go_roundg k1
            case measure => have := HK1.out; omega
            case rel => exact ⟨(y61005), (wrap64 (x4_1 + 1)), (by first | rfl | (simp; done) | (simp [*]; done)), H', ⟨by have := HK1.out; omega⟩, ⟨by (with_reducible repeat (first | apply Kd.R_alloc | apply Kd.R_drewN | apply Kd.R_drew)); exact HO61007.out⟩, ⟨by (with_reducible repeat (first | refine blk_drewN ?_ _ | refine blk_drew ?_ | refine blk_alloc ?_ _)); exact BK61001.out⟩, ⟨by repeat (first | (with_reducible first | exact HB.out | apply below_alloc | apply pw_below_drewN | apply below_drew1 | refine below_set ?_ GE61001.out) | exact HB.out)⟩⟩
          · rw [if_neg c9] at H
            exact absurd H (by simp)
        · rw [if_neg c7] at H
          exact absurd H (by simp)
      · rw [if_neg c6] at H
        have c6b0 : decide (x4_1 < (a0_2.size : Int)) = false := decide_eq_false c6
        clear c6
        by_cases c12 : x3_1.length < 17592186044416
        · rw [if_pos c12] at H
          have LMc12 := Aside0.mk c12
          clear c12
          obtain ⟨y61008, hy61008⟩ : ∃ y_ : List Int, y_ = (x3_1 ++ [(l0_3.length : Int)]) := ⟨_, rfl⟩
          replace H : (spec_l5Numbers.l1 k1 y61008 0 a0_0 a0_1 a0_2 l0_3) = some r := by first | (rw [hy61008]; with_reducible exact H) | (have H2_ := (Option.bind_some _ _).symm.trans H; rw [hy61008]; with_reducible exact H2_) | (have H2_ := (Option.bind_some _ _).symm.trans H; with_reducible exact H2_) | with_reducible exact H | (rw [hy61008]; exact H) | exact H
          have Ny61008 := Aside0.mk hy61008
          clear hy61008
          have H' := Aside0.mk H
          clear H
          have hcz13_0 : wr.cell? ⟨gb61001, 0, none⟩ = some (.int .i64 a0_0) := (blk_cell BK61001.out 0).trans rfl
          have hcz13_1 : wr.cell? ⟨gb61001, 1, none⟩ = some (.int .i64 a0_1) := (blk_cell BK61001.out 1).trans rfl
          have hcz13_2 : wr.cell? ⟨gb61001, 2, none⟩ = some (.string a0_2) := (blk_cell BK61001.out 2).trans rfl
          have hcz13_3 : wr.cell? ⟨gb61001, 3, none⟩ = some (.slice A0_3 l0_3.length c0_3) := (blk_cell BK61001.out 3).trans rfl
          have hfz13_0 := blk_frozen BK61001.out 0
          have hfz13_1 := blk_frozen BK61001.out 1
          have hfz13_2 := blk_frozen BK61001.out 2
          have hfz13_3 := blk_frozen BK61001.out 3
          go_wp2_with (first | ((with_reducible refine gate_builtin (b := .append) (xs := #[.tmp 30, .tmp 34]) rfl ?_); at_builtin; refine Kd.R_append (Kd.int .i64) (w0 := w) w.heap.size rfl (.tmp 30) (.tmp 34) 72 3 (.int .i64 0) 8 rfl Tryd.underlying72 info3 rfl (by decide) (by omega) u3 x3_1 (l0_3.length : Int) [.int .i64 (l0_3.length : Int)] (fun _ => True) (fun _ => False) rfl rfl ?aP (fun _ hk => hk.elim) ?aF ?aO ?aB ?aS ?aL ?_; (case aP => exact rfl); (case aB => exact (by repeat (first | (with_reducible first | exact HB.out | apply below_alloc | apply pw_below_drewN | apply below_drew1 | refine below_set ?_ GE61001.out) | exact HB.out))); (case aF => exact (fun _ _ => trivial)); (case aO => exact (by (with_reducible repeat (first | apply Kd.R_alloc | apply Kd.R_drewN | apply Kd.R_drew)); exact HO_3.out)); (case aS => exact (below_size (by repeat (first | (with_reducible first | exact HB.out | apply below_alloc | apply pw_below_drewN | apply below_drew1 | refine below_set ?_ GE61001.out) | exact HB.out)))); (case aL => have := LMc12.out; omega); intro v61009 w14 ho hb hg hat; rw [← Ny61008.out] at ho; have n0_ := Aside0.mk (blk_grown (g := gb61001) (o := .cells #[.int .i64 a0_0, .int .i64 a0_1, .string a0_2, .slice A0_3 l0_3.length c0_3] 35 (0, 0)) (by (with_reducible repeat (first | refine blk_drewN ?_ _ | refine blk_drew ?_ | refine blk_alloc ?_ _)); exact BK61001.out) hg (Kd.R_ne HO_3.out BK61001.out (by decide))); have n1_ := Aside0.mk (hb); have n2_ := Aside0.mk (ho); clear BK61001; clear HB; clear HO_3; have BK61001 := n0_; have HB := n1_; have HO61010 := n2_; clear n0_ n1_ n2_; clear ho hb hg hat))
          go_loopg [3, 5] k1 (fun kq v3 v5 w' => ∃ (x3_2 : List Int) (x5_2 : Int), v5 = .int .i64 x5_2 ∧ Aside0 (spec_l5Numbers.l1 kq x3_2 x5_2 a0_0 a0_1 a0_2 l0_3 = some r) ∧ Aside0 (kq ≤ k1) ∧ Aside0 (Kd.R (Kd.int .i64) 3 w' w.heap.size (fun _ => True) v3 x3_2) ∧ Aside0 (w'.heap[gb61001]? = some (.cells #[.int .i64 a0_0, .int .i64 a0_1, .string a0_2, (.slice A0_3 l0_3.length c0_3)] 35 (0, 0))) ∧ Aside0 (Below w.heap.size w w'))
          case atStart => exact ⟨(y61008), (0), (by first | rfl | (simp; done) | (simp [*]; done)), H', ⟨Nat.le_refl _⟩, ⟨by (with_reducible repeat (first | apply Kd.R_alloc | apply Kd.R_drewN | apply Kd.R_drew)); exact HO61010.out⟩, ⟨by (with_reducible repeat (first | refine blk_drewN ?_ _ | refine blk_drew ?_ | refine blk_alloc ?_ _)); exact BK61001.out⟩, ⟨by repeat (first | (with_reducible first | exact HB.out | apply below_alloc | apply pw_below_drewN | apply below_drew1 | refine below_set ?_ GE61001.out) | exact HB.out)⟩⟩
          case round =>
            clear H'
            try clear c1
            try clear p2
            try clear c6
            try clear c6b0
            try clear p6
            try clear c7
            try clear c7b0
            try clear p8
            try clear q8
            try clear hx8
            try clear c9
            try clear c12
            try clear hcz10_0
            try clear hcz10_1
            try clear hcz10_2
            try clear hcz10_3
            try clear hcz13_0
            try clear hcz13_1
            try clear hcz13_2
            try clear hcz13_3
            try clear hcz3_0
            try clear hcz3_1
            try clear hcz3_2
            try clear hcz3_3
            try clear hfz10_0
            try clear hfz10_1
            try clear hfz10_2
            try clear hfz10_3
            try clear hfz13_0
            try clear hfz13_1
            try clear hfz13_2
            try clear hfz13_3
            try clear hfz3_0
            try clear hfz3_1
            try clear hfz3_2
            try clear hfz3_3
            try clear p2
            try clear p8
            try clear q8
            obtain ⟨x3_2, x5_2, rfl, HA, HK2, HO_3, BK61001, HB⟩ := hrel
            cases gk with
            | zero => exact absurd HA.out (by simp [spec_l5Numbers.l1])
            | succ k2 =>
              have H := HA.out
              clear HA
              simp only [spec_l5Numbers.l1] at H
              by_cases c15 : x5_2 < (l0_3.length : Int)
              · rw [if_pos c15] at H
                have c15b0 : decide (x5_2 < (l0_3.length : Int)) = true := decide_eq_true c15
                clear c15
                by_cases c16 : 0 ≤ x5_2
                · rw [if_pos c16] at H
                  have c16b0 : decide (0 ≤ x5_2) = true := decide_eq_true c16
                  clear c16
                  obtain ⟨y61013, hy61013⟩ : ∃ y_ : List Int, y_ = (([(rd_T81 l0_3 x5_2).f0, (rd_T81 l0_3 x5_2).f1, (rd_T81 l0_3 x5_2).f2, (rd_T81 l0_3 x5_2).f3, (rd_T81 l0_3 x5_2).f4] : List Int)) := ⟨_, rfl⟩
                  replace H : (if x3_2.length + y61013.length < 17592186044416 then (spec_l5Numbers.l1 k2 (x3_2 ++ y61013) (wrap64 (x5_2 + 1)) a0_0 a0_1 a0_2 l0_3) else (none)) = some r := by first | (rw [hy61013]; with_reducible exact H) | (have H2_ := (Option.bind_some _ _).symm.trans H; rw [hy61013]; with_reducible exact H2_) | (have H2_ := (Option.bind_some _ _).symm.trans H; with_reducible exact H2_) | with_reducible exact H | (rw [hy61013]; exact H) | exact H
                  have Ny61013 := Aside0.mk hy61013
                  clear hy61013
                  by_cases c17 : x3_2.length + y61013.length < 17592186044416
                  · rw [if_pos c17] at H
                    have LMc17 := Aside0.mk c17
                    clear c17
                    obtain ⟨y61016, hy61016⟩ : ∃ y_ : List Int, y_ = (x3_2 ++ y61013) := ⟨_, rfl⟩
                    replace H : (spec_l5Numbers.l1 k2 y61016 (wrap64 (x5_2 + 1)) a0_0 a0_1 a0_2 l0_3) = some r := by first | (rw [hy61016]; with_reducible exact H) | (have H2_ := (Option.bind_some _ _).symm.trans H; rw [hy61016]; with_reducible exact H2_) | (have H2_ := (Option.bind_some _ _).symm.trans H; with_reducible exact H2_) | with_reducible exact H | (rw [hy61016]; exact H) | exact H
                    have Ny61016 := Aside0.mk hy61016
                    clear hy61016
                    have H' := Aside0.mk H
                    clear H
                    have hcz18_0 : wr.cell? ⟨gb61001, 0, none⟩ = some (.int .i64 a0_0) := (blk_cell BK61001.out 0).trans rfl
                    have hcz18_1 : wr.cell? ⟨gb61001, 1, none⟩ = some (.int .i64 a0_1) := (blk_cell BK61001.out 1).trans rfl
                    have hcz18_2 : wr.cell? ⟨gb61001, 2, none⟩ = some (.string a0_2) := (blk_cell BK61001.out 2).trans rfl
                    have hcz18_3 : wr.cell? ⟨gb61001, 3, none⟩ = some (.slice A0_3 l0_3.length c0_3) := (blk_cell BK61001.out 3).trans rfl
                    have hfz18_0 := blk_frozen BK61001.out 0
                    have hfz18_1 := blk_frozen BK61001.out 1
                    have hfz18_2 := blk_frozen BK61001.out 2
                    have hfz18_3 := blk_frozen BK61001.out 3
                    have p61011 : 0 ≤ (x5_2 : Int) := of_decide_eq_true (by first | (with_reducible assumption) | assumption)
                    have q61011 : x5_2 < (l0_3.length : Int) := of_decide_eq_true (by first | (with_reducible assumption) | assumption)
                    obtain ⟨ad61011, e61011, hx61011_0, hx61011_1, hx61011_2, hx61011_3, hx61011_4⟩ := at_T81 HR0_3.out x5_2 p61011 q61011
                    cases e61011
                    replace hx61011_0 := (HB.out.cell (World.block_lt_of_cell? w _ hx61011_0)).trans hx61011_0
                    replace hx61011_1 := (HB.out.cell (World.block_lt_of_cell? w _ hx61011_1)).trans hx61011_1
                    replace hx61011_2 := (HB.out.cell (World.block_lt_of_cell? w _ hx61011_2)).trans hx61011_2
                    replace hx61011_3 := (HB.out.cell (World.block_lt_of_cell? w _ hx61011_3)).trans hx61011_3
                    replace hx61011_4 := (HB.out.cell (World.block_lt_of_cell? w _ hx61011_4)).trans hx61011_4
                    replace p61011 := eq_true p61011
                    replace q61011 := eq_true q61011
                    go_wp2_with (first | ((with_reducible refine gate_dst (N := 6) rfl ?_); refine box_event ?hg (N := 6) ?hd (cs := #[.int .i64 0, .int .i64 0, .int .i64 0, .int .i64 0, .int .i64 0]) (t := 81) ?hr ?_; (case hd => rfl); (case hg => rfl); (case hr => first | (go_simp; done) | (go_simp; rfl)); intro gb61012 hg w19 hbox hb; have n0_ := Aside0.mk (Kd.R_below (by (with_reducible repeat (first | apply Kd.R_alloc | apply Kd.R_drewN | apply Kd.R_drew)); exact HO_3.out) hb); have n1_ := Aside0.mk (blk_below (g := gb61001) (o := .cells #[.int .i64 a0_0, .int .i64 a0_1, .string a0_2, .slice (some ad61011) l0_3.length c0_3] 35 (0, 0)) (by (with_reducible repeat (first | refine blk_drewN ?_ _ | refine blk_drew ?_ | refine blk_alloc ?_ _)); exact BK61001.out) hb); have n2_ := Aside0.mk (below_step (by repeat (first | (with_reducible first | exact HB.out | apply below_alloc | apply pw_below_drewN | apply below_drew1 | refine below_set ?_ GE61001.out) | exact HB.out)) hb); have n3_ := Aside0.mk (hbox); have n4_ := Aside0.mk ((by rw [hg]; exact (below_size (by repeat (first | (with_reducible first | exact HB.out | apply below_alloc | apply pw_below_drewN | apply below_drew1 | refine below_set ?_ GE61001.out) | exact HB.out))) : w.heap.size ≤ gb61012)); have n5_ := Aside0.mk ((by rw [hg]; exact (below_size (by repeat (first | (with_reducible first | exact HB.out | apply below_alloc | apply pw_below_drewN | apply below_drew1 | refine below_set ?_ GE61001.out) | exact HB.out))) : w.heap.size ≤ gb61012)); have n6_ := Aside0.mk ((by rw [hg]; exact Nat.ne_of_lt (blk_lt (g := gb61001) (o := .cells #[.int .i64 a0_0, .int .i64 a0_1, .string a0_2, .slice (some ad61011) l0_3.length c0_3] 35 (0, 0)) (by (with_reducible repeat (first | refine blk_drewN ?_ _ | refine blk_drew ?_ | refine blk_alloc ?_ _)); exact BK61001.out)) : gb61001 ≠ gb61012)); have n7_ := Aside0.mk ((by rw [hg]; exact Nat.ne_of_gt (blk_lt (g := gb61001) (o := .cells #[.int .i64 a0_0, .int .i64 a0_1, .string a0_2, .slice (some ad61011) l0_3.length c0_3] 35 (0, 0)) (by (with_reducible repeat (first | refine blk_drewN ?_ _ | refine blk_drew ?_ | refine blk_alloc ?_ _)); exact BK61001.out)) : gb61012 ≠ gb61001)); clear HO_3; clear BK61001; clear HB; have HO_3 := n0_; have BK61001 := n1_; have HB := n2_; have BK61012 := n3_; have GW61012 := n4_; have GE61012 := n5_; have NB61001_61012 := n6_; have NB61012_61001 := n7_; clear n0_ n1_ n2_ n3_ n4_ n5_ n6_ n7_; clear hb hbox hg; have hnb20 := NB61012_61001.out; have hnc20 := NB61001_61012.out; have hcz21_0 : w19.cell? ⟨gb61012, 0, none⟩ = some (.int .i64 0) := (blk_cell BK61012.out 0).trans rfl; have hcz21_1 : w19.cell? ⟨gb61012, 1, none⟩ = some (.int .i64 0) := (blk_cell BK61012.out 1).trans rfl; have hcz21_2 : w19.cell? ⟨gb61012, 2, none⟩ = some (.int .i64 0) := (blk_cell BK61012.out 2).trans rfl; have hcz21_3 : w19.cell? ⟨gb61012, 3, none⟩ = some (.int .i64 0) := (blk_cell BK61012.out 3).trans rfl; have hcz21_4 : w19.cell? ⟨gb61012, 4, none⟩ = some (.int .i64 0) := (blk_cell BK61012.out 4).trans rfl; have hfz21_0 := blk_frozen BK61012.out 0; have hfz21_1 := blk_frozen BK61012.out 1; have hfz21_2 := blk_frozen BK61012.out 2; have hfz21_3 := blk_frozen BK61012.out 3; have hfz21_4 := blk_frozen BK61012.out 4) | ((with_reducible refine gate_dst (N := 59) rfl ?_); refine Kd.R_lit (Kd.int .i64) _ 3 ?hg (N := 59) ?hd (xs := ([(rd_T81 l0_3 x5_2).f0, (rd_T81 l0_3 x5_2).f1, (rd_T81 l0_3 x5_2).f2, (rd_T81 l0_3 x5_2).f3, (rd_T81 l0_3 x5_2).f4] : List Int)) (inner := [.int .i64 ((rd_T81 l0_3 x5_2).f0), .int .i64 ((rd_T81 l0_3 x5_2).f1), .int .i64 ((rd_T81 l0_3 x5_2).f2), .int .i64 ((rd_T81 l0_3 x5_2).f3), .int .i64 ((rd_T81 l0_3 x5_2).f4)]) (ok := fun _ => True) (okp := fun _ => True) ?hr ?hp (fun _ hk => hk) trivial (Below.refl _ _) (Nat.le_refl _) (by simp) ?_; (case hd => rfl); (case hg => rfl); (case hr => first | (go_simp; done) | (go_simp; rfl)); (case hp => exact (Reps.one (show Kd.M (Kd.int .i64) _ _ _ ((rd_T81 l0_3 x5_2).f0) [.int .i64 ((rd_T81 l0_3 x5_2).f0)] from rfl) (Reps.one (show Kd.M (Kd.int .i64) _ _ _ ((rd_T81 l0_3 x5_2).f1) [.int .i64 ((rd_T81 l0_3 x5_2).f1)] from rfl) (Reps.one (show Kd.M (Kd.int .i64) _ _ _ ((rd_T81 l0_3 x5_2).f2) [.int .i64 ((rd_T81 l0_3 x5_2).f2)] from rfl) (Reps.one (show Kd.M (Kd.int .i64) _ _ _ ((rd_T81 l0_3 x5_2).f3) [.int .i64 ((rd_T81 l0_3 x5_2).f3)] from rfl) (Reps.one (show Kd.M (Kd.int .i64) _ _ _ ((rd_T81 l0_3 x5_2).f4) [.int .i64 ((rd_T81 l0_3 x5_2).f4)] from rfl) (Reps.none _ _))))))); intro v61014 w22 ho23 hb hg_ hnew_; clear hg_ hnew_; (first | rw [← Ny61013.out] at ho23 | (simp only [Int.reduceToNat] at ho23; rw [← Ny61013.out] at ho23)); have n0_ := Aside0.mk (Kd.R_elder' (by (with_reducible repeat (first | apply Kd.R_alloc | apply Kd.R_drewN | apply Kd.R_drew)); exact (Kd.R_mono (Kd.R_far (p := ⟨gb61012, 4, none⟩) (Kd.R_far (p := ⟨gb61012, 3, none⟩) (Kd.R_far (p := ⟨gb61012, 2, none⟩) (Kd.R_far (p := ⟨gb61012, 1, none⟩) (Kd.R_far (p := ⟨gb61012, 0, none⟩) (Kd.R_types HO_3.out BK61012.out (by decide)) (fun _ hk => hk.2) (.int .i64 ((rd_T81 l0_3 x5_2).f0))) (fun _ hk => hk.2) (.int .i64 ((rd_T81 l0_3 x5_2).f1))) (fun _ hk => hk.2) (.int .i64 ((rd_T81 l0_3 x5_2).f2))) (fun _ hk => hk.2) (.int .i64 ((rd_T81 l0_3 x5_2).f3))) (fun _ hk => hk.2) (.int .i64 ((rd_T81 l0_3 x5_2).f4))) (fun _ h_ => h_.1))) (Kd.R_base ho23) hb); have n1_ := Aside0.mk (Kd.R_lower (Kd.R_new' ho23 (Kd.R_lt (by (with_reducible repeat (first | apply Kd.R_alloc | apply Kd.R_drewN | apply Kd.R_drew)); exact (Kd.R_mono (Kd.R_far (p := ⟨gb61012, 4, none⟩) (Kd.R_far (p := ⟨gb61012, 3, none⟩) (Kd.R_far (p := ⟨gb61012, 2, none⟩) (Kd.R_far (p := ⟨gb61012, 1, none⟩) (Kd.R_far (p := ⟨gb61012, 0, none⟩) (Kd.R_types HO_3.out BK61012.out (by decide)) (fun _ hk => hk.2) (.int .i64 ((rd_T81 l0_3 x5_2).f0))) (fun _ hk => hk.2) (.int .i64 ((rd_T81 l0_3 x5_2).f1))) (fun _ hk => hk.2) (.int .i64 ((rd_T81 l0_3 x5_2).f2))) (fun _ hk => hk.2) (.int .i64 ((rd_T81 l0_3 x5_2).f3))) (fun _ hk => hk.2) (.int .i64 ((rd_T81 l0_3 x5_2).f4))) (fun _ h_ => h_.1))))) (below_size (by repeat (first | (with_reducible first | exact HB.out | apply below_alloc | apply pw_below_drewN | apply below_drew1 | refine below_set ?_ GE61001.out | refine below_set ?_ GE61012.out) | exact HB.out)))); have n2_ := Aside0.mk (blk_below (g := gb61001) (o := .cells #[.int .i64 a0_0, .int .i64 a0_1, .string a0_2, .slice (some ad61011) l0_3.length c0_3] 35 (0, 0)) (by (with_reducible repeat (first | refine blk_drewN ?_ _ | refine blk_drew ?_ | refine blk_alloc ?_ _)); refine blk_far ?_ NB61001_61012.out _; (with_reducible repeat (first | refine blk_drewN ?_ _ | refine blk_drew ?_ | refine blk_alloc ?_ _)); refine blk_far ?_ NB61001_61012.out _; (with_reducible repeat (first | refine blk_drewN ?_ _ | refine blk_drew ?_ | refine blk_alloc ?_ _)); refine blk_far ?_ NB61001_61012.out _; (with_reducible repeat (first | refine blk_drewN ?_ _ | refine blk_drew ?_ | refine blk_alloc ?_ _)); refine blk_far ?_ NB61001_61012.out _; (with_reducible repeat (first | refine blk_drewN ?_ _ | refine blk_drew ?_ | refine blk_alloc ?_ _)); refine blk_far ?_ NB61001_61012.out _; (with_reducible repeat (first | refine blk_drewN ?_ _ | refine blk_drew ?_ | refine blk_alloc ?_ _)); exact BK61001.out) hb); have n3_ := Aside0.mk (blk_below (g := gb61012) (o := .cells #[.int .i64 ((rd_T81 l0_3 x5_2).f0), .int .i64 ((rd_T81 l0_3 x5_2).f1), .int .i64 ((rd_T81 l0_3 x5_2).f2), .int .i64 ((rd_T81 l0_3 x5_2).f3), .int .i64 ((rd_T81 l0_3 x5_2).f4)] 81 (0, 0)) (by (with_reducible repeat (first | refine blk_drewN ?_ _ | refine blk_drew ?_ | refine blk_alloc ?_ _)); refine blk_put (cs := #[.int .i64 ((rd_T81 l0_3 x5_2).f0), .int .i64 ((rd_T81 l0_3 x5_2).f1), .int .i64 ((rd_T81 l0_3 x5_2).f2), .int .i64 ((rd_T81 l0_3 x5_2).f3), .int .i64 0]) ?_ 4 _ rfl; (with_reducible repeat (first | refine blk_drewN ?_ _ | refine blk_drew ?_ | refine blk_alloc ?_ _)); refine blk_put (cs := #[.int .i64 ((rd_T81 l0_3 x5_2).f0), .int .i64 ((rd_T81 l0_3 x5_2).f1), .int .i64 ((rd_T81 l0_3 x5_2).f2), .int .i64 0, .int .i64 0]) ?_ 3 _ rfl; (with_reducible repeat (first | refine blk_drewN ?_ _ | refine blk_drew ?_ | refine blk_alloc ?_ _)); refine blk_put (cs := #[.int .i64 ((rd_T81 l0_3 x5_2).f0), .int .i64 ((rd_T81 l0_3 x5_2).f1), .int .i64 0, .int .i64 0, .int .i64 0]) ?_ 2 _ rfl; (with_reducible repeat (first | refine blk_drewN ?_ _ | refine blk_drew ?_ | refine blk_alloc ?_ _)); refine blk_put (cs := #[.int .i64 ((rd_T81 l0_3 x5_2).f0), .int .i64 0, .int .i64 0, .int .i64 0, .int .i64 0]) ?_ 1 _ rfl; (with_reducible repeat (first | refine blk_drewN ?_ _ | refine blk_drew ?_ | refine blk_alloc ?_ _)); refine blk_put (cs := #[.int .i64 0, .int .i64 0, .int .i64 0, .int .i64 0, .int .i64 0]) ?_ 0 _ rfl; (with_reducible repeat (first | refine blk_drewN ?_ _ | refine blk_drew ?_ | refine blk_alloc ?_ _)); exact BK61012.out) hb); have n4_ := Aside0.mk (below_step (by repeat (first | (with_reducible first | exact HB.out | apply below_alloc | apply pw_below_drewN | apply below_drew1 | refine below_set ?_ GE61001.out | refine below_set ?_ GE61012.out) | exact HB.out)) hb); clear HO_3; clear BK61001; clear BK61012; clear HB; have HO_3 := n0_; have HO61015 := n1_; have BK61001 := n2_; have BK61012 := n3_; have HB := n4_; clear n0_ n1_ n2_ n3_ n4_; clear hb ho23; obtain ⟨Ao25, co25, eo25⟩ := Kd.R_slice HO61015.out; subst eo25) | ((with_reducible refine gate_builtin (b := .append) (xs := #[.tmp 48, .tmp 59]) rfl ?_); at_builtin; refine Kd.R_append_rows (Kd.int .i64) (w0 := w) w.heap.size rfl (.tmp 48) (.tmp 59) 72 3 (.int .i64 0) 8 rfl Tryd.underlying72 info3 rfl (by decide) (by omega) u3 x3_2 y61013 _ _ _ (fun k_ => some k_ ≠ (.slice Ao25 y61013.length co25 : Value).ownBlock) (fun _ => False) rfl rfl ?aO ?aR (fun _ _ h => h) (fun _ h => h.elim) ?aF ?aB ?aS ?aL ?_; (case aR => repeat (first | exact (Kd.R_reads' HO61015.out).2.2 | (with_reducible refine Kd.C_alloc ?_ _) | (with_reducible refine Kd.C_drewN ?_ _) | (with_reducible refine Kd.C_drew ?_))); (case aB => exact (by repeat (first | (with_reducible first | exact HB.out | apply below_alloc | apply pw_below_drewN | apply below_drew1 | refine below_set ?_ GE61001.out | refine below_set ?_ GE61012.out) | exact HB.out))); (case aF => exact (fun k_ hk => Kd.fresh' (Kd.R_lt (by (with_reducible repeat (first | apply Kd.R_alloc | apply Kd.R_drewN | apply Kd.R_drew)); exact HO61015.out)) k_ hk)); (case aO => exact (by (with_reducible repeat (first | apply Kd.R_alloc | apply Kd.R_drewN | apply Kd.R_drew)); exact Kd.R_mono HO_3.out (fun _ hk => hk.2))); (case aS => exact (below_size (by repeat (first | (with_reducible first | exact HB.out | apply below_alloc | apply pw_below_drewN | apply below_drew1 | refine below_set ?_ GE61001.out | refine below_set ?_ GE61012.out) | exact HB.out)))); (case aL => have := LMc17.out; omega); intro v61017 w24 ho hb hg hat; rw [← Ny61016.out] at ho; have n0_ := Aside0.mk (blk_grown (g := gb61001) (o := .cells #[.int .i64 a0_0, .int .i64 a0_1, .string a0_2, .slice (some ad61011) l0_3.length c0_3] 35 (0, 0)) (by (with_reducible repeat (first | refine blk_drewN ?_ _ | refine blk_drew ?_ | refine blk_alloc ?_ _)); exact BK61001.out) hg (Kd.R_ne HO_3.out BK61001.out (by decide))); have n1_ := Aside0.mk (blk_grown (g := gb61012) (o := .cells #[.int .i64 ((rd_T81 l0_3 x5_2).f0), .int .i64 ((rd_T81 l0_3 x5_2).f1), .int .i64 ((rd_T81 l0_3 x5_2).f2), .int .i64 ((rd_T81 l0_3 x5_2).f3), .int .i64 ((rd_T81 l0_3 x5_2).f4)] 81 (0, 0)) (by (with_reducible repeat (first | refine blk_drewN ?_ _ | refine blk_drew ?_ | refine blk_alloc ?_ _)); exact BK61012.out) hg (Kd.R_ne HO_3.out BK61012.out (by decide))); have n2_ := Aside0.mk (Kd.R_after (ok := (fun _ => True)) (by (with_reducible repeat (first | apply Kd.R_alloc | apply Kd.R_drewN | apply Kd.R_drew)); exact HO61015.out) hg hat); have n3_ := Aside0.mk (hb); have n4_ := Aside0.mk (ho); clear BK61001; clear BK61012; clear HO61015; clear HB; clear HO_3; have BK61001 := n0_; have BK61012 := n1_; have HO61015 := n2_; have HB := n3_; have HO61018 := n4_; clear n0_ n1_ n2_ n3_ n4_; clear ho hb hg hat))
                    go_roundg k2
                    case measure => have := HK1.out; have := HK2.out; omega
                    case rel => exact ⟨(y61016), (wrap64 (x5_2 + 1)), (by first | rfl | (simp; done) | (simp [*]; done)), H', ⟨by have := HK1.out; have := HK2.out; omega⟩, ⟨by (with_reducible repeat (first | apply Kd.R_alloc | apply Kd.R_drewN | apply Kd.R_drew)); exact Kd.R_mono HO61018.out (fun _ hk => trivial)⟩, ⟨by (with_reducible repeat (first | refine blk_drewN ?_ _ | refine blk_drew ?_ | refine blk_alloc ?_ _)); exact BK61001.out⟩, ⟨by repeat (first | (with_reducible first | exact HB.out | apply below_alloc | apply pw_below_drewN | apply below_drew1 | refine below_set ?_ GE61001.out | refine below_set ?_ GE61012.out) | exact HB.out)⟩⟩
                  · rw [if_neg c17] at H
                    exact absurd H (by simp)
                · rw [if_neg c16] at H
                  exact absurd H (by simp)
              · rw [if_neg c15] at H
                have c15b0 : decide (x5_2 < (l0_3.length : Int)) = false := decide_eq_false c15
                clear c15
                obtain rfl := Option.some.inj H
                have hcz26_0 : wr.cell? ⟨gb61001, 0, none⟩ = some (.int .i64 a0_0) := (blk_cell BK61001.out 0).trans rfl
                have hcz26_1 : wr.cell? ⟨gb61001, 1, none⟩ = some (.int .i64 a0_1) := (blk_cell BK61001.out 1).trans rfl
                have hcz26_2 : wr.cell? ⟨gb61001, 2, none⟩ = some (.string a0_2) := (blk_cell BK61001.out 2).trans rfl
                have hcz26_3 : wr.cell? ⟨gb61001, 3, none⟩ = some (.slice A0_3 l0_3.length c0_3) := (blk_cell BK61001.out 3).trans rfl
                have hfz26_0 := blk_frozen BK61001.out 0
                have hfz26_1 := blk_frozen BK61001.out 1
                have hfz26_2 := blk_frozen BK61001.out 2
                have hfz26_3 := blk_frozen BK61001.out 3
                go_wp2
                go_ret
                exact ⟨_, by first | rfl | (simp [errW_none, errW_some] <;> rfl) | (simp [*, errW_none, errW_some] <;> rfl), by (with_reducible repeat (first | apply Kd.R_alloc | apply Kd.R_drewN | apply Kd.R_drew)); exact HO_3.out, by repeat (first | (with_reducible first | exact HB.out | apply below_alloc | apply pw_below_drewN | apply below_drew1 | refine below_set ?_ GE61001.out) | exact HB.out)⟩
        · rw [if_neg c12] at H
          exact absurd H (by simp)
noncomputable def laws_big.f (l0 : List Int) : Option (Bool) := some (decide ((l0.length : Int) > 1048576))
set_option maxHeartbeats 8000000 in
set_option maxRecDepth 100000 in
theorem laws_big.calls (A0 : Option Addr) (c0 : Nat) (l0 : List Int) (r : Bool) (w : World) (hr0 : Kd.C (Kd.int .u8) w A0 l0.length l0) (hc0 : l0.length ≤ c0) (h : laws_big.f l0 = some r) :
    Calls Tryd.prog 4 #[.slice A0 l0.length c0] w fun e w' => e = .returned (.bool r) ∧ Drawn0 w w' := by
  have HR0 := Aside0.mk hr0
  have HC0 := Aside0.mk hc0
  clear hr0 hc0
  have H : (some (decide ((l0.length : Int) > 1048576))) = some r := h
  clear h
  obtain rfl := Option.some.inj H
  go_enter Tryd.func4, Tryd.ntmps4
  go_wp2
  go_ret
  exact ⟨by first | rfl | (simp; done) | (simp [*]; done), by repeat (first | exact Drawn0.refl _ | apply Drawn0.step)⟩
end Go.Proofs.YtjkjjfbcakbmnaaDoor.Q
