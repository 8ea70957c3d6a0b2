/- Parts of the proof: what functions of the program and of the reference answer.
   No condition. -/
import Derived.Test.YtjkjjfbcakbmnaaGreatDoorZRecord1
namespace Go.Proofs.YtjkjjfbcakbmnaaGreatDoor.Q
open Go.RowKit Go.Proofs.YtjkjjfbcakbmnaaGreatDoorW.PrintWords Go.Proofs.YtjkjjfbcakbmnaaGreatDoorW.PrintLast Go.Proofs.YtjkjjfbcakbmnaaGreatDoorW.PrintMore
attribute [local go_sem] max2_int min2_int max_two min_two max_three min_three max_four min_four   -- for this text's walks alone
set_option linter.unusedVariables false
set_option linter.unusedSimpArgs false
theorem deep_step {chart : List Acc} {a p : Int} (h : ∀ j : Int, 0 ≤ j → j ≤ a → par chart j < j) (h0 : 0 ≤ p) (h1 : p ≤ a) (hp : 0 ≤ par chart p) : deepAt chart p = deepAt chart (par chart p) + 1 := by
  have hlt := h p h0 h1
  show anc chart (p.toNat + 1) p = _
  unfold anc
  rw [if_pos hp]
  unfold deepAt
  rw [anc_more chart (a + 1) (fun j j0 j1 => h j j0 (by omega)) p.toNat ((par chart p).toNat + 1) (par chart p) hp (by omega) (by omega) (by omega)]
set_option maxHeartbeats 4000000 in
set_option maxRecDepth 100000 in
theorem spec_l4Deep.to (A0 : Option Addr) (c0 : Nat) (l0 : List Acc) (a : Int) (w : World) (hr0 : Kd.C k48 w A0 l0.length l0) (h0 : 0 ≤ a) (ha : a < (l0.length : Int)) (hn : l0.length ≤ 120) (hrows : ∀ j : Int, 0 ≤ j → j ≤ a → par l0 j < j) :
    Calls Tryz.prog 125 #[.slice A0 l0.length c0, .int .i64 a] w fun e w' => e = .returned (.int .i64 (deepAt l0 a)) ∧ w' = w := by
  have H0 := Aside0.mk hr0
  have HR := Aside0.mk hrows
  clear hr0 hrows
  go_enter Tryz.func125, Tryz.ntmps125
  go_wp2_with fail
  go_loop [1, 5] (fun v u => ∃ p n : Int, 0 ≤ p ∧ p ≤ a ∧ v = .int .i64 p ∧ 0 ≤ n ∧ n + p ≤ a ∧ u = .int .i64 n ∧ Aside0 (n + deepAt l0 p = deepAt l0 a)) (fun v _ => (intOf v).toNat)
  case atStart => exact ⟨a, 0, h0, by omega, rfl, by omega, by omega, rfl, ⟨by omega⟩⟩
  case round =>
    obtain ⟨p, n, hp0, hp1, rfl, hn0, hn1, rfl, HD⟩ := hrel
    have hlt : p < (l0.length : Int) := by omega
    obtain ⟨ad, e0, x0, x1, x2⟩ := at_T48 H0.out p hp0 hlt
    cases e0
    by_cases hp : 0 ≤ (rd_T48 l0 p).f1
    · have hs := Aside0.mk (deep_step HR.out hp0 hp1 hp)
      have hlo := HR.out p hp0 hp1
      have HLO := Aside0.mk hlo
      have hlo' : (rd_T48 l0 p).f1 < p := hlo
      clear hlo
      go_wp2_with fail
      go_round
      case rel => exact ⟨(rd_T48 l0 p).f1, n + 1, hp, by omega, rfl, by omega, by omega, rfl, ⟨by have h1 := HD.out; have h2 := hs.out; show n + 1 + deepAt l0 (par l0 p) = _; omega⟩⟩
      case measure => show (par l0 p).toNat < p.toNat; have := HLO.out; have h9 : 0 ≤ par l0 p := hp; omega
    · have hz : deepAt l0 p = 0 := by
        unfold deepAt anc
        exact if_neg hp
      have HZ := Aside0.mk hz
      clear hz
      have hp' : (rd_T48 l0 p).f1 < 0 := by omega
      go_wp2_with fail
      go_ret
      exact ⟨ret_i (by have h1 := HD.out; have h2 := HZ.out; omega), rfl⟩
set_option maxHeartbeats 4000000 in
set_option maxRecDepth 100000 in
theorem impl_nameByte.to (a0 : Int) (w : World) : Calls Tryz.prog 145 #[.int .u8 a0] w fun e w' => e = .returned (.bool (nameB a0)) ∧ w' = w := by
  go_enter Tryz.func145, Tryz.ntmps145
  go_wp2
  all_goals
    go_ret
    refine ⟨ret_bool ?_, rfl⟩
    unfold nameB
    rw [Bool.eq_iff_iff]
    simp
    try omega
set_option maxRecDepth 100000 in
theorem impl_between.to (a b c : Int) (w : World) : Calls Tryz.prog 37 #[.int .i64 a, .int .i64 b, .int .i64 c] w fun e w' => e = .returned (.bool (inB a b c)) ∧ w' = w := by
  go_enter Tryz.func37, Tryz.ntmps37
  go_wp2
  all_goals
    go_ret
    refine ⟨ret_bool ?_, rfl⟩
    unfold inB
    rw [Bool.eq_iff_iff]
    simp
    try omega
set_option maxHeartbeats 4000000 in
set_option maxRecDepth 100000 in
theorem impl_leafAt.to (A0 : Option Addr) (c0 : Nat) (l0 : List Acc) (a : Int) (w : World) (hr0 : Kd.C k48 w A0 l0.length l0) :
    Calls Tryz.prog 39 #[.slice A0 l0.length c0, .int .i64 a] w fun e w' => e = .returned (.bool (leafB l0 a)) ∧ w' = w := by
  have hl := hr0.2.1
  have H0 := Aside0.mk hr0
  clear hr0
  by_cases h0 : 0 ≤ a
  · by_cases h1 : a < (l0.length : Int)
    · by_cases h2 : a + 1 = (l0.length : Int)
      · have hb : (a + 1 == (l0.length : Int)) = true := beq_iff_eq.2 h2
        have HQ := Aside0.mk (leafB_of (show leafP l0 a from ⟨h0, h1, Or.inl h2⟩))
        clear h2
        go_enter Tryz.func39, Tryz.ntmps39
        go_wp2_with fail
        go_ret
        exact ⟨ret_bool HQ.out.symm, rfl⟩
      · have hb : (a + 1 == (l0.length : Int)) = false := beq_eq_false_iff_ne.2 h2
        have hn0 : 0 ≤ a + 1 := by omega
        have hn1 : a + 1 < (l0.length : Int) := by omega
        obtain ⟨ad, e0, x0, x1, x2⟩ := at_T48 H0.out (a + 1) hn0 hn1
        cases e0
        by_cases h3 : (rd_T48 l0 (a + 1)).f1 = a
        · have hb3 : ((rd_T48 l0 (a + 1)).f1 != a) = false := by rw [h3]; exact bne_self_eq_false' _
          have HQ := Aside0.mk (leafB_not (show ¬ leafP l0 a from fun q => by rcases q.2.2 with q | q; exact h2 q; exact q h3))
          clear h2 h3
          go_enter Tryz.func39, Tryz.ntmps39
          go_wp2_with fail
          go_ret
          exact ⟨ret_bool HQ.out.symm, rfl⟩
        · have hb3 : ((rd_T48 l0 (a + 1)).f1 != a) = true := bne_iff_ne.2 h3
          have HQ := Aside0.mk (leafB_of (show leafP l0 a from ⟨h0, h1, Or.inr h3⟩))
          clear h2 h3
          go_enter Tryz.func39, Tryz.ntmps39
          go_wp2_with fail
          go_ret
          exact ⟨ret_bool HQ.out.symm, rfl⟩
    · have HQ := Aside0.mk (leafB_not (show ¬ leafP l0 a from fun q => h1 q.2.1))
      go_enter Tryz.func39, Tryz.ntmps39
      go_wp2_with fail
      go_ret
      exact ⟨ret_bool HQ.out.symm, rfl⟩
  · have HQ := Aside0.mk (leafB_not (show ¬ leafP l0 a from fun q => h0 q.1))
    go_enter Tryz.func39, Tryz.ntmps39
    go_wp2_with fail
    go_ret
    exact ⟨ret_bool HQ.out.symm, rfl⟩
mutual
noncomputable def spec_l5Numbers.l0 : Nat → List Int → Int → Int → Int → ByteArray → List (S88) → Option (List Int)
  | 0, _, _, _, _, _, _ => none
  | k + 1, x3, x4, x124002000, x124002001, x124002002, x124002003 => if x4 < (x124002002.size : Int) then (if 0 ≤ x4 then (if x3.length < 17592186044416 then (spec_l5Numbers.l0 k (x3 ++ [wrap64 (bt x124002002 x4)]) (wrap64 (x4 + 1)) x124002000 x124002001 x124002002 x124002003) else (none)) else (none)) else (if x3.length < 17592186044416 then (spec_l5Numbers.l1 k (x3 ++ [(x124002003.length : Int)]) 0 x124002000 x124002001 x124002002 x124002003) else (none))
noncomputable def spec_l5Numbers.l1 : Nat → List Int → Int → Int → Int → ByteArray → List (S88) → Option (List Int)
  | 0, _, _, _, _, _, _ => none
  | k + 1, x3, x5, x124002000, x124002001, x124002002, x124002003 => if x5 < (x124002003.length : Int) then (if 0 ≤ x5 then ((some (([(rd_T88 x124002003 x5).f0, (rd_T88 x124002003 x5).f1, (rd_T88 x124002003 x5).f2, (rd_T88 x124002003 x5).f3, (rd_T88 x124002003 x5).f4] : List Int) : List Int)).bind fun y124013 => (if x3.length + y124013.length < 17592186044416 then (spec_l5Numbers.l1 k (x3 ++ y124013) (wrap64 (x5 + 1)) x124002000 x124002001 x124002002 x124002003) else (none))) else (none)) else (some x3)
end
noncomputable def spec_l5Numbers.f (k : Nat) (a0_0 : Int) (a0_1 : Int) (a0_2 : ByteArray) (l0_3 : List (S88)) : Option (List Int) := spec_l5Numbers.l0 k (([a0_0, a0_1, (a0_2.size : Int)] : List Int)) 0 a0_0 a0_1 a0_2 l0_3
set_option maxHeartbeats 8000000 in
set_option maxRecDepth 100000 in
theorem spec_l5Numbers.calls (k : Nat) (a0_0 : Int) (a0_1 : Int) (a0_2 : ByteArray) (A0_3 : Option Addr) (c0_3 : Nat) (l0_3 : List (S88)) (r : List Int) (w : World) (hr0_3 : Kd.C k88 w A0_3 l0_3.length l0_3) (hc0_3 : l0_3.length ≤ c0_3) (h : spec_l5Numbers.f k a0_0 a0_1 a0_2 l0_3 = some r) :
    Calls Tryz.prog 123 #[.agg #[.int .i64 a0_0, .int .i64 a0_1, .string a0_2, .slice A0_3 l0_3.length c0_3]] w fun e w' => ∃ v0_ : Value, e = .returned (v0_) ∧ Kd.R (Kd.int .i64) 3 w' w.heap.size (fun _ => True) v0_ r ∧ Below w.heap.size w w' := by
  have hu41 := Tryz.underlying41
  have hu88 := Tryz.underlying88
  have HR0_3 := Aside0.mk hr0_3
  have HC0_3 := Aside0.mk hc0_3
  clear hr0_3 hc0_3
  have HB := Aside0.mk (Below.refl w.heap.size w)
  have H : (spec_l5Numbers.l0 k (([a0_0, a0_1, (a0_2.size : Int)] : List Int)) 0 a0_0 a0_1 a0_2 l0_3) = some r := h
  clear h
  obtain ⟨y124002, hy124002⟩ : ∃ y_ : List Int, y_ = (([a0_0, a0_1, (a0_2.size : Int)] : List Int)) := ⟨_, rfl⟩
  replace H : (spec_l5Numbers.l0 k y124002 0 a0_0 a0_1 a0_2 l0_3) = some r := by first | (rw [hy124002]; with_reducible exact H) | (have H2_ := (Option.bind_some _ _).symm.trans H; rw [hy124002]; with_reducible exact H2_) | (have H2_ := (Option.bind_some _ _).symm.trans H; with_reducible exact H2_) | with_reducible exact H | (rw [hy124002]; exact H) | exact H
  have Ny124002 := Aside0.mk hy124002
  clear hy124002
  have H' := Aside0.mk H
  clear H
  go_enter Tryz.func123, Tryz.ntmps123
  go_wp2_with (first | ((with_reducible refine gate_dst (N := 1) rfl ?_); refine box_event ?hg (N := 1) ?hd (cs := #[.int .i64 a0_0, .int .i64 a0_1, .string a0_2, .slice A0_3 l0_3.length c0_3]) (t := 41) ?hr ?_; (case hd => rfl); (case hg => rfl); (case hr => first | (go_simp; done) | (go_simp; rfl)); intro gb124001 hg w2 hbox hb; have n0_ := Aside0.mk (below_step (by repeat (first | (with_reducible first | exact HB.out | apply y01 | apply y02 | apply y04) | exact HB.out)) hb); have n1_ := Aside0.mk (hbox); have n2_ := Aside0.mk ((by rw [hg]; exact (below_size (by repeat (first | (with_reducible first | exact HB.out | apply y01 | apply y02 | apply y04) | exact HB.out))) : w.heap.size ≤ gb124001)); have n3_ := Aside0.mk ((by rw [hg]; exact (below_size (by repeat (first | (with_reducible first | exact HB.out | apply y01 | apply y02 | apply y04) | exact HB.out))) : w.heap.size ≤ gb124001)); clear HB; have HB := n0_; have BK124001 := n1_; have GW124001 := n2_; have GE124001 := n3_; clear n0_ n1_ n2_ n3_; clear hb hbox hg; have hcz3_0 : w2.cell? ⟨gb124001, 0, none⟩ = some (.int .i64 a0_0) := (y03 BK124001.out 0).trans rfl; have hcz3_1 : w2.cell? ⟨gb124001, 1, none⟩ = some (.int .i64 a0_1) := (y03 BK124001.out 1).trans rfl; have hcz3_2 : w2.cell? ⟨gb124001, 2, none⟩ = some (.string a0_2) := (y03 BK124001.out 2).trans rfl; have hcz3_3 : w2.cell? ⟨gb124001, 3, none⟩ = some (.slice A0_3 l0_3.length c0_3) := (y03 BK124001.out 3).trans rfl; have hfz3_0 := y05 BK124001.out 0; have hfz3_1 := y05 BK124001.out 1; have hfz3_2 := y05 BK124001.out 2; have hfz3_3 := y05 BK124001.out 3) | ((with_reducible refine gate_dst (N := 14) rfl ?_); refine Kd.R_lit (Kd.int .i64) _ 3 ?hg (N := 14) ?hd (xs := ([a0_0, a0_1, (a0_2.size : Int)] : List Int)) (inner := [.int .i64 a0_0, .int .i64 a0_1, .int .i64 (a0_2.size : Int)]) (ok := fun _ => True) (okp := fun _ => True) ?hr ?hp (fun _ hk => hk) trivial (Below.refl _ _) (Nat.le_refl _) (by simp) ?_; (case hd => rfl); (case hg => rfl); (case hr => first | (go_simp; done) | (go_simp; rfl)); (case hp => exact (Reps.one (show Kd.M (Kd.int .i64) _ _ _ a0_0 [.int .i64 a0_0] from rfl) (Reps.one (show Kd.M (Kd.int .i64) _ _ _ a0_1 [.int .i64 a0_1] from rfl) (Reps.one (show Kd.M (Kd.int .i64) _ _ _ (a0_2.size : Int) [.int .i64 (a0_2.size : Int)] from rfl) (Reps.none _ _))))); intro v124003 w4 ho5 hb hg_ hnew_; clear hg_ hnew_; (first | rw [← Ny124002.out] at ho5 | (simp only [Int.reduceToNat] at ho5; rw [← Ny124002.out] at ho5)); have n0_ := Aside0.mk (Kd.R_lower ho5 (below_size (by repeat (first | (with_reducible first | exact HB.out | apply y01 | apply y02 | apply y04 | refine y08 ?_ GE124001.out) | exact HB.out)))); have n1_ := Aside0.mk (blk_below (g := gb124001) (o := .cells #[.int .i64 a0_0, .int .i64 a0_1, .string a0_2, .slice A0_3 l0_3.length c0_3] 41 (0, 0)) (by (with_reducible repeat (first | refine y07 ?_ _ | refine y09 ?_ | refine y06 ?_ _)); exact BK124001.out) hb); have n2_ := Aside0.mk (below_step (by repeat (first | (with_reducible first | exact HB.out | apply y01 | apply y02 | apply y04 | refine y08 ?_ GE124001.out) | exact HB.out)) hb); clear BK124001; clear HB; have HO124004 := n0_; have BK124001 := n1_; have HB := n2_; clear n0_ n1_ n2_; clear hb ho5))
  go_loopg [3, 4] k (fun kq v3 v4 w' => ∃ (x3_1 : List Int) (x4_1 : Int), v4 = .int .i64 x4_1 ∧ Aside0 (spec_l5Numbers.l0 kq x3_1 x4_1 a0_0 a0_1 a0_2 l0_3 = some r) ∧ Aside0 (kq ≤ k) ∧ Aside0 (Kd.R (Kd.int .i64) 3 w' w.heap.size (fun _ => True) v3 x3_1) ∧ Aside0 (w'.heap[gb124001]? = some (.cells #[.int .i64 a0_0, .int .i64 a0_1, .string a0_2, (.slice A0_3 l0_3.length c0_3)] 41 (0, 0))) ∧ Aside0 (Below w.heap.size w w'))
  case atStart => exact ⟨(y124002), (0), (by first | rfl | (simp; done) | (simp [*]; done)), H', ⟨Nat.le_refl _⟩, ⟨by (with_reducible repeat (first | apply Kd.R_alloc | apply Kd.R_drewN | apply Kd.R_drew)); exact HO124004.out⟩, ⟨by (with_reducible repeat (first | refine y07 ?_ _ | refine y09 ?_ | refine y06 ?_ _)); exact BK124001.out⟩, ⟨by repeat (first | (with_reducible first | exact HB.out | apply y01 | apply y02 | apply y04 | refine y08 ?_ GE124001.out) | exact HB.out)⟩⟩
  case round =>
    clear H'
    try clear c1
    try clear p2
    try clear hcz3_0
    try clear hcz3_1
    try clear hcz3_2
    try clear hcz3_3
    try clear hfz3_0
    try clear hfz3_1
    try clear hfz3_2
    try clear hfz3_3
    obtain ⟨x3_1, x4_1, rfl, HA, HK1, HO_3, BK124001, HB⟩ := hrel
    cases gk with
    | zero => exact absurd HA.out (by simp [spec_l5Numbers.l0])
    | succ k1 =>
      have H := HA.out
      clear HA
      simp only [spec_l5Numbers.l0] at H
      by_cases c6 : x4_1 < (a0_2.size : Int)
      · rw [if_pos c6] at H
        have c6b0 : decide (x4_1 < (a0_2.size : Int)) = true := decide_eq_true c6
        clear c6
        by_cases c7 : 0 ≤ x4_1
        · rw [if_pos c7] at H
          have c7b0 : decide (0 ≤ x4_1) = true := decide_eq_true c7
          clear c7
          by_cases c9 : x3_1.length < 17592186044416
          · rw [if_pos c9] at H
            have LMc9 := Aside0.mk c9
            clear c9
            obtain ⟨y124005, hy124005⟩ : ∃ y_ : List Int, y_ = (x3_1 ++ [wrap64 (bt a0_2 x4_1)]) := ⟨_, rfl⟩
            replace H : (spec_l5Numbers.l0 k1 y124005 (wrap64 (x4_1 + 1)) a0_0 a0_1 a0_2 l0_3) = some r := by first | (rw [hy124005]; with_reducible exact H) | (have H2_ := (Option.bind_some _ _).symm.trans H; rw [hy124005]; with_reducible exact H2_) | (have H2_ := (Option.bind_some _ _).symm.trans H; with_reducible exact H2_) | with_reducible exact H | (rw [hy124005]; exact H) | exact H
            have Ny124005 := Aside0.mk hy124005
            clear hy124005
            have H' := Aside0.mk H
            clear H
            have hcz10_0 : wr.cell? ⟨gb124001, 0, none⟩ = some (.int .i64 a0_0) := (y03 BK124001.out 0).trans rfl
            have hcz10_1 : wr.cell? ⟨gb124001, 1, none⟩ = some (.int .i64 a0_1) := (y03 BK124001.out 1).trans rfl
            have hcz10_2 : wr.cell? ⟨gb124001, 2, none⟩ = some (.string a0_2) := (y03 BK124001.out 2).trans rfl
            have hcz10_3 : wr.cell? ⟨gb124001, 3, none⟩ = some (.slice A0_3 l0_3.length c0_3) := (y03 BK124001.out 3).trans rfl
            have hfz10_0 := y05 BK124001.out 0
            have hfz10_1 := y05 BK124001.out 1
            have hfz10_2 := y05 BK124001.out 2
            have hfz10_3 := y05 BK124001.out 3
            have p8 : 0 ≤ (x4_1 : Int) := of_decide_eq_true (by first | (with_reducible assumption) | assumption)
            have q8 : x4_1 < (a0_2.size : Int) := of_decide_eq_true (by first | (with_reducible assumption) | assumption)
            have hx8 := bt_at a0_2 x4_1
            replace p8 := eq_true p8
            replace q8 := eq_true q8
            go_wp2_with (first | ((with_reducible refine gate_builtin (b := .append) (xs := #[.tmp 22, .tmp 28]) rfl ?_); at_builtin; refine Kd.R_append (Kd.int .i64) (w0 := w) w.heap.size rfl (.tmp 22) (.tmp 28) 42 3 (.int .i64 0) 8 rfl Tryz.underlying42 info3 rfl (by decide) (by omega) u3 x3_1 (wrap64 (bt a0_2 x4_1)) [.int .i64 (wrap64 (bt a0_2 x4_1))] (fun _ => True) (fun _ => False) rfl rfl ?aP (fun _ hk => hk.elim) ?aF ?aO ?aB ?aS ?aL ?_; (case aP => exact rfl); (case aB => exact (by repeat (first | (with_reducible first | exact HB.out | apply y01 | apply y02 | apply y04 | refine y08 ?_ GE124001.out) | exact HB.out))); (case aF => exact (fun _ _ => trivial)); (case aO => exact (by (with_reducible repeat (first | apply Kd.R_alloc | apply Kd.R_drewN | apply Kd.R_drew)); exact HO_3.out)); (case aS => exact (below_size (by repeat (first | (with_reducible first | exact HB.out | apply y01 | apply y02 | apply y04 | refine y08 ?_ GE124001.out) | exact HB.out)))); (case aL => have := LMc9.out; omega); intro v124006 w11 ho hb hg hat; rw [← Ny124005.out] at ho; have n0_ := Aside0.mk (blk_grown (g := gb124001) (o := .cells #[.int .i64 a0_0, .int .i64 a0_1, .string a0_2, .slice A0_3 l0_3.length c0_3] 41 (0, 0)) (by (with_reducible repeat (first | refine y07 ?_ _ | refine y09 ?_ | refine y06 ?_ _)); exact BK124001.out) hg (Kd.R_ne HO_3.out BK124001.out (by decide))); have n1_ := Aside0.mk (hb); have n2_ := Aside0.mk (ho); clear BK124001; clear HB; clear HO_3; have BK124001 := n0_; have HB := n1_; have HO124007 := n2_; clear n0_ n1_ n2_; clear ho hb hg hat))
            go_roundg k1
            case measure => have := HK1.out; omega
            case rel => exact ⟨(y124005), (wrap64 (x4_1 + 1)), (by first | rfl | (simp; done) | (simp [*]; done)), H', ⟨by have := HK1.out; omega⟩, ⟨by (with_reducible repeat (first | apply Kd.R_alloc | apply Kd.R_drewN | apply Kd.R_drew)); exact HO124007.out⟩, ⟨by (with_reducible repeat (first | refine y07 ?_ _ | refine y09 ?_ | refine y06 ?_ _)); exact BK124001.out⟩, ⟨by repeat (first | (with_reducible first | exact HB.out | apply y01 | apply y02 | apply y04 | refine y08 ?_ GE124001.out) | exact HB.out)⟩⟩
          · rw [if_neg c9] at H
            exact absurd H (by simp)
        · rw [if_neg c7] at H
          exact absurd H (by simp)
      · rw [if_neg c6] at H
        have c6b0 : decide (x4_1 < (a0_2.size : Int)) = false := decide_eq_false c6
        clear c6
        by_cases c12 : x3_1.length < 17592186044416
        · rw [if_pos c12] at H
          have LMc12 := Aside0.mk c12
          clear c12
          obtain ⟨y124008, hy124008⟩ : ∃ y_ : List Int, y_ = (x3_1 ++ [(l0_3.length : Int)]) := ⟨_, rfl⟩
          replace H : (spec_l5Numbers.l1 k1 y124008 0 a0_0 a0_1 a0_2 l0_3) = some r := by first | (rw [hy124008]; with_reducible exact H) | (have H2_ := (Option.bind_some _ _).symm.trans H; rw [hy124008]; with_reducible exact H2_) | (have H2_ := (Option.bind_some _ _).symm.trans H; with_reducible exact H2_) | with_reducible exact H | (rw [hy124008]; exact H) | exact H
          have Ny124008 := Aside0.mk hy124008
          clear hy124008
          have H' := Aside0.mk H
          clear H
          have hcz13_0 : wr.cell? ⟨gb124001, 0, none⟩ = some (.int .i64 a0_0) := (y03 BK124001.out 0).trans rfl
          have hcz13_1 : wr.cell? ⟨gb124001, 1, none⟩ = some (.int .i64 a0_1) := (y03 BK124001.out 1).trans rfl
          have hcz13_2 : wr.cell? ⟨gb124001, 2, none⟩ = some (.string a0_2) := (y03 BK124001.out 2).trans rfl
          have hcz13_3 : wr.cell? ⟨gb124001, 3, none⟩ = some (.slice A0_3 l0_3.length c0_3) := (y03 BK124001.out 3).trans rfl
          have hfz13_0 := y05 BK124001.out 0
          have hfz13_1 := y05 BK124001.out 1
          have hfz13_2 := y05 BK124001.out 2
          have hfz13_3 := y05 BK124001.out 3
          go_wp2_with (first | ((with_reducible refine gate_builtin (b := .append) (xs := #[.tmp 30, .tmp 34]) rfl ?_); at_builtin; refine Kd.R_append (Kd.int .i64) (w0 := w) w.heap.size rfl (.tmp 30) (.tmp 34) 42 3 (.int .i64 0) 8 rfl Tryz.underlying42 info3 rfl (by decide) (by omega) u3 x3_1 (l0_3.length : Int) [.int .i64 (l0_3.length : Int)] (fun _ => True) (fun _ => False) rfl rfl ?aP (fun _ hk => hk.elim) ?aF ?aO ?aB ?aS ?aL ?_; (case aP => exact rfl); (case aB => exact (by repeat (first | (with_reducible first | exact HB.out | apply y01 | apply y02 | apply y04 | refine y08 ?_ GE124001.out) | exact HB.out))); (case aF => exact (fun _ _ => trivial)); (case aO => exact (by (with_reducible repeat (first | apply Kd.R_alloc | apply Kd.R_drewN | apply Kd.R_drew)); exact HO_3.out)); (case aS => exact (below_size (by repeat (first | (with_reducible first | exact HB.out | apply y01 | apply y02 | apply y04 | refine y08 ?_ GE124001.out) | exact HB.out)))); (case aL => have := LMc12.out; omega); intro v124009 w14 ho hb hg hat; rw [← Ny124008.out] at ho; have n0_ := Aside0.mk (blk_grown (g := gb124001) (o := .cells #[.int .i64 a0_0, .int .i64 a0_1, .string a0_2, .slice A0_3 l0_3.length c0_3] 41 (0, 0)) (by (with_reducible repeat (first | refine y07 ?_ _ | refine y09 ?_ | refine y06 ?_ _)); exact BK124001.out) hg (Kd.R_ne HO_3.out BK124001.out (by decide))); have n1_ := Aside0.mk (hb); have n2_ := Aside0.mk (ho); clear BK124001; clear HB; clear HO_3; have BK124001 := n0_; have HB := n1_; have HO124010 := n2_; clear n0_ n1_ n2_; clear ho hb hg hat))
          go_loopg [3, 5] k1 (fun kq v3 v5 w' => ∃ (x3_2 : List Int) (x5_2 : Int), v5 = .int .i64 x5_2 ∧ Aside0 (spec_l5Numbers.l1 kq x3_2 x5_2 a0_0 a0_1 a0_2 l0_3 = some r) ∧ Aside0 (kq ≤ k1) ∧ Aside0 (Kd.R (Kd.int .i64) 3 w' w.heap.size (fun _ => True) v3 x3_2) ∧ Aside0 (w'.heap[gb124001]? = some (.cells #[.int .i64 a0_0, .int .i64 a0_1, .string a0_2, (.slice A0_3 l0_3.length c0_3)] 41 (0, 0))) ∧ Aside0 (Below w.heap.size w w'))
          case atStart => exact ⟨(y124008), (0), (by first | rfl | (simp; done) | (simp [*]; done)), H', ⟨Nat.le_refl _⟩, ⟨by (with_reducible repeat (first | apply Kd.R_alloc | apply Kd.R_drewN | apply Kd.R_drew)); exact HO124010.out⟩, ⟨by (with_reducible repeat (first | refine y07 ?_ _ | refine y09 ?_ | refine y06 ?_ _)); exact BK124001.out⟩, ⟨by repeat (first | (with_reducible first | exact HB.out | apply y01 | apply y02 | apply y04 | refine y08 ?_ GE124001.out) | exact HB.out)⟩⟩
          case round =>
            clear H'
            try clear c1
            try clear p2
            try clear c6
            try clear c6b0
            try clear p6
            try clear c7
            try clear c7b0
            try clear p8
            try clear q8
            try clear hx8
            try clear c9
            try clear c12
            try clear hcz10_0
            try clear hcz10_1
            try clear hcz10_2
            try clear hcz10_3
            try clear hcz13_0
            try clear hcz13_1
            try clear hcz13_2
            try clear hcz13_3
            try clear hcz3_0
            try clear hcz3_1
            try clear hcz3_2
            try clear hcz3_3
            try clear hfz10_0
            try clear hfz10_1
            try clear hfz10_2
            try clear hfz10_3
            try clear hfz13_0
            try clear hfz13_1
            try clear hfz13_2
            try clear hfz13_3
            try clear hfz3_0
            try clear hfz3_1
            try clear hfz3_2
            try clear hfz3_3
            try clear p2
            try clear p8
            try clear q8
            obtain ⟨x3_2, x5_2, rfl, HA, HK2, HO_3, BK124001, HB⟩ := hrel
            cases gk with
            | zero => exact absurd HA.out (by simp [spec_l5Numbers.l1])
            | succ k2 =>
              have H := HA.out
              clear HA
              simp only [spec_l5Numbers.l1] at H
              by_cases c15 : x5_2 < (l0_3.length : Int)
              · rw [if_pos c15] at H
                have c15b0 : decide (x5_2 < (l0_3.length : Int)) = true := decide_eq_true c15
                clear c15
                by_cases c16 : 0 ≤ x5_2
                · rw [if_pos c16] at H
                  have c16b0 : decide (0 ≤ x5_2) = true := decide_eq_true c16
                  clear c16
                  obtain ⟨y124013, hy124013⟩ : ∃ y_ : List Int, y_ = (([(rd_T88 l0_3 x5_2).f0, (rd_T88 l0_3 x5_2).f1, (rd_T88 l0_3 x5_2).f2, (rd_T88 l0_3 x5_2).f3, (rd_T88 l0_3 x5_2).f4] : List Int)) := ⟨_, rfl⟩
                  replace H : (if x3_2.length + y124013.length < 17592186044416 then (spec_l5Numbers.l1 k2 (x3_2 ++ y124013) (wrap64 (x5_2 + 1)) a0_0 a0_1 a0_2 l0_3) else (none)) = some r := by first | (rw [hy124013]; with_reducible exact H) | (have H2_ := (Option.bind_some _ _).symm.trans H; rw [hy124013]; with_reducible exact H2_) | (have H2_ := (Option.bind_some _ _).symm.trans H; with_reducible exact H2_) | with_reducible exact H | (rw [hy124013]; exact H) | exact H
                  have Ny124013 := Aside0.mk hy124013
                  clear hy124013
                  by_cases c17 : x3_2.length + y124013.length < 17592186044416
                  · rw [if_pos c17] at H
                    have LMc17 := Aside0.mk c17
                    clear c17
                    obtain ⟨y124016, hy124016⟩ : ∃ y_ : List Int, y_ = (x3_2 ++ y124013) := ⟨_, rfl⟩
                    replace H : (spec_l5Numbers.l1 k2 y124016 (wrap64 (x5_2 + 1)) a0_0 a0_1 a0_2 l0_3) = some r := by first | (rw [hy124016]; with_reducible exact H) | (have H2_ := (Option.bind_some _ _).symm.trans H; rw [hy124016]; with_reducible exact H2_) | (have H2_ := (Option.bind_some _ _).symm.trans H; with_reducible exact H2_) | with_reducible exact H | (rw [hy124016]; exact H) | exact H
                    have Ny124016 := Aside0.mk hy124016
                    clear hy124016
                    have H' := Aside0.mk H
                    clear H
                    have hcz18_0 : wr.cell? ⟨gb124001, 0, none⟩ = some (.int .i64 a0_0) := (y03 BK124001.out 0).trans rfl
                    have hcz18_1 : wr.cell? ⟨gb124001, 1, none⟩ = some (.int .i64 a0_1) := (y03 BK124001.out 1).trans rfl
                    have hcz18_2 : wr.cell? ⟨gb124001, 2, none⟩ = some (.string a0_2) := (y03 BK124001.out 2).trans rfl
                    have hcz18_3 : wr.cell? ⟨gb124001, 3, none⟩ = some (.slice A0_3 l0_3.length c0_3) := (y03 BK124001.out 3).trans rfl
                    have hfz18_0 := y05 BK124001.out 0
                    have hfz18_1 := y05 BK124001.out 1
                    have hfz18_2 := y05 BK124001.out 2
                    have hfz18_3 := y05 BK124001.out 3
                    have p124011 : 0 ≤ (x5_2 : Int) := of_decide_eq_true (by first | (with_reducible assumption) | assumption)
                    have q124011 : x5_2 < (l0_3.length : Int) := of_decide_eq_true (by first | (with_reducible assumption) | assumption)
                    obtain ⟨ad124011, e124011, hx124011_0, hx124011_1, hx124011_2, hx124011_3, hx124011_4⟩ := at_T88 HR0_3.out x5_2 p124011 q124011
                    cases e124011
                    replace hx124011_0 := (HB.out.cell (World.block_lt_of_cell? w _ hx124011_0)).trans hx124011_0
                    replace hx124011_1 := (HB.out.cell (World.block_lt_of_cell? w _ hx124011_1)).trans hx124011_1
                    replace hx124011_2 := (HB.out.cell (World.block_lt_of_cell? w _ hx124011_2)).trans hx124011_2
                    replace hx124011_3 := (HB.out.cell (World.block_lt_of_cell? w _ hx124011_3)).trans hx124011_3
                    replace hx124011_4 := (HB.out.cell (World.block_lt_of_cell? w _ hx124011_4)).trans hx124011_4
                    replace p124011 := eq_true p124011
                    replace q124011 := eq_true q124011
                    go_wp2_with (first | ((with_reducible refine gate_dst (N := 6) rfl ?_); refine box_event ?hg (N := 6) ?hd (cs := #[.int .i64 0, .int .i64 0, .int .i64 0, .int .i64 0, .int .i64 0]) (t := 88) ?hr ?_; (case hd => rfl); (case hg => rfl); (case hr => first | (go_simp; done) | (go_simp; rfl)); intro gb124012 hg w19 hbox hb; have n0_ := Aside0.mk (Kd.R_below (by (with_reducible repeat (first | apply Kd.R_alloc | apply Kd.R_drewN | apply Kd.R_drew)); exact HO_3.out) hb); have n1_ := Aside0.mk (blk_below (g := gb124001) (o := .cells #[.int .i64 a0_0, .int .i64 a0_1, .string a0_2, .slice (some ad124011) l0_3.length c0_3] 41 (0, 0)) (by (with_reducible repeat (first | refine y07 ?_ _ | refine y09 ?_ | refine y06 ?_ _)); exact BK124001.out) hb); have n2_ := Aside0.mk (below_step (by repeat (first | (with_reducible first | exact HB.out | apply y01 | apply y02 | apply y04 | refine y08 ?_ GE124001.out) | exact HB.out)) hb); have n3_ := Aside0.mk (hbox); have n4_ := Aside0.mk ((by rw [hg]; exact (below_size (by repeat (first | (with_reducible first | exact HB.out | apply y01 | apply y02 | apply y04 | refine y08 ?_ GE124001.out) | exact HB.out))) : w.heap.size ≤ gb124012)); have n5_ := Aside0.mk ((by rw [hg]; exact (below_size (by repeat (first | (with_reducible first | exact HB.out | apply y01 | apply y02 | apply y04 | refine y08 ?_ GE124001.out) | exact HB.out))) : w.heap.size ≤ gb124012)); have n6_ := Aside0.mk ((by rw [hg]; exact Nat.ne_of_lt (blk_lt (g := gb124001) (o := .cells #[.int .i64 a0_0, .int .i64 a0_1, .string a0_2, .slice (some ad124011) l0_3.length c0_3] 41 (0, 0)) (by (with_reducible repeat (first | refine y07 ?_ _ | refine y09 ?_ | refine y06 ?_ _)); exact BK124001.out)) : gb124001 ≠ gb124012)); have n7_ := Aside0.mk ((by rw [hg]; exact Nat.ne_of_gt (blk_lt (g := gb124001) (o := .cells #[.int .i64 a0_0, .int .i64 a0_1, .string a0_2, .slice (some ad124011) l0_3.length c0_3] 41 (0, 0)) (by (with_reducible repeat (first | refine y07 ?_ _ | refine y09 ?_ | refine y06 ?_ _)); exact BK124001.out)) : gb124012 ≠ gb124001)); clear HO_3; clear BK124001; clear HB; have HO_3 := n0_; have BK124001 := n1_; have HB := n2_; have BK124012 := n3_; have GW124012 := n4_; have GE124012 := n5_; have NB124001_124012 := n6_; have NB124012_124001 := n7_; clear n0_ n1_ n2_ n3_ n4_ n5_ n6_ n7_; clear hb hbox hg; have hnb20 := NB124012_124001.out; have hnc20 := NB124001_124012.out; have hcz21_0 : w19.cell? ⟨gb124012, 0, none⟩ = some (.int .i64 0) := (y03 BK124012.out 0).trans rfl; have hcz21_1 : w19.cell? ⟨gb124012, 1, none⟩ = some (.int .i64 0) := (y03 BK124012.out 1).trans rfl; have hcz21_2 : w19.cell? ⟨gb124012, 2, none⟩ = some (.int .i64 0) := (y03 BK124012.out 2).trans rfl; have hcz21_3 : w19.cell? ⟨gb124012, 3, none⟩ = some (.int .i64 0) := (y03 BK124012.out 3).trans rfl; have hcz21_4 : w19.cell? ⟨gb124012, 4, none⟩ = some (.int .i64 0) := (y03 BK124012.out 4).trans rfl; have hfz21_0 := y05 BK124012.out 0; have hfz21_1 := y05 BK124012.out 1; have hfz21_2 := y05 BK124012.out 2; have hfz21_3 := y05 BK124012.out 3; have hfz21_4 := y05 BK124012.out 4) | ((with_reducible refine gate_dst (N := 59) rfl ?_); refine Kd.R_lit (Kd.int .i64) _ 3 ?hg (N := 59) ?hd (xs := ([(rd_T88 l0_3 x5_2).f0, (rd_T88 l0_3 x5_2).f1, (rd_T88 l0_3 x5_2).f2, (rd_T88 l0_3 x5_2).f3, (rd_T88 l0_3 x5_2).f4] : List Int)) (inner := [.int .i64 ((rd_T88 l0_3 x5_2).f0), .int .i64 ((rd_T88 l0_3 x5_2).f1), .int .i64 ((rd_T88 l0_3 x5_2).f2), .int .i64 ((rd_T88 l0_3 x5_2).f3), .int .i64 ((rd_T88 l0_3 x5_2).f4)]) (ok := fun _ => True) (okp := fun _ => True) ?hr ?hp (fun _ hk => hk) trivial (Below.refl _ _) (Nat.le_refl _) (by simp) ?_; (case hd => rfl); (case hg => rfl); (case hr => first | (go_simp; done) | (go_simp; rfl)); (case hp => exact (Reps.one (show Kd.M (Kd.int .i64) _ _ _ ((rd_T88 l0_3 x5_2).f0) [.int .i64 ((rd_T88 l0_3 x5_2).f0)] from rfl) (Reps.one (show Kd.M (Kd.int .i64) _ _ _ ((rd_T88 l0_3 x5_2).f1) [.int .i64 ((rd_T88 l0_3 x5_2).f1)] from rfl) (Reps.one (show Kd.M (Kd.int .i64) _ _ _ ((rd_T88 l0_3 x5_2).f2) [.int .i64 ((rd_T88 l0_3 x5_2).f2)] from rfl) (Reps.one (show Kd.M (Kd.int .i64) _ _ _ ((rd_T88 l0_3 x5_2).f3) [.int .i64 ((rd_T88 l0_3 x5_2).f3)] from rfl) (Reps.one (show Kd.M (Kd.int .i64) _ _ _ ((rd_T88 l0_3 x5_2).f4) [.int .i64 ((rd_T88 l0_3 x5_2).f4)] from rfl) (Reps.none _ _))))))); intro v124014 w22 ho23 hb hg_ hnew_; clear hg_ hnew_; (first | rw [← Ny124013.out] at ho23 | (simp only [Int.reduceToNat] at ho23; rw [← Ny124013.out] at ho23)); have n0_ := Aside0.mk (Kd.R_elder' (by (with_reducible repeat (first | apply Kd.R_alloc | apply Kd.R_drewN | apply Kd.R_drew)); exact (Kd.R_mono (Kd.R_far (p := ⟨gb124012, 4, none⟩) (Kd.R_far (p := ⟨gb124012, 3, none⟩) (Kd.R_far (p := ⟨gb124012, 2, none⟩) (Kd.R_far (p := ⟨gb124012, 1, none⟩) (Kd.R_far (p := ⟨gb124012, 0, none⟩) (Kd.R_types HO_3.out BK124012.out (by decide)) (fun _ hk => hk.2) (.int .i64 ((rd_T88 l0_3 x5_2).f0))) (fun _ hk => hk.2) (.int .i64 ((rd_T88 l0_3 x5_2).f1))) (fun _ hk => hk.2) (.int .i64 ((rd_T88 l0_3 x5_2).f2))) (fun _ hk => hk.2) (.int .i64 ((rd_T88 l0_3 x5_2).f3))) (fun _ hk => hk.2) (.int .i64 ((rd_T88 l0_3 x5_2).f4))) (fun _ h_ => h_.1))) (Kd.R_base ho23) hb); have n1_ := Aside0.mk (Kd.R_lower (Kd.R_new' ho23 (Kd.R_lt (by (with_reducible repeat (first | apply Kd.R_alloc | apply Kd.R_drewN | apply Kd.R_drew)); exact (Kd.R_mono (Kd.R_far (p := ⟨gb124012, 4, none⟩) (Kd.R_far (p := ⟨gb124012, 3, none⟩) (Kd.R_far (p := ⟨gb124012, 2, none⟩) (Kd.R_far (p := ⟨gb124012, 1, none⟩) (Kd.R_far (p := ⟨gb124012, 0, none⟩) (Kd.R_types HO_3.out BK124012.out (by decide)) (fun _ hk => hk.2) (.int .i64 ((rd_T88 l0_3 x5_2).f0))) (fun _ hk => hk.2) (.int .i64 ((rd_T88 l0_3 x5_2).f1))) (fun _ hk => hk.2) (.int .i64 ((rd_T88 l0_3 x5_2).f2))) (fun _ hk => hk.2) (.int .i64 ((rd_T88 l0_3 x5_2).f3))) (fun _ hk => hk.2) (.int .i64 ((rd_T88 l0_3 x5_2).f4))) (fun _ h_ => h_.1))))) (below_size (by repeat (first | (with_reducible first | exact HB.out | apply y01 | apply y02 | apply y04 | refine y08 ?_ GE124001.out | refine y08 ?_ GE124012.out) | exact HB.out)))); have n2_ := Aside0.mk (blk_below (g := gb124001) (o := .cells #[.int .i64 a0_0, .int .i64 a0_1, .string a0_2, .slice (some ad124011) l0_3.length c0_3] 41 (0, 0)) (by (with_reducible repeat (first | refine y07 ?_ _ | refine y09 ?_ | refine y06 ?_ _)); refine blk_far ?_ NB124001_124012.out _; (with_reducible repeat (first | refine y07 ?_ _ | refine y09 ?_ | refine y06 ?_ _)); refine blk_far ?_ NB124001_124012.out _; (with_reducible repeat (first | refine y07 ?_ _ | refine y09 ?_ | refine y06 ?_ _)); refine blk_far ?_ NB124001_124012.out _; (with_reducible repeat (first | refine y07 ?_ _ | refine y09 ?_ | refine y06 ?_ _)); refine blk_far ?_ NB124001_124012.out _; (with_reducible repeat (first | refine y07 ?_ _ | refine y09 ?_ | refine y06 ?_ _)); refine blk_far ?_ NB124001_124012.out _; (with_reducible repeat (first | refine y07 ?_ _ | refine y09 ?_ | refine y06 ?_ _)); exact BK124001.out) hb); have n3_ := Aside0.mk (blk_below (g := gb124012) (o := .cells #[.int .i64 ((rd_T88 l0_3 x5_2).f0), .int .i64 ((rd_T88 l0_3 x5_2).f1), .int .i64 ((rd_T88 l0_3 x5_2).f2), .int .i64 ((rd_T88 l0_3 x5_2).f3), .int .i64 ((rd_T88 l0_3 x5_2).f4)] 88 (0, 0)) (by (with_reducible repeat (first | refine y07 ?_ _ | refine y09 ?_ | refine y06 ?_ _)); refine blk_put (cs := #[.int .i64 ((rd_T88 l0_3 x5_2).f0), .int .i64 ((rd_T88 l0_3 x5_2).f1), .int .i64 ((rd_T88 l0_3 x5_2).f2), .int .i64 ((rd_T88 l0_3 x5_2).f3), .int .i64 0]) ?_ 4 _ rfl; (with_reducible repeat (first | refine y07 ?_ _ | refine y09 ?_ | refine y06 ?_ _)); refine blk_put (cs := #[.int .i64 ((rd_T88 l0_3 x5_2).f0), .int .i64 ((rd_T88 l0_3 x5_2).f1), .int .i64 ((rd_T88 l0_3 x5_2).f2), .int .i64 0, .int .i64 0]) ?_ 3 _ rfl; (with_reducible repeat (first | refine y07 ?_ _ | refine y09 ?_ | refine y06 ?_ _)); refine blk_put (cs := #[.int .i64 ((rd_T88 l0_3 x5_2).f0), .int .i64 ((rd_T88 l0_3 x5_2).f1), .int .i64 0, .int .i64 0, .int .i64 0]) ?_ 2 _ rfl; (with_reducible repeat (first | refine y07 ?_ _ | refine y09 ?_ | refine y06 ?_ _)); refine blk_put (cs := #[.int .i64 ((rd_T88 l0_3 x5_2).f0), .int .i64 0, .int .i64 0, .int .i64 0, .int .i64 0]) ?_ 1 _ rfl; (with_reducible repeat (first | refine y07 ?_ _ | refine y09 ?_ | refine y06 ?_ _)); refine blk_put (cs := #[.int .i64 0, .int .i64 0, .int .i64 0, .int .i64 0, .int .i64 0]) ?_ 0 _ rfl; (with_reducible repeat (first | refine y07 ?_ _ | refine y09 ?_ | refine y06 ?_ _)); exact BK124012.out) hb); have n4_ := Aside0.mk (below_step (by repeat (first | (with_reducible first | exact HB.out | apply y01 | apply y02 | apply y04 | refine y08 ?_ GE124001.out | refine y08 ?_ GE124012.out) | exact HB.out)) hb); clear HO_3; clear BK124001; clear BK124012; clear HB; have HO_3 := n0_; have HO124015 := n1_; have BK124001 := n2_; have BK124012 := n3_; have HB := n4_; clear n0_ n1_ n2_ n3_ n4_; clear hb ho23; obtain ⟨Ao25, co25, eo25⟩ := Kd.R_slice HO124015.out; subst eo25) | ((with_reducible refine gate_builtin (b := .append) (xs := #[.tmp 48, .tmp 59]) rfl ?_); at_builtin; refine Kd.R_append_rows (Kd.int .i64) (w0 := w) w.heap.size rfl (.tmp 48) (.tmp 59) 42 3 (.int .i64 0) 8 rfl Tryz.underlying42 info3 rfl (by decide) (by omega) u3 x3_2 y124013 _ _ _ (fun k_ => some k_ ≠ (.slice Ao25 y124013.length co25 : Value).ownBlock) (fun _ => False) rfl rfl ?aO ?aR (fun _ _ h => h) (fun _ h => h.elim) ?aF ?aB ?aS ?aL ?_; (case aR => repeat (first | exact (Kd.R_reads' HO124015.out).2.2 | (with_reducible refine Kd.C_alloc ?_ _) | (with_reducible refine Kd.C_drewN ?_ _) | (with_reducible refine Kd.C_drew ?_))); (case aB => exact (by repeat (first | (with_reducible first | exact HB.out | apply y01 | apply y02 | apply y04 | refine y08 ?_ GE124001.out | refine y08 ?_ GE124012.out) | exact HB.out))); (case aF => exact (fun k_ hk => Kd.fresh' (Kd.R_lt (by (with_reducible repeat (first | apply Kd.R_alloc | apply Kd.R_drewN | apply Kd.R_drew)); exact HO124015.out)) k_ hk)); (case aO => exact (by (with_reducible repeat (first | apply Kd.R_alloc | apply Kd.R_drewN | apply Kd.R_drew)); exact Kd.R_mono HO_3.out (fun _ hk => hk.2))); (case aS => exact (below_size (by repeat (first | (with_reducible first | exact HB.out | apply y01 | apply y02 | apply y04 | refine y08 ?_ GE124001.out | refine y08 ?_ GE124012.out) | exact HB.out)))); (case aL => have := LMc17.out; omega); intro v124017 w24 ho hb hg hat; rw [← Ny124016.out] at ho; have n0_ := Aside0.mk (blk_grown (g := gb124001) (o := .cells #[.int .i64 a0_0, .int .i64 a0_1, .string a0_2, .slice (some ad124011) l0_3.length c0_3] 41 (0, 0)) (by (with_reducible repeat (first | refine y07 ?_ _ | refine y09 ?_ | refine y06 ?_ _)); exact BK124001.out) hg (Kd.R_ne HO_3.out BK124001.out (by decide))); have n1_ := Aside0.mk (blk_grown (g := gb124012) (o := .cells #[.int .i64 ((rd_T88 l0_3 x5_2).f0), .int .i64 ((rd_T88 l0_3 x5_2).f1), .int .i64 ((rd_T88 l0_3 x5_2).f2), .int .i64 ((rd_T88 l0_3 x5_2).f3), .int .i64 ((rd_T88 l0_3 x5_2).f4)] 88 (0, 0)) (by (with_reducible repeat (first | refine y07 ?_ _ | refine y09 ?_ | refine y06 ?_ _)); exact BK124012.out) hg (Kd.R_ne HO_3.out BK124012.out (by decide))); have n2_ := Aside0.mk (Kd.R_after (ok := (fun _ => True)) (by (with_reducible repeat (first | apply Kd.R_alloc | apply Kd.R_drewN | apply Kd.R_drew)); exact HO124015.out) hg hat); have n3_ := Aside0.mk (hb); have n4_ := Aside0.mk (ho); clear BK124001; clear BK124012; clear HO124015; clear HB; clear HO_3; have BK124001 := n0_; have BK124012 := n1_; have HO124015 := n2_; have HB := n3_; have HO124018 := n4_; clear n0_ n1_ n2_ n3_ n4_; clear ho hb hg hat))
                    go_roundg k2
                    case measure => have := HK1.out; have := HK2.out; omega
                    case rel => exact ⟨(y124016), (wrap64 (x5_2 + 1)), (by first | rfl | (simp; done) | (simp [*]; done)), H', ⟨by have := HK1.out; have := HK2.out; omega⟩, ⟨by (with_reducible repeat (first | apply Kd.R_alloc | apply Kd.R_drewN | apply Kd.R_drew)); exact Kd.R_mono HO124018.out (fun _ hk => trivial)⟩, ⟨by (with_reducible repeat (first | refine y07 ?_ _ | refine y09 ?_ | refine y06 ?_ _)); exact BK124001.out⟩, ⟨by repeat (first | (with_reducible first | exact HB.out | apply y01 | apply y02 | apply y04 | refine y08 ?_ GE124001.out | refine y08 ?_ GE124012.out) | exact HB.out)⟩⟩
                  · rw [if_neg c17] at H
                    exact absurd H (by simp)
                · rw [if_neg c16] at H
                  exact absurd H (by simp)
              · rw [if_neg c15] at H
                have c15b0 : decide (x5_2 < (l0_3.length : Int)) = false := decide_eq_false c15
                clear c15
                obtain rfl := Option.some.inj H
                have hcz26_0 : wr.cell? ⟨gb124001, 0, none⟩ = some (.int .i64 a0_0) := (y03 BK124001.out 0).trans rfl
                have hcz26_1 : wr.cell? ⟨gb124001, 1, none⟩ = some (.int .i64 a0_1) := (y03 BK124001.out 1).trans rfl
                have hcz26_2 : wr.cell? ⟨gb124001, 2, none⟩ = some (.string a0_2) := (y03 BK124001.out 2).trans rfl
                have hcz26_3 : wr.cell? ⟨gb124001, 3, none⟩ = some (.slice A0_3 l0_3.length c0_3) := (y03 BK124001.out 3).trans rfl
                have hfz26_0 := y05 BK124001.out 0
                have hfz26_1 := y05 BK124001.out 1
                have hfz26_2 := y05 BK124001.out 2
                have hfz26_3 := y05 BK124001.out 3
                go_wp2
                go_ret
                exact ⟨_, by first | rfl | (simp [errW_none, errW_some] <;> rfl) | (simp [*, errW_none, errW_some] <;> rfl), by (with_reducible repeat (first | apply Kd.R_alloc | apply Kd.R_drewN | apply Kd.R_drew)); exact HO_3.out, by repeat (first | (with_reducible first | exact HB.out | apply y01 | apply y02 | apply y04 | refine y08 ?_ GE124001.out) | exact HB.out)⟩
        · rw [if_neg c12] at H
          exact absurd H (by simp)
end Go.Proofs.YtjkjjfbcakbmnaaGreatDoor.Q
