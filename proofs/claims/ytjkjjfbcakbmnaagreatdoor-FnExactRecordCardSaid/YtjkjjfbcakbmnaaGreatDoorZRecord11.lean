/- Parts of the proof: what functions of the program and of the reference answer.
   No condition. -/
import Derived.Test.YtjkjjfbcakbmnaaGreatDoorZRecord1
import Derived.Test.YtjkjjfbcakbmnaaGreatDoorZRecord4
import Derived.Test.YtjkjjfbcakbmnaaGreatDoorZRecord5
namespace Go.Proofs.YtjkjjfbcakbmnaaGreatDoor.Q
open Go.RowKit Go.Proofs.YtjkjjfbcakbmnaaGreatDoorW.PrintWords Go.Proofs.YtjkjjfbcakbmnaaGreatDoorW.PrintLast Go.Proofs.YtjkjjfbcakbmnaaGreatDoorW.PrintMore
attribute [local go_sem] max2_int min2_int max_two min_two max_three min_three max_four min_four   -- for this text's walks alone
set_option linter.unusedVariables false
set_option linter.unusedSimpArgs false
noncomputable def laws_toPeriodS.l0 : Nat → List (S160) → List (S84) → Int → Option ((List (S84)))
  | 0, _, _, _ => none
  | k + 1, x0, x3, x4 => if x4 < (x0.length : Int) then (if 0 ≤ x4 then ((laws_toPeriod.f ((rd_T160 x0 x4).f0) ((rd_T160 x0 x4).f1)).bind fun bt69005 => (if x4 < (x3.length : Int) then (laws_toPeriodS.l0 k x0 (x3.set (x4 : Int).toNat (⟨bt69005.1, bt69005.2⟩ : S84)) (wrap64 (x4 + 1))) else (none))) else (none)) else (some x3)
noncomputable def laws_toPeriodS.f (k : Nat) (l0 : List (S160)) : Option ((List (S84))) := if 0 ≤ (l0.length : Int) then (if ((l0.length : Int) : Int).toNat ≤ 17592186044416 then (laws_toPeriodS.l0 k l0 (List.replicate ((l0.length : Int) : Int).toNat z84) 0) else (none)) else (none)
set_option maxHeartbeats 8000000 in
set_option maxRecDepth 100000 in
theorem laws_toPeriodS.calls (k : Nat) (A0 : Option Addr) (c0 : Nat) (l0 : List (S160)) (r : List (S84)) (w : World) (hr0 : Kd.C k160 w A0 l0.length l0) (hc0 : l0.length ≤ c0) (h : laws_toPeriodS.f k l0 = some r) :
    Calls Tryz.prog 68 #[.slice A0 l0.length c0] w fun e w' => ∃ v0_ : Value, e = .returned (v0_) ∧ Kd.R k84 84 w' w.heap.size (fun _ => True) v0_ r ∧ Below w.heap.size w w' := by
  have hu160 := Tryz.underlying160
  have hu84 := Tryz.underlying84
  have HR0 := Aside0.mk hr0
  have HC0 := Aside0.mk hc0
  clear hr0 hc0
  have HB := Aside0.mk (Below.refl w.heap.size w)
  have H : (if 0 ≤ (l0.length : Int) then (if ((l0.length : Int) : Int).toNat ≤ 17592186044416 then (laws_toPeriodS.l0 k l0 (List.replicate ((l0.length : Int) : Int).toNat z84) 0) else (none)) else (none)) = some r := h
  clear h
  by_cases c2 : 0 ≤ (l0.length : Int)
  · rw [if_pos c2] at H
    have c2b0 := eq_true c2
    have c2b1 : decide (0 ≤ (l0.length : Int)) = true := decide_eq_true c2
    clear c2
    by_cases c3 : ((l0.length : Int) : Int).toNat ≤ 17592186044416
    · rw [if_pos c3] at H
      have c3b0 := eq_true c3
      have c3b1 : decide (((l0.length : Int) : Int).toNat ≤ 17592186044416) = true := decide_eq_true c3
      clear c3
      obtain ⟨y69001, hy69001⟩ : ∃ y_ : List (S84), y_ = (List.replicate ((l0.length : Int) : Int).toNat z84) := ⟨_, rfl⟩
      replace H : (laws_toPeriodS.l0 k l0 y69001 0) = some r := by first | (rw [hy69001]; with_reducible exact H) | (have H2_ := (Option.bind_some _ _).symm.trans H; rw [hy69001]; with_reducible exact H2_) | (have H2_ := (Option.bind_some _ _).symm.trans H; with_reducible exact H2_) | with_reducible exact H | (rw [hy69001]; exact H) | exact H
      have Ny69001 := Aside0.mk hy69001
      clear hy69001
      have H' := Aside0.mk H
      clear H
      go_enter Tryz.func68, Tryz.ntmps68
      go_wp2_with (first | ((with_reducible refine gate_dst (N := 7) rfl ?_); refine Kd.R_make k84 _ 84 rfl (N := 7) rfl 30 _ _ rfl (l0.length : Int) rfl rfl Tryz.underlying30 (.agg #[(.int .i64 0), (.int .i64 0)]) 16 info84 rfl (by decide) (by omega) z84 (ok := fun _ => True) (okp := fun _ => True) (k84_mkM _ _ _ z84 ) (fun _ hk => hk) trivial (of_decide_eq_true (by first | (with_reducible assumption) | assumption)) (Nat.le_trans (Nat.mul_le_mul_right _ (of_decide_eq_true (by first | (with_reducible assumption) | assumption) : (l0.length : Int).toNat ≤ 17592186044416)) (by omega)) (Below.refl _ _) (Nat.le_refl _) ?_; intro v69002 w4 ho5 hb hg_ hnew_; clear hg_ hnew_; (first | rw [← Ny69001.out] at ho5 | (simp only [Int.reduceToNat] at ho5; rw [← Ny69001.out] at ho5)); have n0_ := Aside0.mk (Kd.R_lower ho5 (below_size (by repeat (first | (with_reducible first | exact HB.out | apply y01 | apply y02 | apply y04) | exact HB.out)))); have n1_ := Aside0.mk (below_step (by repeat (first | (with_reducible first | exact HB.out | apply y01 | apply y02 | apply y04) | exact HB.out)) hb); clear HB; have HO69003 := n0_; have HB := n1_; clear n0_ n1_; clear hb ho5))
      go_loopg [4] k (fun kq v4 w' => ∃ (x3_1 : List (S84)) (x4_1 : Int), v4 = .int .i64 x4_1 ∧ Aside0 (laws_toPeriodS.l0 kq l0 x3_1 x4_1 = some r) ∧ Aside0 (kq ≤ k) ∧ Aside0 (Kd.R k84 84 w' w.heap.size (fun _ => True) v69002 x3_1) ∧ Aside0 (Below w.heap.size w w'))
      case atStart => exact ⟨(y69001), (0), (by first | rfl | (simp; done) | (simp [*]; done)), H', ⟨Nat.le_refl _⟩, ⟨by (with_reducible repeat (first | apply Kd.R_alloc | apply Kd.R_drewN | apply Kd.R_drew)); exact HO69003.out⟩, ⟨by repeat (first | (with_reducible first | exact HB.out | apply y01 | apply y02 | apply y04) | exact HB.out)⟩⟩
      case round =>
        clear H'
        try clear c2
        try clear c2b0
        try clear c2b1
        try clear p2
        try clear c3
        try clear c3b0
        try clear c3b1
        obtain ⟨x3_1, x4_1, rfl, HA, HK1, HO_3, HB⟩ := hrel
        cases gk with
        | zero => exact absurd HA.out (by simp [laws_toPeriodS.l0])
        | succ k1 =>
          have H := HA.out
          clear HA
          simp only [laws_toPeriodS.l0] at H
          by_cases c6 : x4_1 < (l0.length : Int)
          · rw [if_pos c6] at H
            have c6b0 : decide (x4_1 < (l0.length : Int)) = true := decide_eq_true c6
            clear c6
            by_cases c7 : 0 ≤ x4_1
            · rw [if_pos c7] at H
              have c7b0 : decide (0 ≤ x4_1) = true := decide_eq_true c7
              clear c7
              replace H := Option.bind_eq_some_iff.mp H
              obtain ⟨⟨t69005, t69006⟩, A80, H⟩ := H
              replace H : (if x4_1 < (x3_1.length : Int) then (laws_toPeriodS.l0 k1 l0 (x3_1.set (x4_1 : Int).toNat (⟨t69005, t69006⟩ : S84)) (wrap64 (x4_1 + 1))) else (none)) = some r := H
              have A8 := Aside0.mk A80
              clear A80
              by_cases c9 : x4_1 < (x3_1.length : Int)
              · rw [if_pos c9] at H
                have c9b0 : decide (x4_1 < (x3_1.length : Int)) = true := decide_eq_true c9
                clear c9
                obtain ⟨y69007, hy69007⟩ : ∃ y_ : List (S84), y_ = (x3_1.set (x4_1 : Int).toNat (⟨t69005, t69006⟩ : S84)) := ⟨_, rfl⟩
                replace H : (laws_toPeriodS.l0 k1 l0 y69007 (wrap64 (x4_1 + 1))) = some r := by first | (rw [hy69007]; with_reducible exact H) | (have H2_ := (Option.bind_some _ _).symm.trans H; rw [hy69007]; with_reducible exact H2_) | (have H2_ := (Option.bind_some _ _).symm.trans H; with_reducible exact H2_) | with_reducible exact H | (rw [hy69007]; exact H) | exact H
                have Ny69007 := Aside0.mk hy69007
                clear hy69007
                have H' := Aside0.mk H
                clear H
                have p69004 : 0 ≤ (x4_1 : Int) := of_decide_eq_true (by first | (with_reducible assumption) | assumption)
                have q69004 : x4_1 < (l0.length : Int) := of_decide_eq_true (by first | (with_reducible assumption) | assumption)
                obtain ⟨ad69004, e69004, hx69004_0, hx69004_1⟩ := at_T160 HR0.out x4_1 p69004 q69004
                cases e69004
                replace hx69004_0 := (HB.out.cell (World.block_lt_of_cell? w _ hx69004_0)).trans hx69004_0
                replace hx69004_1 := (HB.out.cell (World.block_lt_of_cell? w _ hx69004_1)).trans hx69004_1
                replace p69004 := eq_true p69004
                replace q69004 := eq_true q69004
                go_wp2_with (first | ((with_reducible refine gate_callee (f := 109) rfl ?_); refine goesL_ (some 20) rfl rfl Tryz.func109 (by kernel_rfl) rfl #[.agg #[.int .i64 ((rd_T160 l0 x4_1).f0), .int .i64 ((rd_T160 l0 x4_1).f1)]] rfl (by (try simp only [List.map_toArray, List.map_cons, List.map_nil]); first | done | rfl | (simp only [List.length_drop, List.length_take]; rfl)) ?_; (with_reducible refine (laws_toPeriod.calls ((rd_T160 l0 x4_1).f0) ((rd_T160 l0 x4_1).f1) t69005 t69006 _ A8.out).mono ?_); rintro e w11 ⟨rfl, hb⟩; refine ⟨_, rfl, ?_⟩; have n0_ := Aside0.mk (Kd.R_below (by (with_reducible repeat (first | apply Kd.R_alloc | apply Kd.R_drewN | apply Kd.R_drew)); exact HO_3.out) hb); have n1_ := Aside0.mk (below_step (by repeat (first | (with_reducible first | exact HB.out | apply y01 | apply y02 | apply y04) | exact HB.out)) hb); clear HO_3; clear HB; have HO_3 := n0_; have HB := n1_; clear n0_ n1_; (try clear hb); (try clear hb2); (try clear hk); (try clear hi); have p10 : 0 ≤ (x4_1 : Int) := of_decide_eq_true (by first | (with_reducible assumption) | assumption); have q10 : (x4_1 : Int) < ((x3_1.length : Int) : Int) := of_decide_eq_true (by first | (with_reducible assumption) | assumption); obtain ⟨go10, co10, eo10, gb10, gl10, cl10, HG10⟩ := Kd.R_form HO_3.out (by omega); (first | cases eo10 | (injection eo10 with ea_ en_ ec_; (first | subst ea_ | (injection ea_ with ea_; subst ea_)); subst ec_; clear en_)); have GB10 := Aside0.mk gb10; have GG10 := Aside0.mk HG10; clear gb10 gl10 HG10; obtain ⟨ce10, hcl10, hM10, hcc10, hfr10⟩ := Kd.R_elem HO_3.out z84 (x4_1 : Int) p10 q10; obtain rfl := k84_openM hM10; have hx10_0 : w11.cell? ⟨go10, (x4_1 : Int).toNat * 2, none⟩ = some (.int .i64 ((rd_T84 x3_1 x4_1).f0)) := hcc10 0 _ rfl; have hx10_1 : w11.cell? ⟨go10, (x4_1 : Int).toNat * 2 + 1, none⟩ = some (.int .i64 ((rd_T84 x3_1 x4_1).f1)) := hcc10 1 _ rfl; have hf10_0 : w11.frozen? ⟨go10, (x4_1 : Int).toNat * 2, none⟩ = false := hfr10 0; have hf10_1 : w11.frozen? ⟨go10, (x4_1 : Int).toNat * 2 + 1, none⟩ = false := hfr10 1; clear hcl10 hcc10 hfr10 hM10; replace p10 := eq_true p10; replace q10 := eq_true q10; have HX12 := Aside0.mk (show Kd.R k84 84 w11 w.heap.size (fun _ => True) (.slice (some ⟨go10, 0, none⟩) x3_1.length co10) x3_1 from (by (with_reducible repeat (first | apply Kd.R_alloc | apply Kd.R_drewN | apply Kd.R_drew)); exact HO_3.out)); obtain ⟨ce12, hcl12, hM12, hcc12, hfr12⟩ := Kd.R_elem HX12.out z84 (x4_1 : Int) (of_decide_eq_true (by first | (with_reducible assumption) | assumption)) (by have h_ : (x4_1 : Int) < ((x3_1.length : Int) : Int) := of_decide_eq_true (by first | (with_reducible assumption) | assumption); first | exact h_ | (have e_ := (Kd.R_reads' HO_3.out).1; omega) | simpa using h_); obtain rfl := k84_openM hM12; have HP12 := Kd.R_seg HX12.out (x4_1 : Int) (of_decide_eq_true (by first | (with_reducible assumption) | assumption)) (by have h_ : (x4_1 : Int) < ((x3_1.length : Int) : Int) := of_decide_eq_true (by first | (with_reducible assumption) | assumption); first | exact h_ | (have e_ := (Kd.R_reads' HO_3.out).1; omega) | simpa using h_) (seg := [.int .i64 t69005, .int .i64 t69006]) (j := 0) hcl12 hcc12 (show 2 ≤ 2 from by decide) (x' := (⟨t69005, t69006⟩ : S84)) (k84_mkM _ _ _ (⟨t69005, t69006⟩ : S84) ) (fun _ hk => hk); have hx12_0 := hcc12 0 _ rfl; (try simp only [show (k84).sz = 2 from rfl, Nat.mul_one, Nat.add_zero] at hx12_0); have hf12_0 := hfr12 0; (try simp only [show (k84).sz = 2 from rfl, Nat.mul_one, Nat.add_zero] at hf12_0); have hx12_1 := hcc12 1 _ rfl; (try simp only [show (k84).sz = 2 from rfl, Nat.mul_one, Nat.add_zero] at hx12_1); have hf12_1 := hfr12 1; (try simp only [show (k84).sz = 2 from rfl, Nat.mul_one, Nat.add_zero] at hf12_1); clear hcl12 hcc12 hfr12 hM12) | ((with_reducible refine gate_store (t := 84) (p := 21) rfl ?_); refine store_event (t := 84) (p := 21) (v := ?vo_w13) (w1 := ((w11.setCell ⟨go10, (x4_1 : Int).toNat * 2, none⟩ (.int .i64 t69005)).setCell ⟨go10, (x4_1 : Int).toNat * 2 + 1, none⟩ (.int .i64 t69006))) ?hg ?ho ?hn ?hr ?_; (case ho => rfl); (case hg => rfl); (case hn => rfl); (case hr => first | (go_simp; done) | (go_simp; rfl)); intro w13 hw; have hg : w11.grownBy w13 (some go10) := (by rw [hw]; exact HP12.2); have hp_ : Kd.R k84 84 w13 w.heap.size (fun _ => True) (.slice (some ⟨go10, 0, none⟩) x3_1.length co10) y69007 := (by rw [hw, Ny69007.out]; exact HP12.1); clear HP12; have n0_ := Aside0.mk (hp_); have n1_ := Aside0.mk ((by rw [hw]; exact y08 (y08 (HB.out) GB10.out) GB10.out : Below w.heap.size w w13)); clear HO_3; clear HB; have HO_3 := n0_; have HB := n1_; clear n0_ n1_; clear hg hw hp_))
                go_roundg k1
                case measure => have := HK1.out; omega
                case rel => exact ⟨(y69007), (wrap64 (x4_1 + 1)), (by first | rfl | (simp; done) | (simp [*]; done)), H', ⟨by have := HK1.out; omega⟩, ⟨by (with_reducible repeat (first | apply Kd.R_alloc | apply Kd.R_drewN | apply Kd.R_drew)); exact HO_3.out⟩, ⟨by repeat (first | (with_reducible first | exact HB.out | apply y01 | apply y02 | apply y04) | exact HB.out)⟩⟩
              · rw [if_neg c9] at H
                exact absurd H (by simp)
            · rw [if_neg c7] at H
              exact absurd H (by simp)
          · rw [if_neg c6] at H
            have c6b0 : decide (x4_1 < (l0.length : Int)) = false := decide_eq_false c6
            clear c6
            obtain rfl := Option.some.inj H
            go_wp2
            go_ret
            exact ⟨_, by first | rfl | (simp [errW_none, errW_some] <;> rfl) | (simp [*, errW_none, errW_some] <;> rfl), by (with_reducible repeat (first | apply Kd.R_alloc | apply Kd.R_drewN | apply Kd.R_drew)); exact HO_3.out, by repeat (first | (with_reducible first | exact HB.out | apply y01 | apply y02 | apply y04) | exact HB.out)⟩
    · rw [if_neg c3] at H
      exact absurd H (by simp)
  · rw [if_neg c2] at H
    exact absurd H (by simp)
set_option maxHeartbeats 4000000 in
set_option maxRecDepth 100000 in
theorem laws_szAccountS.calls (A0 : Option Addr) (c0 : Nat) (l0 : List (S182)) (a1 : Int) (w : World) (hr0 : Kd.C k182 w A0 l0.length l0) (h0 : 0 ≤ a1) (h1 : a1 ≤ 1048576) (hw : ∀ y ∈ l0, wf182 y) :
    Calls Tryz.prog 103 #[.slice A0 l0.length c0, .int .i64 a1] w (SzPost w a1 (l0.length ≤ 1048576)) := by
  have hl := hr0.2.1
  have H0 := Aside0.mk hr0
  have HW := Aside0.mk hw
  clear hr0 hw
  by_cases hn : a1 - (l0.length : Int) < 0
  · go_enter Tryz.func103, Tryz.ntmps103
    go_wp2_with fail
    go_ret
    exact ⟨-1, rfl, by omega, by omega, fun h => absurd h (by omega), Below.refl _ _⟩
  · go_enter Tryz.func103, Tryz.ntmps103
    go_wp2_with fail
    go_loopw [1, 5] (fun v u wr => ∃ left i : Int, 0 ≤ left ∧ left ≤ a1 - (l0.length : Int) ∧ v = .int .i64 left ∧ 0 ≤ i ∧ i ≤ (l0.length : Int) ∧ u = .int .i64 i ∧ Aside0 (Below w.heap.size w wr) ∧ Aside0 (True)) (fun _ u _ => (l0.length - (intOf u).toNat))
    case atStart => exact ⟨a1 - (l0.length : Int), 0, by omega, by omega, rfl, by omega, by omega, rfl, ⟨Below.refl _ _⟩, ⟨trivial⟩⟩
    case round =>
      obtain ⟨left, i, hL0, hL1, rfl, hi0, hi1, rfl, HB, HT⟩ := hrel
      by_cases hlt : i < (l0.length : Int)
      · obtain ⟨ad, ead, adx0, adx1, adx2⟩ := at_T182 (Kd.C_below H0.out HB.out) i hi0 hlt
        cases ead
        go_wp2_with fail
        refine (laws_szAccount.calls (rd_T182 l0 i).f0 (rd_T182 l0 i).f1 (rd_T182 l0 i).f2 left _ hL0 (by omega) (all_at (z := z182) hi0 hlt HW.out)).mono ?_
        rintro e w2 ⟨r, rfl, hr1, hr2, hr3, hb⟩
        have HR := Aside0.mk hr3
        have HB2 := Aside0.mk (y10 (w := w) hb (by repeat (first | exact HB.out | refine y04 ?_)))
        clear hb hr3
        by_cases hr : r < 0
        · go_wp2_with fail
          go_ret
          exact ⟨-1, rfl, by omega, by omega, fun h => absurd h (by omega), HB2.out⟩
        · go_wp2_with fail
          go_roundw
          case rel => exact ⟨r, i + 1, by omega, by omega, rfl, by omega, by omega, rfl, HB2, ⟨trivial⟩⟩
          case measure => simp [intOf]; omega
      · go_wp2_with fail
        go_ret
        exact ⟨left, rfl, by omega, by omega, fun _ => by omega, HB.out⟩
def wf64 (x : S64) : Prop := (Lit.int .i64 x.f0).wf = true ∧ (Lit.int .i64 x.f1).wf = true ∧ x.f2.size ≤ maxLen ∧ (x.f3.length ≤ maxLen ∧ ∀ y ∈ x.f3, wf162 y)
def small64 (x : S64) : Prop := (x.f3.length ≤ 1048576)
set_option maxHeartbeats 4000000 in
set_option maxRecDepth 100000 in
theorem laws_szEntry.calls (a0_0 : Int) (a0_1 : Int) (a0_2 : ByteArray) (A0_3 : Option Addr) (c0_3 : Nat) (l0_3 : List (S162)) (a1 : Int) (w : World) (hr0_3 : Kd.C k162 w A0_3 l0_3.length l0_3) (h0 : 0 ≤ a1) (h1 : a1 ≤ 1048576) (hw : wf64 ((⟨a0_0, a0_1, a0_2, l0_3⟩ : S64) : S64)) :
    Calls Tryz.prog 19 #[.agg #[.int .i64 a0_0, .int .i64 a0_1, .string a0_2, .slice A0_3 l0_3.length c0_3], .int .i64 a1] w (SzPost w a1 (small64 ((⟨a0_0, a0_1, a0_2, l0_3⟩ : S64) : S64))) := by
  have Hl0_3 := Aside0.mk hr0_3
  clear hr0_3
  unfold wf64 at hw
  obtain ⟨g0, g1, g2, g3⟩ := hw
  replace g2 : a0_2.size ≤ 9223372036854775807 := g2
  by_cases q2 : a1 - (a0_2.size : Int) < 0
  · go_enter Tryz.func19, Tryz.ntmps19
    go_wp2_with fail
    go_ret
    exact ⟨-1, rfl, by omega, by omega, fun h => absurd h (by omega), y01 (Below.refl _ _) _⟩
  · skip
    go_enter Tryz.func19, Tryz.ntmps19
    go_wp2_with fail
    refine (laws_szLineS.calls A0_3 c0_3 l0_3 (a1 - (a0_2.size : Int)) _ (Kd.C_below Hl0_3.out (by repeat (first | exact y01 (Below.refl _ _) _ | refine y01 ?_ _))) (by omega) (by omega) g3.2).mono ?_
    rintro e w13 ⟨r3, rfl, hr1_3, hr2_3, hr3_3, hb⟩
    have HB3 := Aside0.mk (y10 (w := w) hb (by repeat (first | exact y01 (Below.refl _ _) _ | refine y01 ?_ _)))
    have HR3 := Aside0.mk hr3_3
    clear hb hr3_3
    by_cases q3 : r3 < 0
    · skip
      go_wp2_with fail
      go_ret
      exact ⟨-1, rfl, by omega, by omega, fun h => absurd h (by omega), HB3.out⟩
    · skip
      go_wp2_with fail
      go_ret
      exact ⟨_, rfl, by omega, by omega, fun _ => by unfold small64; exact (HR3.out (by omega)), HB3.out⟩
noncomputable def spec_l5Entries.l0 : Nat → List (S41) → List (S41) → Int → Option ((List (S41)))
  | 0, _, _, _ => none
  | k + 1, x0, x3, x4 => if x4 < (x0.length : Int) then (if 0 ≤ x4 then ((spec_l5Entry.f ((rd_T41 x0 x4).f0) ((rd_T41 x0 x4).f1) ((rd_T41 x0 x4).f2) ((rd_T41 x0 x4).f3)).bind fun bt131005 => (if x3.length < 2513169434916 then (spec_l5Entries.l0 k x0 (x3 ++ [(⟨bt131005.1, bt131005.2.1, bt131005.2.2.1, bt131005.2.2.2⟩ : S41)]) (wrap64 (x4 + 1))) else (none))) else (none)) else (some x3)
noncomputable def spec_l5Entries.f (k : Nat) (l0 : List (S41)) : Option ((List (S41))) := spec_l5Entries.l0 k l0 (([] : List (S41))) 0
set_option maxHeartbeats 8000000 in
set_option maxRecDepth 100000 in
theorem spec_l5Entries.calls (k : Nat) (A0 : Option Addr) (c0 : Nat) (l0 : List (S41)) (r : List (S41)) (w : World) (hr0 : Kd.C k41 w A0 l0.length l0) (hc0 : l0.length ≤ c0) (h : spec_l5Entries.f k l0 = some r) :
    Calls Tryz.prog 130 #[.slice A0 l0.length c0] w fun e w' => ∃ v0_ : Value, e = .returned (v0_) ∧ Kd.S k41 41 w' w.heap.size (fun _ => True) v0_ r ∧ Below w.heap.size w w' := by
  have hu41 := Tryz.underlying41
  have HR0 := Aside0.mk hr0
  have HC0 := Aside0.mk hc0
  clear hr0 hc0
  have HB := Aside0.mk (Below.refl w.heap.size w)
  have H : (spec_l5Entries.l0 k l0 (([] : List (S41))) 0) = some r := h
  clear h
  obtain ⟨y131001, hy131001⟩ : ∃ y_ : List (S41), y_ = (([] : List (S41))) := ⟨_, rfl⟩
  replace H : (spec_l5Entries.l0 k l0 y131001 0) = some r := by first | (rw [hy131001]; with_reducible exact H) | (have H2_ := (Option.bind_some _ _).symm.trans H; rw [hy131001]; with_reducible exact H2_) | (have H2_ := (Option.bind_some _ _).symm.trans H; with_reducible exact H2_) | with_reducible exact H | (rw [hy131001]; exact H) | exact H
  have Ny131001 := Aside0.mk hy131001
  clear hy131001
  have H' := Aside0.mk H
  clear H
  go_enter Tryz.func130, Tryz.ntmps130
  go_wp2_with (first | ((with_reducible refine gate_dst (N := 5) rfl ?_); refine Kd.S_lit k41 _ 41 ?hg (N := 5) ?hd (xs := ([] : List (S41))) (inner := []) (ok := fun _ => True) (okp := fun _ => True) ?hr ?hp (fun _ hk => hk) trivial (Below.refl _ _) (Nat.le_refl _) (by simp) ?_; (case hd => rfl); (case hg => rfl); (case hr => first | (go_simp; done) | (go_simp; rfl)); (case hp => exact (Reps.none _ _)); intro v131002 w2 ho3 hb hg_ hnew_; clear hg_ hnew_; (first | rw [← Ny131001.out] at ho3 | (simp only [Int.reduceToNat] at ho3; rw [← Ny131001.out] at ho3)); have n0_ := Aside0.mk (Kd.S_lower ho3 (below_size (by repeat (first | (with_reducible first | exact HB.out | apply y01 | apply y02 | apply y04) | exact HB.out)))); have n1_ := Aside0.mk (below_step (by repeat (first | (with_reducible first | exact HB.out | apply y01 | apply y02 | apply y04) | exact HB.out)) hb); clear HB; have HO131003 := n0_; have HB := n1_; clear n0_ n1_; clear hb ho3))
  go_loopg [3, 4] k (fun kq v3 v4 w' => ∃ (x3_1 : List (S41)) (x4_1 : Int), v4 = .int .i64 x4_1 ∧ Aside0 (spec_l5Entries.l0 kq l0 x3_1 x4_1 = some r) ∧ Aside0 (kq ≤ k) ∧ Aside0 (Kd.S k41 41 w' w.heap.size (fun _ => True) v3 x3_1) ∧ Aside0 (Below w.heap.size w w'))
  case atStart => exact ⟨(y131001), (0), (by first | rfl | (simp; done) | (simp [*]; done)), H', ⟨Nat.le_refl _⟩, ⟨by (with_reducible repeat (first | apply Kd.S_alloc | apply Kd.S_drewN | apply Kd.S_drew)); exact HO131003.out⟩, ⟨by repeat (first | (with_reducible first | exact HB.out | apply y01 | apply y02 | apply y04) | exact HB.out)⟩⟩
  case round =>
    clear H'
    try clear c1
    try clear p2
    obtain ⟨x3_1, x4_1, rfl, HA, HK1, HO_3, HB⟩ := hrel
    cases gk with
    | zero => exact absurd HA.out (by simp [spec_l5Entries.l0])
    | succ k1 =>
      have H := HA.out
      clear HA
      simp only [spec_l5Entries.l0] at H
      by_cases c4 : x4_1 < (l0.length : Int)
      · rw [if_pos c4] at H
        have c4b0 : decide (x4_1 < (l0.length : Int)) = true := decide_eq_true c4
        clear c4
        by_cases c5 : 0 ≤ x4_1
        · rw [if_pos c5] at H
          have c5b0 : decide (0 ≤ x4_1) = true := decide_eq_true c5
          clear c5
          replace H := Option.bind_eq_some_iff.mp H
          obtain ⟨⟨t131005, t131006, t131007, t131008⟩, A60, H⟩ := H
          replace H : (if x3_1.length < 2513169434916 then (spec_l5Entries.l0 k1 l0 (x3_1 ++ [(⟨t131005, t131006, t131007, t131008⟩ : S41)]) (wrap64 (x4_1 + 1))) else (none)) = some r := H
          have A6 := Aside0.mk A60
          clear A60
          by_cases c7 : x3_1.length < 2513169434916
          · rw [if_pos c7] at H
            have LMc7 := Aside0.mk c7
            clear c7
            obtain ⟨y131011, hy131011⟩ : ∃ y_ : List (S41), y_ = (x3_1 ++ [(⟨t131005, t131006, t131007, t131008⟩ : S41)]) := ⟨_, rfl⟩
            replace H : (spec_l5Entries.l0 k1 l0 y131011 (wrap64 (x4_1 + 1))) = some r := by first | (rw [hy131011]; with_reducible exact H) | (have H2_ := (Option.bind_some _ _).symm.trans H; rw [hy131011]; with_reducible exact H2_) | (have H2_ := (Option.bind_some _ _).symm.trans H; with_reducible exact H2_) | with_reducible exact H | (rw [hy131011]; exact H) | exact H
            have Ny131011 := Aside0.mk hy131011
            clear hy131011
            have H' := Aside0.mk H
            clear H
            have p131004 : 0 ≤ (x4_1 : Int) := of_decide_eq_true (by first | (with_reducible assumption) | assumption)
            have q131004 : x4_1 < (l0.length : Int) := of_decide_eq_true (by first | (with_reducible assumption) | assumption)
            obtain ⟨ad131004, A131004_3, c131004_3, e131004, hx131004_0, hx131004_1, hx131004_2, hx131004_3, hl131004_3, hi131004_3⟩ := at_T41 HR0.out x4_1 p131004 q131004
            cases e131004
            replace hx131004_0 := (HB.out.cell (World.block_lt_of_cell? w _ hx131004_0)).trans hx131004_0
            replace hx131004_1 := (HB.out.cell (World.block_lt_of_cell? w _ hx131004_1)).trans hx131004_1
            replace hx131004_2 := (HB.out.cell (World.block_lt_of_cell? w _ hx131004_2)).trans hx131004_2
            replace hx131004_3 := (HB.out.cell (World.block_lt_of_cell? w _ hx131004_3)).trans hx131004_3
            have HR131004_3 := Aside0.mk hi131004_3
            have HC131004_3 := Aside0.mk hl131004_3
            clear hi131004_3 hl131004_3
            replace p131004 := eq_true p131004
            replace q131004 := eq_true q131004
            go_wp2_with (first | ((with_reducible refine gate_callee (f := 106) rfl ?_); refine goesL_ (some 17) rfl rfl Tryz.func106 (by kernel_rfl) rfl #[.agg #[.int .i64 ((rd_T41 l0 x4_1).f0), .int .i64 ((rd_T41 l0 x4_1).f1), .string ((rd_T41 l0 x4_1).f2), .slice A131004_3 ((rd_T41 l0 x4_1).f3).length c131004_3]] rfl (by (try simp only [List.map_toArray, List.map_cons, List.map_nil]); first | done | rfl | (simp only [List.length_drop, List.length_take]; rfl)) ?_; (with_reducible refine (spec_l5Entry.calls ((rd_T41 l0 x4_1).f0) ((rd_T41 l0 x4_1).f1) ((rd_T41 l0 x4_1).f2) _ _ ((rd_T41 l0 x4_1).f3) t131005 t131006 t131007 t131008 _ ?side1 ?side2 A6.out).mono ?_); (case side1 => repeat (first | exact (Kd.C_below HR131004_3.out HB.out) | (with_reducible refine Kd.C_alloc ?_ _) | (with_reducible refine Kd.C_drewN ?_ _) | (with_reducible refine Kd.C_drew ?_))); (case side2 => exact HC131004_3.out); rintro e w8 ⟨v131009, rfl, ho0, hb⟩; refine ⟨_, rfl, ?_⟩; have n0_ := Aside0.mk (Kd.S_elder' (by (with_reducible repeat (first | apply Kd.S_alloc | apply Kd.S_drewN | apply Kd.S_drew)); exact HO_3.out) (Kd.R_base ho0) hb); have n1_ := Aside0.mk (Kd.R_lower ho0 (below_size (by repeat (first | (with_reducible first | exact HB.out | apply y01 | apply y02 | apply y04) | exact HB.out)))); have n2_ := Aside0.mk (below_step (by repeat (first | (with_reducible first | exact HB.out | apply y01 | apply y02 | apply y04) | exact HB.out)) hb); clear HO_3; clear HB; have HO_3 := n0_; have HO131010 := n1_; have HB := n2_; clear n0_ n1_ n2_; (try clear hb); (try clear hb2); (try clear hk); (try clear hi); (try clear ho0); obtain ⟨Ao10, co10, eo10⟩ := Kd.R_slice HO131010.out; subst eo10) | ((with_reducible refine gate_builtin (b := .append) (xs := #[.tmp 12, .tmp 18]) rfl ?_); at_builtin; refine Kd.S_append k41 (w0 := w) w.heap.size rfl (.tmp 12) (.tmp 18) 27 41 (.agg #[(.int .i64 0), (.int .i64 0), (.string ⟨#[]⟩), (.slice none 0 0)]) 56 rfl Tryz.underlying27 info41 rfl (by decide) (by omega) u3 x3_1 (⟨t131005, t131006, t131007, t131008⟩ : S41) [.int .i64 t131005, .int .i64 t131006, .string t131007, .slice Ao10 t131008.length co10] (fun _ => True) (fun k_ => some k_ = (.slice Ao10 t131008.length co10 : Value).ownBlock) rfl rfl ?aP (fun k_ hk_ => ((Kd.R_mono (ok' := fun k_ => ((fun _ => True)) k_ ∧ some k_ ≠ (u3 : Value).ownBlock) (Kd.R_apart' (HO131010.out) (Kd.S_typed HO_3.out) (by decide)) (fun k_ hk => ⟨trivial, hk.2⟩))).1 k_ hk_.symm) ?aF ?aO ?aB ?aS ?aL ?_; (case aP => exact k41_mkM _ _ _ (⟨t131005, t131006, t131007, t131008⟩ : S41) (Kd.R_mono (Kd.R_tight rfl (Kd.R_mono (ok' := fun k_ => ((fun _ => True)) k_ ∧ some k_ ≠ (u3 : Value).ownBlock) (Kd.R_apart' (HO131010.out) (Kd.S_typed HO_3.out) (by decide)) (fun k_ hk => ⟨trivial, hk.2⟩))) (fun _ h_ => h_))); (case aB => exact (by repeat (first | (with_reducible first | exact HB.out | apply y01 | apply y02 | apply y04) | exact HB.out))); (case aF => exact (fun _ _ => trivial)); (case aO => exact (by (with_reducible repeat (first | apply Kd.S_alloc | apply Kd.S_drewN | apply Kd.S_drew)); exact Kd.S_mono HO_3.out (fun k_ hk => ⟨trivial, fun e_ => hk.2 e_⟩))); (case aS => exact (below_size (by repeat (first | (with_reducible first | exact HB.out | apply y01 | apply y02 | apply y04) | exact HB.out)))); (case aL => have := LMc7.out; omega); intro v131012 w9 ho hb hg hat; rw [← Ny131011.out] at ho; have n0_ := Aside0.mk (hb); have n1_ := Aside0.mk (ho); clear HB; clear HO_3; clear HO131010; have HB := n0_; have HO131013 := n1_; clear n0_ n1_; clear ho hb hg hat))
            go_roundg k1
            case measure => have := HK1.out; omega
            case rel => exact ⟨(y131011), (wrap64 (x4_1 + 1)), (by first | rfl | (simp; done) | (simp [*]; done)), H', ⟨by have := HK1.out; omega⟩, ⟨by (with_reducible repeat (first | apply Kd.S_alloc | apply Kd.S_drewN | apply Kd.S_drew)); exact HO131013.out⟩, ⟨by repeat (first | (with_reducible first | exact HB.out | apply y01 | apply y02 | apply y04) | exact HB.out)⟩⟩
          · rw [if_neg c7] at H
            exact absurd H (by simp)
        · rw [if_neg c5] at H
          exact absurd H (by simp)
      · rw [if_neg c4] at H
        have c4b0 : decide (x4_1 < (l0.length : Int)) = false := decide_eq_false c4
        clear c4
        obtain rfl := Option.some.inj H
        go_wp2
        go_ret
        exact ⟨_, by first | rfl | (simp [errW_none, errW_some] <;> rfl) | (simp [*, errW_none, errW_some] <;> rfl), by (with_reducible repeat (first | apply Kd.S_alloc | apply Kd.S_drewN | apply Kd.S_drew)); exact HO_3.out, by repeat (first | (with_reducible first | exact HB.out | apply y01 | apply y02 | apply y04) | exact HB.out)⟩
end Go.Proofs.YtjkjjfbcakbmnaaGreatDoor.Q
