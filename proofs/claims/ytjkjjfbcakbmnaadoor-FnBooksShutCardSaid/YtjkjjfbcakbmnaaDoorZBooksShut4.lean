/- Parts of the proof: what functions of the program and of the reference answer.
   No condition. -/
import Derived.Test.YtjkjjfbcakbmnaaDoorZBooksShut1
namespace Go.Proofs.YtjkjjfbcakbmnaaDoor.Q
open Go.RowKit Go.Proofs.YtjkjjfbcakbmnaaDoorW.PrintWords Go.Proofs.YtjkjjfbcakbmnaaDoorW.PrintLast Go.Proofs.YtjkjjfbcakbmnaaDoorW.PrintMore
attribute [local go_sem] max2_int min2_int max_two min_two max_three min_three max_four min_four   -- for this text's walks alone
set_option linter.unusedVariables false
set_option linter.unusedSimpArgs false
def dig (n : Nat) : ByteArray := (⟨#[48, 49, 50, 51, 52, 53, 54, 55, 56, 57]⟩ : ByteArray).extract n (n + 1)
def decT (n : Nat) : ByteArray := if h : n < 10 then dig n else decT (n / 10) ++ dig (n % 10)
termination_by n
decreasing_by omega
theorem decT_small {n : Nat} (h : n < 10) : decT n = dig n := by rw [decT, dif_pos h]
theorem decT_more {n : Nat} (h : ¬ n < 10) : decT n = decT (n / 10) ++ dig (n % 10) := by rw [decT, dif_neg h]
theorem dig_size (n : Nat) : (dig n).size ≤ 1 := by
  unfold dig
  rw [ByteArray.size_extract]
  omega
theorem decT_size : ∀ n : Nat, (decT n).size ≤ n + 1 := by
  intro n
  induction n using Nat.strongRecOn with
  | _ n ih =>
    by_cases h : n < 10
    · rw [decT_small h]; have := dig_size n; omega
    · rw [decT_more h, ByteArray.size_append]
      have := ih (n / 10) (by omega)
      have := dig_size (n % 10)
      omega
theorem dig_at {a : Int} (h0 : 0 ≤ a) : (⟨#[48, 49, 50, 51, 52, 53, 54, 55, 56, 57]⟩ : ByteArray).extract a.toNat (a + 1).toNat = dig a.toNat := by
  unfold dig
  rw [show (a + 1).toNat = a.toNat + 1 by omega]
set_option maxHeartbeats 1000000 in
set_option maxRecDepth 100000 in
theorem spec_l1Text.to (n : Nat) : ∀ (a : Int) (w : World), 0 ≤ a → a.toNat = n → n ≤ 1000000000000000 → Calls Tryd.prog 71 #[.int .i64 a] w fun e w' => e = .returned (.string (decT n)) ∧ Drawn0 w w' := by
  induction n using Nat.strongRecOn with
  | _ n ih =>
    intro a w ha han hn
    by_cases h : n < 10
    · have hlt : a < 10 := by omega
      have h0 : decide (0 ≤ a) = true := decide_eq_true ha
      have h1 : decide (a < 10) = true := decide_eq_true hlt
      have h2 : a ≤ a + 1 := by omega
      have h3 : a + 1 ≤ 10 := by omega
      have h4 : decide (a + 1 ≤ 10) = true := decide_eq_true h3
      have h5 : ¬ a < 0 := by omega
      have HD := Aside0.mk (show decT n = (⟨#[48, 49, 50, 51, 52, 53, 54, 55, 56, 57]⟩ : ByteArray).extract a.toNat (a + 1).toNat by rw [dig_at ha, han]; exact decT_small h)
      clear ih h han
      go_enter Tryd.func71, Tryd.ntmps71
      go_wp2_with fail
      go_ret
      exact ⟨by rw [HD.out]; rfl, Drawn0.refl _⟩
    · obtain ⟨q, hq⟩ : ∃ q : Int, q = a / 10 := ⟨_, rfl⟩
      obtain ⟨r, hr⟩ : ∃ r : Int, r = a % 10 := ⟨_, rfl⟩
      have HI := Aside0.mk (fun w => ih q.toNat (by omega) q w (by omega) rfl (by omega))
      have hs := decT_size q.toNat
      have hs2 := dig_size r.toNat
      have e1 : IntKind.i64.wrap (a.tdiv 10) = q := by rw [IntKind.wrap_i64, Int.tdiv_eq_ediv_of_nonneg ha]; omega
      have e2 : a.tmod 10 = r := by rw [Int.tmod_eq_emod_of_nonneg ha]; omega
      have r0 : 0 ≤ r := by omega
      have r1 : r ≤ r + 1 := by omega
      have r2 : r + 1 ≤ 10 := by omega
      have e3 : IntKind.i64.wrap (r + 1) = r + 1 := by rw [IntKind.wrap_i64]; omega
      have HD := Aside0.mk (show decT n = decT q.toNat ++ (⟨#[48, 49, 50, 51, 52, 53, 54, 55, 56, 57]⟩ : ByteArray).extract r.toNat (r + 1).toNat by
        rw [dig_at r0, decT_more h, show q.toNat = n / 10 by omega, show r.toNat = n % 10 by omega])
      have h1 : decide (a < 10) = false := decide_eq_false (by omega)
      have h5 : ¬ a < 0 := by omega
      have hsz : (9223372036854775807 < (decT q.toNat).size + ((r + 1).toNat - r.toNat)) = False := eq_false (by omega)
      generalize decT q.toNat = s at *
      clear ih hq hr hs hs2 h han
      go_enter Tryd.func71, Tryd.ntmps71
      go_wp2_with fail
      go_quiet ((go_at_call 71; exact Calls.quiet_of ((HI.out _).mono (fun e w' hh => ⟨hh.1, hh.2.out⟩))))
      go_wp2_with fail
      go_ret
      exact ⟨by rw [HD.out]; rfl, ⟨⟨nq, rfl⟩⟩⟩
noncomputable def spec_l5Entry.f (a0_0 : Int) (a0_1 : Int) (a0_2 : ByteArray) (l0_3 : List (S81)) : Option (Int × Int × ByteArray × (List (S81))) := (some (([] : List (S81)) : List (S81))).bind fun y46003 => (if y46003.length + l0_3.length < 3518437208883 then (some (a0_0, a0_1, a0_2, (y46003 ++ l0_3))) else (none))
set_option maxHeartbeats 8000000 in
set_option maxRecDepth 100000 in
theorem spec_l5Entry.calls (a0_0 : Int) (a0_1 : Int) (a0_2 : ByteArray) (A0_3 : Option Addr) (c0_3 : Nat) (l0_3 : List (S81)) (r1 : Int) (r2 : Int) (r3 : ByteArray) (r4 : List (S81)) (w : World) (hr0_3 : Kd.C k81 w A0_3 l0_3.length l0_3) (hc0_3 : l0_3.length ≤ c0_3) (h : spec_l5Entry.f a0_0 a0_1 a0_2 l0_3 = some (r1, r2, r3, r4)) :
    Calls Tryd.prog 45 #[.agg #[.int .i64 a0_0, .int .i64 a0_1, .string a0_2, .slice A0_3 l0_3.length c0_3]] w fun e w' => ∃ v3_ : Value, e = .returned (.agg #[.int .i64 r1, .int .i64 r2, .string r3, v3_]) ∧ Kd.R k81 81 w' w.heap.size (fun _ => True) v3_ r4 ∧ Below w.heap.size w w' := by
  have hu35 := Tryd.underlying35
  have HR0_3 := Aside0.mk hr0_3
  have HC0_3 := Aside0.mk hc0_3
  clear hr0_3 hc0_3
  have HB := Aside0.mk (Below.refl w.heap.size w)
  have H : ((some (([] : List (S81)) : List (S81))).bind fun y46003 => (if y46003.length + l0_3.length < 3518437208883 then (some (a0_0, a0_1, a0_2, (y46003 ++ l0_3))) else (none))) = some (r1, r2, r3, r4) := h
  clear h
  obtain ⟨y46003, hy46003⟩ : ∃ y_ : List (S81), y_ = (([] : List (S81))) := ⟨_, rfl⟩
  replace H : (if y46003.length + l0_3.length < 3518437208883 then (some (a0_0, a0_1, a0_2, (y46003 ++ l0_3))) else (none)) = some (r1, r2, r3, r4) := by first | (rw [hy46003]; with_reducible exact H) | (have H2_ := (Option.bind_some _ _).symm.trans H; rw [hy46003]; with_reducible exact H2_) | (have H2_ := (Option.bind_some _ _).symm.trans H; with_reducible exact H2_) | with_reducible exact H | (rw [hy46003]; exact H) | exact H
  have Ny46003 := Aside0.mk hy46003
  clear hy46003
  by_cases c2 : y46003.length + l0_3.length < 3518437208883
  · rw [if_pos c2] at H
    have LMc2 := Aside0.mk c2
    clear c2
    obtain ⟨y46006, hy46006⟩ : ∃ y_ : List (S81), y_ = (y46003 ++ l0_3) := ⟨_, rfl⟩
    replace H : (some (a0_0, a0_1, a0_2, y46006)) = some (r1, r2, r3, r4) := by first | (rw [hy46006]; with_reducible exact H) | (have H2_ := (Option.bind_some _ _).symm.trans H; rw [hy46006]; with_reducible exact H2_) | (have H2_ := (Option.bind_some _ _).symm.trans H; with_reducible exact H2_) | with_reducible exact H | (rw [hy46006]; exact H) | exact H
    have Ny46006 := Aside0.mk hy46006
    clear hy46006
    simp only [Option.some.injEq, Prod.mk.injEq] at H
    obtain ⟨rfl, rfl, rfl, rfl⟩ := H
    go_enter Tryd.func45, Tryd.ntmps45
    go_wp2_with (first | ((with_reducible refine gate_dst (N := 1) rfl ?_); refine box_event ?hg (N := 1) ?hd (cs := #[.int .i64 a0_0, .int .i64 a0_1, .string a0_2, .slice A0_3 l0_3.length c0_3]) (t := 35) ?hr ?_; (case hd => rfl); (case hg => rfl); (case hr => first | (go_simp; done) | (go_simp; rfl)); intro gb46001 hg w3 hbox hb; have n0_ := Aside0.mk (below_step (by repeat (first | (with_reducible first | exact HB.out | apply below_alloc | apply pw_below_drewN | apply below_drew1) | exact HB.out)) hb); have n1_ := Aside0.mk (hbox); have n2_ := Aside0.mk ((by rw [hg]; exact (below_size (by repeat (first | (with_reducible first | exact HB.out | apply below_alloc | apply pw_below_drewN | apply below_drew1) | exact HB.out))) : w.heap.size ≤ gb46001)); have n3_ := Aside0.mk ((by rw [hg]; exact (below_size (by repeat (first | (with_reducible first | exact HB.out | apply below_alloc | apply pw_below_drewN | apply below_drew1) | exact HB.out))) : w.heap.size ≤ gb46001)); clear HB; have HB := n0_; have BK46001 := n1_; have GW46001 := n2_; have GE46001 := n3_; clear n0_ n1_ n2_ n3_; clear hb hbox hg) | ((with_reducible refine gate_dst (N := 2) rfl ?_); refine box_event ?hg (N := 2) ?hd (cs := #[.int .i64 0, .int .i64 0, .string (⟨#[]⟩ : ByteArray), .slice none 0 0]) (t := 35) ?hr ?_; (case hd => rfl); (case hg => rfl); (case hr => first | (go_simp; done) | (go_simp; rfl)); intro gb46002 hg w4 hbox hb; have n0_ := Aside0.mk (blk_below (g := gb46001) (o := .cells #[.int .i64 a0_0, .int .i64 a0_1, .string a0_2, .slice A0_3 l0_3.length c0_3] 35 (0, 0)) (by (with_reducible repeat (first | refine blk_drewN ?_ _ | refine blk_drew ?_ | refine blk_alloc ?_ _)); exact BK46001.out) hb); have n1_ := Aside0.mk (below_step (by repeat (first | (with_reducible first | exact HB.out | apply below_alloc | apply pw_below_drewN | apply below_drew1 | refine below_set ?_ GE46001.out) | exact HB.out)) hb); have n2_ := Aside0.mk (hbox); have n3_ := Aside0.mk ((by rw [hg]; exact (below_size (by repeat (first | (with_reducible first | exact HB.out | apply below_alloc | apply pw_below_drewN | apply below_drew1 | refine below_set ?_ GE46001.out) | exact HB.out))) : w.heap.size ≤ gb46002)); have n4_ := Aside0.mk ((by rw [hg]; exact (below_size (by repeat (first | (with_reducible first | exact HB.out | apply below_alloc | apply pw_below_drewN | apply below_drew1 | refine below_set ?_ GE46001.out) | exact HB.out))) : w.heap.size ≤ gb46002)); have n5_ := Aside0.mk ((by rw [hg]; exact Nat.ne_of_lt (blk_lt (g := gb46001) (o := .cells #[.int .i64 a0_0, .int .i64 a0_1, .string a0_2, .slice A0_3 l0_3.length c0_3] 35 (0, 0)) (by (with_reducible repeat (first | refine blk_drewN ?_ _ | refine blk_drew ?_ | refine blk_alloc ?_ _)); exact BK46001.out)) : gb46001 ≠ gb46002)); have n6_ := Aside0.mk ((by rw [hg]; exact Nat.ne_of_gt (blk_lt (g := gb46001) (o := .cells #[.int .i64 a0_0, .int .i64 a0_1, .string a0_2, .slice A0_3 l0_3.length c0_3] 35 (0, 0)) (by (with_reducible repeat (first | refine blk_drewN ?_ _ | refine blk_drew ?_ | refine blk_alloc ?_ _)); exact BK46001.out)) : gb46002 ≠ gb46001)); clear BK46001; clear HB; have BK46001 := n0_; have HB := n1_; have BK46002 := n2_; have GW46002 := n3_; have GE46002 := n4_; have NB46001_46002 := n5_; have NB46002_46001 := n6_; clear n0_ n1_ n2_ n3_ n4_ n5_ n6_; clear hb hbox hg) | ((with_reducible refine gate_dst (N := 3) rfl ?_); refine Kd.R_lit k81 _ 81 ?hg (N := 3) ?hd (xs := ([] : List (S81))) (inner := []) (ok := fun _ => True) (okp := fun _ => True) ?hr ?hp (fun _ hk => hk) trivial (Below.refl _ _) (Nat.le_refl _) (by simp) ?_; (case hd => rfl); (case hg => rfl); (case hr => first | (go_simp; done) | (go_simp; rfl)); (case hp => exact (Reps.none _ _)); intro v46004 w5 ho6 hb hg_ hnew_; clear hg_ hnew_; (first | rw [← Ny46003.out] at ho6 | (simp only [Int.reduceToNat] at ho6; rw [← Ny46003.out] at ho6)); have n0_ := Aside0.mk (Kd.R_lower ho6 (below_size (by repeat (first | (with_reducible first | exact HB.out | apply below_alloc | apply pw_below_drewN | apply below_drew1 | refine below_set ?_ GE46001.out | refine below_set ?_ GE46002.out) | exact HB.out)))); have n1_ := Aside0.mk (blk_below (g := gb46001) (o := .cells #[.int .i64 a0_0, .int .i64 a0_1, .string a0_2, .slice A0_3 l0_3.length c0_3] 35 (0, 0)) (by (with_reducible repeat (first | refine blk_drewN ?_ _ | refine blk_drew ?_ | refine blk_alloc ?_ _)); exact BK46001.out) hb); have n2_ := Aside0.mk (blk_below (g := gb46002) (o := .cells #[.int .i64 0, .int .i64 0, .string (⟨#[]⟩ : ByteArray), .slice none 0 0] 35 (0, 0)) (by (with_reducible repeat (first | refine blk_drewN ?_ _ | refine blk_drew ?_ | refine blk_alloc ?_ _)); exact BK46002.out) hb); have n3_ := Aside0.mk (below_step (by repeat (first | (with_reducible first | exact HB.out | apply below_alloc | apply pw_below_drewN | apply below_drew1 | refine below_set ?_ GE46001.out | refine below_set ?_ GE46002.out) | exact HB.out)) hb); clear BK46001; clear BK46002; clear HB; have HO46005 := n0_; have BK46001 := n1_; have BK46002 := n2_; have HB := n3_; clear n0_ n1_ n2_ n3_; clear hb ho6; have hnb7 := NB46001_46002.out; have hnc7 := NB46002_46001.out; have hcz8_0 : w5.cell? ⟨gb46001, 0, none⟩ = some (.int .i64 a0_0) := (blk_cell BK46001.out 0).trans rfl; have hcz8_1 : w5.cell? ⟨gb46001, 1, none⟩ = some (.int .i64 a0_1) := (blk_cell BK46001.out 1).trans rfl; have hcz8_2 : w5.cell? ⟨gb46001, 2, none⟩ = some (.string a0_2) := (blk_cell BK46001.out 2).trans rfl; have hcz8_3 : w5.cell? ⟨gb46001, 3, none⟩ = some (.slice A0_3 l0_3.length c0_3) := (blk_cell BK46001.out 3).trans rfl; have hfz8_0 := blk_frozen BK46001.out 0; have hfz8_1 := blk_frozen BK46001.out 1; have hfz8_2 := blk_frozen BK46001.out 2; have hfz8_3 := blk_frozen BK46001.out 3) | ((with_reducible refine gate_builtin (b := .append) (xs := #[.tmp 3, .tmp 5]) rfl ?_); at_builtin; refine Kd.R_append_rows k81 (w0 := w) w.heap.size rfl (.tmp 3) (.tmp 5) 33 81 (.agg #[(.int .i64 0), (.int .i64 0), (.int .i64 0), (.int .i64 0), (.int .i64 0)]) 40 rfl Tryd.underlying33 info81 rfl (by decide) (by omega) v46004 y46003 l0_3 _ _ _ (fun _ => True) (fun _ => False) rfl rfl ?aO ?aR (fun _ _ h => h) (fun _ h => h.elim) ?aF ?aB ?aS ?aL ?_; (case aR => repeat (first | exact (Kd.C_below HR0_3.out HB.out) | (with_reducible refine Kd.C_alloc ?_ _) | (with_reducible refine Kd.C_drewN ?_ _) | (with_reducible refine Kd.C_drew ?_))); (case aB => exact (by repeat (first | (with_reducible first | exact HB.out | apply below_alloc | apply pw_below_drewN | apply below_drew1 | refine below_set ?_ GE46001.out | refine below_set ?_ GE46002.out) | exact HB.out))); (case aF => exact (fun _ _ => trivial)); (case aO => exact (by (with_reducible repeat (first | apply Kd.R_alloc | apply Kd.R_drewN | apply Kd.R_drew)); exact HO46005.out)); (case aS => exact (below_size (by repeat (first | (with_reducible first | exact HB.out | apply below_alloc | apply pw_below_drewN | apply below_drew1 | refine below_set ?_ GE46001.out | refine below_set ?_ GE46002.out) | exact HB.out)))); (case aL => have := LMc2.out; omega); intro v46007 w9 ho hb hg hat; rw [← Ny46006.out] at ho; have n0_ := Aside0.mk (blk_grown (g := gb46001) (o := .cells #[.int .i64 a0_0, .int .i64 a0_1, .string a0_2, .slice A0_3 l0_3.length c0_3] 35 (0, 0)) (by (with_reducible repeat (first | refine blk_drewN ?_ _ | refine blk_drew ?_ | refine blk_alloc ?_ _)); exact BK46001.out) hg (Kd.R_ne HO46005.out BK46001.out (by decide))); have n1_ := Aside0.mk (blk_grown (g := gb46002) (o := .cells #[.int .i64 0, .int .i64 0, .string (⟨#[]⟩ : ByteArray), .slice none 0 0] 35 (0, 0)) (by (with_reducible repeat (first | refine blk_drewN ?_ _ | refine blk_drew ?_ | refine blk_alloc ?_ _)); exact BK46002.out) hg (Kd.R_ne HO46005.out BK46002.out (by decide))); have n2_ := Aside0.mk (hb); have n3_ := Aside0.mk (ho); clear BK46001; clear BK46002; clear HB; clear HO46005; have BK46001 := n0_; have BK46002 := n1_; have HB := n2_; have HO46008 := n3_; clear n0_ n1_ n2_ n3_; clear ho hb hg hat; obtain ⟨Ao10, co10, eo10⟩ := Kd.R_slice HO46008.out; subst eo10; have hcz11_0 : w9.cell? ⟨gb46001, 0, none⟩ = some (.int .i64 a0_0) := (blk_cell BK46001.out 0).trans rfl; have hcz11_1 : w9.cell? ⟨gb46001, 1, none⟩ = some (.int .i64 a0_1) := (blk_cell BK46001.out 1).trans rfl; have hcz11_2 : w9.cell? ⟨gb46001, 2, none⟩ = some (.string a0_2) := (blk_cell BK46001.out 2).trans rfl; have hcz11_3 : w9.cell? ⟨gb46001, 3, none⟩ = some (.slice A0_3 l0_3.length c0_3) := (blk_cell BK46001.out 3).trans rfl; have hfz11_0 := blk_frozen BK46001.out 0; have hfz11_1 := blk_frozen BK46001.out 1; have hfz11_2 := blk_frozen BK46001.out 2; have hfz11_3 := blk_frozen BK46001.out 3; have hcz12_0 : w9.cell? ⟨gb46002, 0, none⟩ = some (.int .i64 0) := (blk_cell BK46002.out 0).trans rfl; have hcz12_1 : w9.cell? ⟨gb46002, 1, none⟩ = some (.int .i64 0) := (blk_cell BK46002.out 1).trans rfl; have hcz12_2 : w9.cell? ⟨gb46002, 2, none⟩ = some (.string (⟨#[]⟩ : ByteArray)) := (blk_cell BK46002.out 2).trans rfl; have hcz12_3 : w9.cell? ⟨gb46002, 3, none⟩ = some (.slice none 0 0) := (blk_cell BK46002.out 3).trans rfl; have hfz12_0 := blk_frozen BK46002.out 0; have hfz12_1 := blk_frozen BK46002.out 1; have hfz12_2 := blk_frozen BK46002.out 2; have hfz12_3 := blk_frozen BK46002.out 3))
    refine bodyPost_ret (results_cell_row rfl _ _ gb46002 35 #[.int .i64 a0_0, .int .i64 a0_1, .string a0_2, .slice Ao10 y46006.length co10] (0, 0) _ rfl (by (with_reducible repeat (first | refine blk_drewN ?_ _ | refine blk_drew ?_ | refine blk_alloc ?_ _)); refine blk_put (cs := #[.int .i64 a0_0, .int .i64 a0_1, .string a0_2, .slice none 0 0]) ?_ 3 _ rfl; (with_reducible repeat (first | refine blk_drewN ?_ _ | refine blk_drew ?_ | refine blk_alloc ?_ _)); refine blk_put (cs := #[.int .i64 a0_0, .int .i64 a0_1, .string (⟨#[]⟩ : ByteArray), .slice none 0 0]) ?_ 2 _ rfl; (with_reducible repeat (first | refine blk_drewN ?_ _ | refine blk_drew ?_ | refine blk_alloc ?_ _)); refine blk_put (cs := #[.int .i64 a0_0, .int .i64 0, .string (⟨#[]⟩ : ByteArray), .slice none 0 0]) ?_ 1 _ rfl; (with_reducible repeat (first | refine blk_drewN ?_ _ | refine blk_drew ?_ | refine blk_alloc ?_ _)); refine blk_put (cs := #[.int .i64 0, .int .i64 0, .string (⟨#[]⟩ : ByteArray), .slice none 0 0]) ?_ 0 _ rfl; (with_reducible repeat (first | refine blk_drewN ?_ _ | refine blk_drew ?_ | refine blk_alloc ?_ _)); refine blk_far ?_ NB46002_46001.out _; (with_reducible repeat (first | refine blk_drewN ?_ _ | refine blk_drew ?_ | refine blk_alloc ?_ _)); exact BK46002.out) Tryd.underlying35 rfl (by kernel_rfl)) rfl ?_
    exact ⟨_, by first | rfl | (simp [errW_none, errW_some] <;> rfl) | (simp [*, errW_none, errW_some] <;> rfl), by (with_reducible repeat (first | apply Kd.R_alloc | apply Kd.R_drewN | apply Kd.R_drew)); exact Kd.R_mono (Kd.R_far (p := ⟨gb46002, 3, none⟩) (Kd.R_far (p := ⟨gb46002, 2, none⟩) (Kd.R_far (p := ⟨gb46002, 1, none⟩) (Kd.R_far (p := ⟨gb46002, 0, none⟩) (Kd.R_far (p := ⟨gb46001, 3, none⟩) (Kd.R_types (Kd.R_types HO46008.out BK46001.out (by decide)) BK46002.out (by decide)) (fun _ hk => hk.1.2) (.slice Ao10 y46006.length co10)) (fun _ hk => hk.2) (.int .i64 a0_0)) (fun _ hk => hk.2) (.int .i64 a0_1)) (fun _ hk => hk.2) (.string a0_2)) (fun _ hk => hk.2) (.slice Ao10 y46006.length co10)) (fun _ hk => trivial), by repeat (first | (with_reducible first | exact HB.out | apply below_alloc | apply pw_below_drewN | apply below_drew1 | refine below_set ?_ GE46001.out | refine below_set ?_ GE46002.out) | exact HB.out)⟩
  · rw [if_neg c2] at H
    exact absurd H (by simp)
noncomputable def spec_l2Day.f (a0 : Int) : Option Bool := some (inB a0 (0) 40000)
set_option maxRecDepth 100000 in
theorem spec_l2Day.to (a : Int) (w : World) : Calls Tryd.prog 42 #[.int .i64 a] w fun e w' => e = .returned (.bool (inB a (0) 40000)) ∧ w' = w := by
  go_enter Tryd.func42, Tryd.ntmps42
  go_wp2_with fail
  refine (spec_l1In.to a (0) 40000 _).mono ?_
  rintro e w' ⟨rfl, rfl⟩
  go_wp2_with fail
  go_ret
  exact ⟨rfl, rfl⟩
theorem spec_l2Day.calls (a0 : Int) (r : Bool) (w : World) (h : spec_l2Day.f a0 = some r) :
    Calls Tryd.prog 42 #[.int .i64 a0] w fun e w' => e = .returned (.bool r) ∧ Drawn0 w w' := by
  obtain rfl := Option.some.inj h
  exact (spec_l2Day.to a0 w).mono fun e w' ⟨he, hw⟩ => ⟨he, hw ▸ Drawn0.refl _⟩
open Classical in
theorem nameOk_end {s : ByteArray} {i : Int} (hi : (s.size : Int) ≤ i) (h : nameUpto s i) : inB (s.size : Int) 1 20 = nameOk s := by
  unfold nameOk inB
  have : nameUpto s s.size := fun j hj0 hj1 => h j hj0 (by omega)
  rw [Bool.eq_iff_iff]
  simp [this]
  omega
set_option maxHeartbeats 8000000 in
set_option maxRecDepth 100000 in
theorem spec_NameOk.to (a0 : ByteArray) (w : World) (hs : a0.size ≤ 9223372036854775807) : Calls Tryd.prog 67 #[.string a0] w fun e w' => e = .returned (.bool (nameOk a0)) ∧ w' = w := by
  go_enter Tryd.func67, Tryd.ntmps67
  go_wp2_with fail
  go_loop [3] (fun v => ∃ i : Int, 0 ≤ i ∧ i ≤ (a0.size : Int) ∧ v = .int .i64 i ∧ Aside0 (nameUpto a0 i)) (fun v => (a0.size - (intOf v).toNat))
  case atStart => exact ⟨0, by omega, by omega, rfl, ⟨fun j h0 h1 => by omega⟩⟩
  case round =>
    obtain ⟨i, hi0, hi1, rfl, HT⟩ := hrel
    by_cases hlt : i < (a0.size : Int)
    · have hx := bt_at a0 i
      go_wp2_with fail
      all_goals first
        | (go_round
           case rel => exact ⟨i + 1, by omega, by omega, rfl, ⟨name_step hi0 HT.out (by unfold nameB; symm; first | (simp; done) | (simp; omega) | (simp_all; done) | (simp_all; omega))⟩⟩
           case measure => simp [intOf]; omega)
        | (go_ret
           exact ⟨ret_bool (nameOk_byte hi0 hlt (by unfold nameB; symm; first | (simp; done) | (simp; omega) | (simp_all; done) | (simp_all; omega))), rfl⟩)
    · go_wp2_with fail
      refine (spec_l1In.to _ _ _ _).mono ?_
      rintro e w' ⟨rfl, rfl⟩
      go_wp2_with fail
      go_ret
      exact ⟨ret_bool (nameOk_end (by omega) HT.out), rfl⟩
set_option maxHeartbeats 4000000 in
set_option maxRecDepth 100000 in
theorem impl_NameOk.to (a0 : ByteArray) (w : World) : Calls Tryd.prog 76 #[.string a0] w fun e w' => e = .returned (.bool (nameOk a0)) ∧ w' = w := by
  by_cases h1 : 1 ≤ a0.size
  · by_cases h2 : a0.size ≤ 20
    · go_enter Tryd.func76, Tryd.ntmps76
      go_wp2_with fail
      go_loop [3] (fun v => ∃ i : Int, 0 ≤ i ∧ i ≤ (a0.size : Int) ∧ v = .int .i64 i ∧ Aside0 (nameUpto a0 i)) (fun v => (a0.size - (intOf v).toNat))
      case atStart => exact ⟨0, by omega, by omega, rfl, ⟨fun j h0 h1 => by omega⟩⟩
      case round =>
        obtain ⟨i, hi0, hi1, rfl, HT⟩ := hrel
        by_cases hlt : i < (a0.size : Int)
        · have hx := bt_at a0 i
          go_wp2_with fail
          refine (impl_nameByte.to (bt a0 i) _).mono ?_
          rintro e w' ⟨rfl, rfl⟩
          cases hb : nameB (bt a0 i) with
          | true =>
            have HB := Aside0.mk hb.symm
            clear hb hx
            go_wp2_with fail
            go_round
            case rel => exact ⟨i + 1, by omega, by omega, rfl, ⟨name_step hi0 HT.out HB.out⟩⟩
            case measure => simp [intOf]; omega
          | false =>
            have HB := Aside0.mk hb.symm
            clear hb hx
            go_wp2_with fail
            go_ret
            exact ⟨ret_bool (nameOk_byte hi0 hlt HB.out), rfl⟩
        · go_wp2_with fail
          go_ret
          exact ⟨ret_bool (nameOk_true h1 h2 (by omega) HT.out), rfl⟩
    · go_enter Tryd.func76, Tryd.ntmps76
      go_wp2_with fail
      go_ret
      exact ⟨ret_bool (nameOk_size (by omega)), rfl⟩
  · go_enter Tryd.func76, Tryd.ntmps76
    go_wp2_with fail
    go_ret
    exact ⟨ret_bool (nameOk_size (by omega)), rfl⟩
set_option maxRecDepth 100000 in
theorem impl_kindOk.to (a : Int) (w : World) : Calls Tryd.prog 77 #[.int .i64 a] w fun e w' => e = .returned (.bool (inB a (1) 5)) ∧ w' = w := by
  go_enter Tryd.func77, Tryd.ntmps77
  go_wp2_with fail
  refine (impl_between.to a (1) 5 _).mono ?_
  rintro e w' ⟨rfl, rfl⟩
  go_wp2_with fail
  go_ret
  exact ⟨rfl, rfl⟩
set_option maxRecDepth 100000 in
theorem impl_amount.to (a : Int) (w : World) : Calls Tryd.prog 61 #[.int .i64 a] w fun e w' => e = .returned (.bool (inB a (-100000000000) 100000000000)) ∧ w' = w := by
  go_enter Tryd.func61, Tryd.ntmps61
  go_wp2_with fail
  refine (impl_between.to a (-100000000000) 100000000000 _).mono ?_
  rintro e w' ⟨rfl, rfl⟩
  go_wp2_with fail
  go_ret
  exact ⟨rfl, rfl⟩
set_option maxRecDepth 100000 in
theorem impl_isDay.to (a : Int) (w : World) : Calls Tryd.prog 30 #[.int .i64 a] w fun e w' => e = .returned (.bool (inB a (0) 40000)) ∧ w' = w := by
  go_enter Tryd.func30, Tryd.ntmps30
  go_wp2_with fail
  refine (impl_between.to a (0) 40000 _).mono ?_
  rintro e w' ⟨rfl, rfl⟩
  go_wp2_with fail
  go_ret
  exact ⟨rfl, rfl⟩
set_option maxRecDepth 100000 in
theorem spec_l1Amount.to (a : Int) (w : World) : Calls Tryd.prog 59 #[.int .i64 a] w fun e w' => e = .returned (.bool (inB a (-100000000000) 100000000000)) ∧ w' = w := by
  go_enter Tryd.func59, Tryd.ntmps59
  go_wp2_with fail
  refine (spec_l1In.to a (-100000000000) 100000000000 _).mono ?_
  rintro e w' ⟨rfl, rfl⟩
  go_wp2_with fail
  go_ret
  exact ⟨rfl, rfl⟩
end Go.Proofs.YtjkjjfbcakbmnaaDoor.Q
