/- Parts of the proof: what functions of the program and of the reference answer.
   No condition. -/
import Derived.Test.YtphmnkcfjgallaaZReverse1
import Derived.Test.YtphmnkcfjgallaaZReverse14
import Derived.Test.YtphmnkcfjgallaaZReverse18
import Derived.Test.YtphmnkcfjgallaaZReverse11
import Derived.Test.YtphmnkcfjgallaaZReverse15
import Derived.Test.YtphmnkcfjgallaaZReverse7
import Derived.Test.YtphmnkcfjgallaaZReverse20
import Derived.Test.YtphmnkcfjgallaaZReverse13
import Derived.Test.YtphmnkcfjgallaaZReverse9
import Derived.Test.YtphmnkcfjgallaaZReverse6
import Derived.Test.YtphmnkcfjgallaaZReverse16
import Derived.Test.YtphmnkcfjgallaaZReverse21
import Derived.Test.YtphmnkcfjgallaaZReverse17
namespace Go.Proofs.Ytphmnkcfjgallaa.Q
open Go.RowKit Go.Proofs.YtphmnkcfjgallaaW.PrintWords Go.Proofs.YtphmnkcfjgallaaW.PrintLast Go.Proofs.YtphmnkcfjgallaaW.PrintMore
set_option linter.unusedVariables false
set_option linter.unusedSimpArgs false
set_option maxHeartbeats 64000000 in
set_option maxRecDepth 100000 in
theorem laws_FnExactReverse.to (A0 : Option Addr) (c0 : Nat) (l0 : List S176) (d c : Int) (A1 : Option Addr) (c1 : Nat) (l1 : List S93) (h : Int) (at_ : Int) (day : Int) (w : World)
    (hr0 : Kd.C k176 w A0 l0.length l0) (hc0 : l0.length ≤ c0) (hr1 : Kd.C k93 w A1 l1.length l1) (hc1 : l1.length ≤ c1) (hw0 : wf59 (⟨l0, d, c⟩ : S59)) (hw1 : wf62 (⟨l1, h⟩ : S62)) (hwt2 : (Lit.int .i64 at_).wf = true) (hwt3 : (Lit.int .i64 day).wf = true) :
    Calls Try.prog 9 #[.agg #[.slice A0 l0.length c0, .int .i64 d, .int .i64 c], .agg #[.slice A1 l1.length c1, .int .i64 h], .int .i64 at_, .int .i64 day] w fun e w' => e = .returned (.bool true) ∧ Below w.heap.size w w' := by
  have H0 := Aside0.mk hr0
  have C0 := Aside0.mk hc0
  have HW0 := Aside0.mk hw0
  have H1 := Aside0.mk hr1
  have C1 := Aside0.mk hc1
  have HW1 := Aside0.mk hw1
  have HT0 := Aside0.mk (text_cvAccount hw0.1.2)
  have HT1 := Aside0.mk (text_cvEntry hw1.1.2)
  have HB := Aside0.mk (below_two w (.cells #[.slice A0 l0.length c0, .int .i64 d, .int .i64 c] 59) (.cells #[.slice A1 l1.length c1, .int .i64 h] 62))
  clear hr0 hc0 hw0 hr1 hc1 hw1 hwt2 hwt3
  go_enter Try.func9, Try.ntmps9
  go_wp2_with fail
  refine (laws_szFrame.calls A0 c0 l0 d c 1048576 _ (Kd.C_below H0.out HB.out) (by omega) (by omega) HW0.out).mono ?_
  rintro x w1 ⟨q0, rfl, q1_0, q2_0, q3, hb⟩
  have f0_0 : w1.cell? ⟨w.heap.size, 0, none⟩ = some (.slice A0 l0.length c0) := pw_cell_below hb (by go_simp)
  have f0_1 : w1.cell? ⟨w.heap.size, 1, none⟩ = some (.int .i64 d) := pw_cell_below hb (by go_simp)
  have f0_2 : w1.cell? ⟨w.heap.size, 2, none⟩ = some (.int .i64 c) := pw_cell_below hb (by go_simp)
  have f1_0 : w1.cell? ⟨w.heap.size + 1, 0, none⟩ = some (.slice A1 l1.length c1) := pw_cell_below hb (by go_simp)
  have f1_1 : w1.cell? ⟨w.heap.size + 1, 1, none⟩ = some (.int .i64 h) := pw_cell_below hb (by go_simp)
  replace HB := Aside0.mk (below_into (w := w) hb HB.out)
  have HS := Aside0.mk q3
  clear hb q3
  by_cases hq0 : q0 < 0
  case pos =>
    go_wp2_with fail
    go_ret
    exact ⟨rfl, HB.out⟩
  have HS0 := Aside0.mk (show l0.length ≤ 1048576 from HS.out (by omega))
  clear HS
  go_wp2_with fail
  refine (laws_szLedger.calls A1 c1 l1 h q0 _ (Kd.C_below H1.out HB.out) (by omega) (by omega) HW1.out).mono ?_
  rintro x w2 ⟨q1, rfl, q1_1, q2_1, q3, hb⟩
  replace f0_0 := pw_cell_below hb f0_0
  replace f0_1 := pw_cell_below hb f0_1
  replace f0_2 := pw_cell_below hb f0_2
  replace f1_0 := pw_cell_below hb f1_0
  replace f1_1 := pw_cell_below hb f1_1
  replace HB := Aside0.mk (below_into (w := w) hb HB.out)
  have HS := Aside0.mk q3
  clear hb q3
  by_cases hq1 : q1 < 0
  case pos =>
    go_wp2_with fail
    go_ret
    exact ⟨rfl, HB.out⟩
  have HS1 := Aside0.mk (show l1.length ≤ 1048576 ∧ ∀ y ∈ l1, small93 y from HS.out (by omega))
  clear HS
  have TB0 := Aside0.mk (laws_toFrame_is l0 d c kBig HS0.out kBig_le)
  have ML0 := Aside0.mk (show (l0.map cvAccount).length ≤ 1048576 by rw [List.length_map]; exact HS0.out)
  generalize l0.map cvAccount = m0 at *
  have TB1 := Aside0.mk (laws_toLedger_is l1 h kBig HS1.out kBig_le)
  have ML1 := Aside0.mk (show (l1.map cvEntry).length ≤ 1048576 ∧ ∀ x ∈ l1.map cvEntry, x.f3.length ≤ 1048576 from ⟨by rw [List.length_map]; exact HS1.out.1, fun x hx => by
    obtain ⟨y, hy, rfl⟩ := List.mem_map.1 hx
    show (y.f3.map cvLine).length ≤ 1048576
    rw [List.length_map]
    exact HS1.out.2 y hy⟩)
  generalize l1.map cvEntry = m1 at *
  obtain ⟨⟨re0, re1, re2, r0, rk⟩, hres⟩ : ∃ t, t = revR m0 d c m1 h at_ day := ⟨_, rfl⟩
  have ST := Aside0.mk (spec_Reverse_is m0 d c m1 h at_ day HT0.out HT1.out ML1.out.1 kBig (Nat.lt_of_lt_of_le (by omega) kBig_le))
  have IT := Aside0.mk (impl_Reverse_is m0 d c m1 h at_ day HT0.out HT1.out kBig (Nat.lt_of_lt_of_le (by omega) kBig_le))
  rw [← hres] at ST IT
  have RL := Aside0.mk (revR_len hres.symm)
  clear hres
  have zz_f0_0 := World.block_lt_of_cell? _ _ f0_0
  have zz_f1_0 := World.block_lt_of_cell? _ _ f1_0
  go_upto_region 8 with fail
  have HV := Aside0.mk (Below.refl w2.heap.size w2)
  go_cut [10, 11] (fun s10_ s11_ wx => ∃ (b_ : Nat) (A_ : Option Addr) (c_ : Nat), s10_ = .pointer (some ⟨b_, 0, none⟩) ∧ s11_ = .bool rk ∧ w2.heap.size ≤ b_ ∧ wx.heap[b_]? = some (.cells #[.int .i64 re0, .int .i64 re1, .string re2, .slice A_ r0.length c_] 34 (0, 0)) ∧ Aside0 (r0.length ≤ c_) ∧ Aside0 (Kd.R k112 112 wx w2.heap.size (Iv w2.heap.size wx.heap.size) (.slice A_ r0.length c_) r0) ∧ Aside0 (Below w2.heap.size w2 wx))
  case first =>
    go_region_held3 (fun w' => w'.cell? ⟨w.heap.size, 0, none⟩ = some (.slice A0 l0.length c0) ∧ w'.cell? ⟨w.heap.size, 1, none⟩ = some (.int .i64 d) ∧ w'.cell? ⟨w.heap.size, 2, none⟩ = some (.int .i64 c) ∧ w'.cell? ⟨w.heap.size + 1, 0, none⟩ = some (.slice A1 l1.length c1) ∧ w'.cell? ⟨w.heap.size + 1, 1, none⟩ = some (.int .i64 h)) ((first | (have hH := ‹_ ∧ _›; obtain ⟨t0, t1, t2, t3, t4⟩ := hH; first | (with_reducible exact ⟨pw_cell_below hb t0, pw_cell_below hb t1, pw_cell_below hb t2, pw_cell_below hb t3, pw_cell_below hb t4⟩) | (with_reducible exact ⟨pw_cell_below (below_alloc (Below.refl _ _) _) t0, pw_cell_below (below_alloc (Below.refl _ _) _) t1, pw_cell_below (below_alloc (Below.refl _ _) _) t2, pw_cell_below (below_alloc (Below.refl _ _) _) t3, pw_cell_below (below_alloc (Below.refl _ _) _) t4⟩) | (with_reducible exact ⟨t0, t1, t2, t3, t4⟩) | (with_reducible refine ⟨cell_alloc2 t0 ?_, cell_alloc2 t1 ?_, cell_alloc2 t2 ?_, cell_alloc2 t3 ?_, cell_alloc2 t4 ?_⟩ <;> (first | omega | (simp; omega))) | (refine ⟨?_, ?_, ?_, ?_, ?_⟩ <;> ((repeat (with_reducible refine cell_off ?_ _ ?_; (· (first | omega | (simp; omega))))); assumption))) | go_keep))
     ((first | (go_at_call 37; refine (laws_toFrame.calls kBig A0 c0 l0 d c m0 d c _ (Kd.C_below H0.out (by with_reducible repeat (first | exact HB.out | exact below_into HVBs.out HB.out | refine below_drew1 ?_ | refine pw_below_drewN ?_ _ | refine below_alloc ?_ _))) C0.out TB0.out).mono ?_; rintro x wAs ⟨v0, rfl, hR, hb⟩; obtain ⟨P0s, p0s, rfl, n0, g0⟩ := Kd.R_reads hR; have KK0s := Aside0.mk g0; have KN0s := Aside0.mk n0; have HVAs := Aside0.mk (below_into (w := w2) hb (by with_reducible repeat (first | exact HV.out | exact HVBs.out | refine below_drew1 ?_ | refine pw_below_drewN ?_ _ | refine below_alloc ?_ _))); have SZAs := HVAs.out.size; (try replace KK1s := Aside0.mk (Kd.C_below KK1s.out (below_into hb (by with_reducible repeat (first | exact Below.refl _ _ | refine below_drew1 ?_ | refine pw_below_drewN ?_ _ | refine below_alloc ?_ _))))); (first | (have BK : wAs.heap[w2.heap.size]? = some (.cells #[.int .i64 0, .int .i64 0, .string ⟨#[]⟩, .slice none 0 0] 34 (0, 0)) := blk_below ?_ hb; rotate_left; (· (with_reducible repeat (first | exact BK | exact blk_new _ _ | refine blk_drewN ?_ _ | refine blk_drew ?_)))) | (have BK : wAs.heap[wBs.heap.size]? = some (.cells #[.int .i64 0, .int .i64 0, .string ⟨#[]⟩, .slice none 0 0] 34 (0, 0)) := blk_below ?_ hb; rotate_left; (· (with_reducible repeat (first | exact BK | exact blk_new _ _ | refine blk_drewN ?_ _ | refine blk_drew ?_)))) | skip); (try (have Y0 := (blk_cell BK 0).trans (show _ = some (.int .i64 0) from rfl); have Z0 := blk_frozen BK 0; have Y1 := (blk_cell BK 1).trans (show _ = some (.int .i64 0) from rfl); have Z1 := blk_frozen BK 1; have Y2 := (blk_cell BK 2).trans (show _ = some (.string ⟨#[]⟩) from rfl); have Z2 := blk_frozen BK 2; have Y3 := (blk_cell BK 3).trans (show _ = some (.slice none 0 0) from rfl); have Z3 := blk_frozen BK 3)); clear hR g0 n0) | (go_at_call 49; refine (laws_toLedger.calls kBig A1 c1 l1 h m1 h _ (Kd.C_below H1.out (by with_reducible repeat (first | exact HB.out | exact below_into HVAs.out HB.out | refine below_drew1 ?_ | refine pw_below_drewN ?_ _ | refine below_alloc ?_ _))) C1.out TB1.out).mono ?_; rintro x wBs ⟨v1, rfl, hR, hb⟩; obtain ⟨P1s, p1s, rfl, n0, g0⟩ := Kd.S_reads hR; have KK1s := Aside0.mk g0; have KN1s := Aside0.mk n0; have HVBs := Aside0.mk (below_into (w := w2) hb (by with_reducible repeat (first | exact HV.out | exact HVAs.out | refine below_drew1 ?_ | refine pw_below_drewN ?_ _ | refine below_alloc ?_ _))); have SZBs := HVBs.out.size; (try replace KK0s := Aside0.mk (Kd.C_below KK0s.out (below_into hb (by with_reducible repeat (first | exact Below.refl _ _ | refine below_drew1 ?_ | refine pw_below_drewN ?_ _ | refine below_alloc ?_ _))))); (first | (have BK : wBs.heap[w2.heap.size]? = some (.cells #[.int .i64 0, .int .i64 0, .string ⟨#[]⟩, .slice none 0 0] 34 (0, 0)) := blk_below ?_ hb; rotate_left; (· (with_reducible repeat (first | exact BK | exact blk_new _ _ | refine blk_drewN ?_ _ | refine blk_drew ?_)))) | (have BK : wBs.heap[wAs.heap.size]? = some (.cells #[.int .i64 0, .int .i64 0, .string ⟨#[]⟩, .slice none 0 0] 34 (0, 0)) := blk_below ?_ hb; rotate_left; (· (with_reducible repeat (first | exact BK | exact blk_new _ _ | refine blk_drewN ?_ _ | refine blk_drew ?_)))) | skip); (try (have Y0 := (blk_cell BK 0).trans (show _ = some (.int .i64 0) from rfl); have Z0 := blk_frozen BK 0; have Y1 := (blk_cell BK 1).trans (show _ = some (.int .i64 0) from rfl); have Z1 := blk_frozen BK 1; have Y2 := (blk_cell BK 2).trans (show _ = some (.string ⟨#[]⟩) from rfl); have Z2 := blk_frozen BK 2; have Y3 := (blk_cell BK 3).trans (show _ = some (.slice none 0 0) from rfl); have Z3 := blk_frozen BK 3)); clear hR g0 n0) | (go_at_call 17; refine (spec_Reverse.calls kBig P0s p0s m0 d c P1s p1s m1 h at_ day re0 re1 re2 r0 rk _ (Kd.C_below KK0s.out (by with_reducible repeat (first | exact Below.refl _ _ | refine below_drew1 ?_ | refine pw_below_drewN ?_ _ | refine below_alloc ?_ _))) KN0s.out (Kd.C_below KK1s.out (by with_reducible repeat (first | exact Below.refl _ _ | refine below_drew1 ?_ | refine pw_below_drewN ?_ _ | refine below_alloc ?_ _))) KN1s.out ST.out).mono ?_; rintro x wS ⟨vs, rfl, hR, hb⟩; obtain ⟨S0, eS0, rfl, n0, g0⟩ := Kd.R_reads hR; have NS := Aside0.mk n0; have KS := Aside0.mk g0; have HVS := Aside0.mk (below_into (w := w2) hb (by with_reducible repeat (first | exact HV.out | exact HVAs.out | exact HVBs.out | refine below_drew1 ?_ | refine pw_below_drewN ?_ _ | refine below_alloc ?_ _))); have RRS := Aside0.mk (R_iv hR); have SZS := HVS.out.size; have SBS := below_start hb (show Below w2.heap.size w2 _ from (by with_reducible repeat (first | exact HV.out | exact HVAs.out | exact HVBs.out | refine below_drew1 ?_ | refine pw_below_drewN ?_ _ | refine below_alloc ?_ _))); (first | (have BK : wS.heap[w2.heap.size]? = some (.cells #[.int .i64 0, .int .i64 0, .string ⟨#[]⟩, .slice none 0 0] 34 (0, 0)) := blk_below ?_ hb; rotate_left; (· (with_reducible repeat (first | exact BK | exact blk_new _ _ | refine blk_drewN ?_ _ | refine blk_drew ?_)))) | (have BK : wS.heap[wAs.heap.size]? = some (.cells #[.int .i64 0, .int .i64 0, .string ⟨#[]⟩, .slice none 0 0] 34 (0, 0)) := blk_below ?_ hb; rotate_left; (· (with_reducible repeat (first | exact BK | exact blk_new _ _ | refine blk_drewN ?_ _ | refine blk_drew ?_)))) | (have BK : wS.heap[wBs.heap.size]? = some (.cells #[.int .i64 0, .int .i64 0, .string ⟨#[]⟩, .slice none 0 0] 34 (0, 0)) := blk_below ?_ hb; rotate_left; (· (with_reducible repeat (first | exact BK | exact blk_new _ _ | refine blk_drewN ?_ _ | refine blk_drew ?_)))) | skip); (try (have Y0 := (blk_cell BK 0).trans (show _ = some (.int .i64 0) from rfl); have Z0 := blk_frozen BK 0; have Y1 := (blk_cell BK 1).trans (show _ = some (.int .i64 0) from rfl); have Z1 := blk_frozen BK 1; have Y2 := (blk_cell BK 2).trans (show _ = some (.string ⟨#[]⟩) from rfl); have Z2 := blk_frozen BK 2; have Y3 := (blk_cell BK 3).trans (show _ = some (.slice none 0 0) from rfl); have Z3 := blk_frozen BK 3)); clear hR n0 g0)))
    all_goals (try go_wp2_with fail)
    all_goals go_meet
    all_goals (
      refine ⟨_, S0, eS0, rfl, rfl, ?_, ?_, NS, ⟨?_⟩, ⟨?_⟩⟩
      · first | exact Nat.le_refl _ | exact SZS | exact SZAs | exact SZBs | omega
      · (with_reducible repeat (first | refine blk_drewN ?_ _ | refine blk_drew ?_)); first | exact blk4 BK _ _ _ _ | exact blk_new _ _
      · (with_reducible repeat (first | refine Kd.R_drewN ?_ _ | refine Kd.R_drew ?_))
        have RX := R_iv_lower RRS.out SBS (Nat.le_refl _)
        first | exact Kd.R_mono (R_put4 RX BK (by decide) _ _ _ _) (fun k hk => ⟨hk.1, Nat.lt_of_lt_of_le hk.2 (by simp)⟩) | exact Kd.R_mono (Kd.R_alloc RX _) (fun k hk => ⟨hk.1, Nat.lt_of_lt_of_le hk.2 (by simp)⟩)
      · (with_reducible repeat (first | refine pw_below_drewN ?_ _ | refine below_drew1 ?_)); first | exact below_put4 HVS.out (by first | exact Nat.le_refl _ | exact HVAs.out.size | exact HVBs.out.size ) _ _ _ _ | exact below_alloc HVS.out _)
  obtain ⟨bS, S0, eS0, rfl, rfl, hble, hblk, NS, RS0, HVS⟩ := hcut
  obtain ⟨w3, rfl⟩ : ∃ W_ : World, W_ = wc := ⟨_, rfl⟩
  have hb := HVS.out
  replace f0_0 := pw_cell_below hb f0_0
  replace f0_1 := pw_cell_below hb f0_1
  replace f0_2 := pw_cell_below hb f0_2
  replace f1_0 := pw_cell_below hb f1_0
  replace f1_1 := pw_cell_below hb f1_1
  replace HB := Aside0.mk (below_into (w := w) hb HB.out)
  have s_0 : w3.cell? ⟨bS, 0, none⟩ = some (.int .i64 re0) := (blk_cell hblk 0).trans rfl
  have s_1 : w3.cell? ⟨bS, 1, none⟩ = some (.int .i64 re1) := (blk_cell hblk 1).trans rfl
  have s_2 : w3.cell? ⟨bS, 2, none⟩ = some (.string re2) := (blk_cell hblk 2).trans rfl
  have s_3 : w3.cell? ⟨bS, 3, none⟩ = some (.slice S0 r0.length eS0) := (blk_cell hblk 3).trans rfl
  have z_S := blk_lt hblk
  have s_w3 := hb.size
  clear hb hblk HV HVS
  have HBW := HB
  have B3 := Aside0.mk (Below.refl w3.heap.size w3)
  go_wp2_with fail
  refine (laws_toFrame.calls kBig A0 c0 l0 d c m0 d c _ (Kd.C_below H0.out HB.out) C0.out TB0.out).mono ?_
  rintro x w4 ⟨v0, rfl, hR, hb⟩
  obtain ⟨X0, eX0, rfl, n0, _⟩ := Kd.R_reads hR
  have NX0 := Aside0.mk n0
  have RX0 := Aside0.mk (R_iv hR)
  replace f0_0 := pw_cell_below hb f0_0
  replace f0_1 := pw_cell_below hb f0_1
  replace f0_2 := pw_cell_below hb f0_2
  replace f1_0 := pw_cell_below hb f1_0
  replace f1_1 := pw_cell_below hb f1_1
  replace s_0 := pw_cell_below hb s_0
  replace s_1 := pw_cell_below hb s_1
  replace s_2 := pw_cell_below hb s_2
  replace s_3 := pw_cell_below hb s_3
  replace RS0 := Aside0.mk (Kd.R_below RS0.out hb)
  replace HB := Aside0.mk (below_into (w := w) hb HB.out)
  replace B3 := Aside0.mk (below_into (w := w3) hb B3.out)
  have s_w4 := hb.size
  clear hb hR n0
  have zz_f0_0 := World.block_lt_of_cell? _ _ f0_0
  have zz_f1_0 := World.block_lt_of_cell? _ _ f1_0
  have zz_s_0 := World.block_lt_of_cell? _ _ s_0
  go_wp2_with fail
  have x0 : (w4.alloc (.cells #[.slice X0 m0.length eX0, .int .i64 d, .int .i64 c] 26)).cell? ⟨w4.heap.size, 0, none⟩ = some (.slice X0 m0.length eX0) := by go_simp
  have x1 : (w4.alloc (.cells #[.slice X0 m0.length eX0, .int .i64 d, .int .i64 c] 26)).cell? ⟨w4.heap.size, 1, none⟩ = some (.int .i64 d) := by go_simp
  have x2 : (w4.alloc (.cells #[.slice X0 m0.length eX0, .int .i64 d, .int .i64 c] 26)).cell? ⟨w4.heap.size, 2, none⟩ = some (.int .i64 c) := by go_simp
  have hb := below_alloc (Below.refl w4.heap.size w4) (.cells #[.slice X0 m0.length eX0, .int .i64 d, .int .i64 c] 26)
  replace f0_0 := pw_cell_below hb f0_0
  replace f0_1 := pw_cell_below hb f0_1
  replace f0_2 := pw_cell_below hb f0_2
  replace f1_0 := pw_cell_below hb f1_0
  replace f1_1 := pw_cell_below hb f1_1
  replace s_0 := pw_cell_below hb s_0
  replace s_1 := pw_cell_below hb s_1
  replace s_2 := pw_cell_below hb s_2
  replace s_3 := pw_cell_below hb s_3
  replace RS0 := Aside0.mk (Kd.R_below RS0.out hb)
  replace RX0 := Aside0.mk (Kd.R_below RX0.out hb)
  replace HB := Aside0.mk (below_into (w := w) hb HB.out)
  replace B3 := Aside0.mk (below_into (w := w3) hb B3.out)
  have s_w5 : w4.heap.size < (w4.alloc (.cells #[.slice X0 m0.length eX0, .int .i64 d, .int .i64 c] 26)).heap.size := by simp
  clear hb
  generalize w4.alloc (.cells #[.slice X0 m0.length eX0, .int .i64 d, .int .i64 c] 26) = w5 at *
  have z_x0 := World.block_lt_of_cell? _ _ x0
  go_wp2_with fail
  refine (laws_toLedger.calls kBig A1 c1 l1 h m1 h _ (Kd.C_below H1.out HB.out) C1.out TB1.out).mono ?_
  rintro x w6 ⟨v0, rfl, hR, hb⟩
  obtain ⟨X1, eX1, rfl, n0, _⟩ := Kd.S_reads hR
  have NX1 := Aside0.mk n0
  have RX1 := Aside0.mk (Kd.S_lower (S_iv hR) (show w3.heap.size ≤ _ by omega))
  replace f0_0 := pw_cell_below hb f0_0
  replace f0_1 := pw_cell_below hb f0_1
  replace f0_2 := pw_cell_below hb f0_2
  replace f1_0 := pw_cell_below hb f1_0
  replace f1_1 := pw_cell_below hb f1_1
  replace s_0 := pw_cell_below hb s_0
  replace s_1 := pw_cell_below hb s_1
  replace s_2 := pw_cell_below hb s_2
  replace s_3 := pw_cell_below hb s_3
  replace x0 := pw_cell_below hb x0
  replace x1 := pw_cell_below hb x1
  replace x2 := pw_cell_below hb x2
  replace RS0 := Aside0.mk (Kd.R_below RS0.out hb)
  replace RX0 := Aside0.mk (Kd.R_below RX0.out hb)
  replace HB := Aside0.mk (below_into (w := w) hb HB.out)
  replace B3 := Aside0.mk (below_into (w := w3) hb B3.out)
  have s_w6 := hb.size
  clear hb hR n0
  have zz_f0_0 := World.block_lt_of_cell? _ _ f0_0
  have zz_f1_0 := World.block_lt_of_cell? _ _ f1_0
  have zz_s_0 := World.block_lt_of_cell? _ _ s_0
  have zz_x0 := World.block_lt_of_cell? _ _ x0
  go_wp2_with fail
  have y0 : (w6.alloc (.cells #[.slice X1 m1.length eX1, .int .i64 h] 29)).cell? ⟨w6.heap.size, 0, none⟩ = some (.slice X1 m1.length eX1) := by go_simp
  have y1 : (w6.alloc (.cells #[.slice X1 m1.length eX1, .int .i64 h] 29)).cell? ⟨w6.heap.size, 1, none⟩ = some (.int .i64 h) := by go_simp
  have hb := below_alloc (Below.refl w6.heap.size w6) (.cells #[.slice X1 m1.length eX1, .int .i64 h] 29)
  replace f0_0 := pw_cell_below hb f0_0
  replace f0_1 := pw_cell_below hb f0_1
  replace f0_2 := pw_cell_below hb f0_2
  replace f1_0 := pw_cell_below hb f1_0
  replace f1_1 := pw_cell_below hb f1_1
  replace s_0 := pw_cell_below hb s_0
  replace s_1 := pw_cell_below hb s_1
  replace s_2 := pw_cell_below hb s_2
  replace s_3 := pw_cell_below hb s_3
  replace x0 := pw_cell_below hb x0
  replace x1 := pw_cell_below hb x1
  replace x2 := pw_cell_below hb x2
  replace RS0 := Aside0.mk (Kd.R_below RS0.out hb)
  replace RX0 := Aside0.mk (Kd.R_below RX0.out hb)
  replace RX1 := Aside0.mk (Kd.S_below RX1.out hb)
  replace HB := Aside0.mk (below_into (w := w) hb HB.out)
  replace B3 := Aside0.mk (below_into (w := w3) hb B3.out)
  have s_w7 : w6.heap.size < (w6.alloc (.cells #[.slice X1 m1.length eX1, .int .i64 h] 29)).heap.size := by simp
  clear hb
  generalize w6.alloc (.cells #[.slice X1 m1.length eX1, .int .i64 h] 29) = w7 at *
  have z_y0 := World.block_lt_of_cell? _ _ y0
  refine (impl_Reverse.calls kBig X0 eX0 m0 d c X1 eX1 m1 h at_ day re0 re1 re2 r0 rk _ ((Kd.R_reads' RX0.out).2.2) NX0.out ((Kd.S_reads' RX1.out).2.2) NX1.out IT.out).mono ?_
  rintro x w8 ⟨vs, rfl, hR, hb⟩
  obtain ⟨G0, eG0, rfl, n0, _⟩ := Kd.R_reads hR
  have NG0 := Aside0.mk n0
  have RG0 := Aside0.mk (Kd.R_lower (R_iv hR) (show w3.heap.size ≤ _ by omega))
  replace f0_0 := pw_cell_below hb f0_0
  replace f0_1 := pw_cell_below hb f0_1
  replace f0_2 := pw_cell_below hb f0_2
  replace f1_0 := pw_cell_below hb f1_0
  replace f1_1 := pw_cell_below hb f1_1
  replace s_0 := pw_cell_below hb s_0
  replace s_1 := pw_cell_below hb s_1
  replace s_2 := pw_cell_below hb s_2
  replace s_3 := pw_cell_below hb s_3
  replace x0 := pw_cell_below hb x0
  replace x1 := pw_cell_below hb x1
  replace x2 := pw_cell_below hb x2
  replace y0 := pw_cell_below hb y0
  replace y1 := pw_cell_below hb y1
  replace RS0 := Aside0.mk (Kd.R_below RS0.out hb)
  replace RX0 := Aside0.mk (Kd.R_below RX0.out hb)
  replace RX1 := Aside0.mk (Kd.S_below RX1.out hb)
  replace HB := Aside0.mk (below_into (w := w) hb HB.out)
  replace B3 := Aside0.mk (below_into (w := w3) hb B3.out)
  have s_w8 := hb.size
  clear hb hR n0
  have zz_f0_0 := World.block_lt_of_cell? _ _ f0_0
  have zz_f1_0 := World.block_lt_of_cell? _ _ f1_0
  have zz_s_0 := World.block_lt_of_cell? _ _ s_0
  have zz_x0 := World.block_lt_of_cell? _ _ x0
  have zz_y0 := World.block_lt_of_cell? _ _ y0
  go_wp2_with fail
  have g0 : (w8.alloc (.cells #[.int .i64 re0, .int .i64 re1, .string re2, .slice G0 r0.length eG0] 34)).cell? ⟨w8.heap.size, 0, none⟩ = some (.int .i64 re0) := by go_simp
  have g1 : (w8.alloc (.cells #[.int .i64 re0, .int .i64 re1, .string re2, .slice G0 r0.length eG0] 34)).cell? ⟨w8.heap.size, 1, none⟩ = some (.int .i64 re1) := by go_simp
  have g2 : (w8.alloc (.cells #[.int .i64 re0, .int .i64 re1, .string re2, .slice G0 r0.length eG0] 34)).cell? ⟨w8.heap.size, 2, none⟩ = some (.string re2) := by go_simp
  have g3 : (w8.alloc (.cells #[.int .i64 re0, .int .i64 re1, .string re2, .slice G0 r0.length eG0] 34)).cell? ⟨w8.heap.size, 3, none⟩ = some (.slice G0 r0.length eG0) := by go_simp
  have hb := below_alloc (Below.refl w8.heap.size w8) (.cells #[.int .i64 re0, .int .i64 re1, .string re2, .slice G0 r0.length eG0] 34)
  replace f0_0 := pw_cell_below hb f0_0
  replace f0_1 := pw_cell_below hb f0_1
  replace f0_2 := pw_cell_below hb f0_2
  replace f1_0 := pw_cell_below hb f1_0
  replace f1_1 := pw_cell_below hb f1_1
  replace s_0 := pw_cell_below hb s_0
  replace s_1 := pw_cell_below hb s_1
  replace s_2 := pw_cell_below hb s_2
  replace s_3 := pw_cell_below hb s_3
  replace x0 := pw_cell_below hb x0
  replace x1 := pw_cell_below hb x1
  replace x2 := pw_cell_below hb x2
  replace y0 := pw_cell_below hb y0
  replace y1 := pw_cell_below hb y1
  replace RS0 := Aside0.mk (Kd.R_below RS0.out hb)
  replace RX0 := Aside0.mk (Kd.R_below RX0.out hb)
  replace RX1 := Aside0.mk (Kd.S_below RX1.out hb)
  replace RG0 := Aside0.mk (Kd.R_below RG0.out hb)
  replace HB := Aside0.mk (below_into (w := w) hb HB.out)
  replace B3 := Aside0.mk (below_into (w := w3) hb B3.out)
  have s_w9 : w8.heap.size < (w8.alloc (.cells #[.int .i64 re0, .int .i64 re1, .string re2, .slice G0 r0.length eG0] 34)).heap.size := by simp
  clear hb
  generalize w8.alloc (.cells #[.int .i64 re0, .int .i64 re1, .string re2, .slice G0 r0.length eG0] 34) = w9 at *
  have z_g0 := World.block_lt_of_cell? _ _ g0
  refine (laws_eqEntry.calls re0 re1 re2 G0 eG0 r0 re0 re1 re2 S0 eS0 r0 _ ((Kd.R_reads' RG0.out).2.2) ((Kd.R_reads' RS0.out).2.2)).mono ?_
  rintro x w10 ⟨rfl, hb⟩
  replace f0_0 := pw_cell_below hb f0_0
  replace f0_1 := pw_cell_below hb f0_1
  replace f0_2 := pw_cell_below hb f0_2
  replace f1_0 := pw_cell_below hb f1_0
  replace f1_1 := pw_cell_below hb f1_1
  replace s_0 := pw_cell_below hb s_0
  replace s_1 := pw_cell_below hb s_1
  replace s_2 := pw_cell_below hb s_2
  replace s_3 := pw_cell_below hb s_3
  replace x0 := pw_cell_below hb x0
  replace x1 := pw_cell_below hb x1
  replace x2 := pw_cell_below hb x2
  replace y0 := pw_cell_below hb y0
  replace y1 := pw_cell_below hb y1
  replace g0 := pw_cell_below hb g0
  replace g1 := pw_cell_below hb g1
  replace g2 := pw_cell_below hb g2
  replace g3 := pw_cell_below hb g3
  replace RS0 := Aside0.mk (Kd.R_below RS0.out hb)
  replace RX0 := Aside0.mk (Kd.R_below RX0.out hb)
  replace RX1 := Aside0.mk (Kd.S_below RX1.out hb)
  replace RG0 := Aside0.mk (Kd.R_below RG0.out hb)
  replace HB := Aside0.mk (below_into (w := w) hb HB.out)
  replace B3 := Aside0.mk (below_into (w := w3) hb B3.out)
  have s_w10 := hb.size
  clear hb
  rw [← same_true rfl]
  go_wp2_with fail
  have HV := Aside0.mk (Below.refl w10.heap.size w10)
  go_region_held3 (fun w' => w'.cell? ⟨w.heap.size, 0, none⟩ = some (.slice A0 l0.length c0) ∧ w'.cell? ⟨w.heap.size, 1, none⟩ = some (.int .i64 d) ∧ w'.cell? ⟨w.heap.size, 2, none⟩ = some (.int .i64 c) ∧ w'.cell? ⟨w.heap.size + 1, 0, none⟩ = some (.slice A1 l1.length c1) ∧ w'.cell? ⟨w.heap.size + 1, 1, none⟩ = some (.int .i64 h) ∧ w'.cell? ⟨bS, 0, none⟩ = some (.int .i64 re0) ∧ w'.cell? ⟨bS, 1, none⟩ = some (.int .i64 re1) ∧ w'.cell? ⟨bS, 2, none⟩ = some (.string re2) ∧ w'.cell? ⟨bS, 3, none⟩ = some (.slice S0 r0.length eS0) ∧ w'.cell? ⟨w4.heap.size, 0, none⟩ = some (.slice X0 m0.length eX0) ∧ w'.cell? ⟨w4.heap.size, 1, none⟩ = some (.int .i64 d) ∧ w'.cell? ⟨w4.heap.size, 2, none⟩ = some (.int .i64 c) ∧ w'.cell? ⟨w6.heap.size, 0, none⟩ = some (.slice X1 m1.length eX1) ∧ w'.cell? ⟨w6.heap.size, 1, none⟩ = some (.int .i64 h) ∧ w'.cell? ⟨w8.heap.size, 0, none⟩ = some (.int .i64 re0) ∧ w'.cell? ⟨w8.heap.size, 1, none⟩ = some (.int .i64 re1) ∧ w'.cell? ⟨w8.heap.size, 2, none⟩ = some (.string re2) ∧ w'.cell? ⟨w8.heap.size, 3, none⟩ = some (.slice G0 r0.length eG0)) ((first | go_keep | exact ⟨pw_cell_below hb (by assumption), pw_cell_below hb (by assumption), pw_cell_below hb (by assumption), pw_cell_below hb (by assumption), pw_cell_below hb (by assumption), pw_cell_below hb (by assumption), pw_cell_below hb (by assumption), pw_cell_below hb (by assumption), pw_cell_below hb (by assumption), pw_cell_below hb (by assumption), pw_cell_below hb (by assumption), pw_cell_below hb (by assumption), pw_cell_below hb (by assumption), pw_cell_below hb (by assumption), pw_cell_below hb (by assumption), pw_cell_below hb (by assumption), pw_cell_below hb (by assumption), pw_cell_below hb (by assumption)⟩ | (have hH := ‹_ ∧ _›; obtain ⟨t0, t1, t2, t3, t4, t5, t6, t7, t8, t9, t10, t11, t12, t13, t14, t15, t16, t17⟩ := hH; exact ⟨pw_cell_below hb t0, pw_cell_below hb t1, pw_cell_below hb t2, pw_cell_below hb t3, pw_cell_below hb t4, pw_cell_below hb t5, pw_cell_below hb t6, pw_cell_below hb t7, pw_cell_below hb t8, pw_cell_below hb t9, pw_cell_below hb t10, pw_cell_below hb t11, pw_cell_below hb t12, pw_cell_below hb t13, pw_cell_below hb t14, pw_cell_below hb t15, pw_cell_below hb t16, pw_cell_below hb t17⟩)))
    ((first | (go_at_call 37; refine (laws_toFrame.calls kBig A0 c0 l0 d c m0 d c _ (Kd.C_below H0.out (by repeat (first | exact HB.out | refine below_drew1 ?_ | refine pw_below_drewN ?_ _))) C0.out TB0.out).mono ?_; rintro x wA ⟨v0, rfl, hR, hb⟩; obtain ⟨P, q, rfl, n0, g0⟩ := Kd.R_reads hR; have KKq0 := Aside0.mk g0; have HVAq0 := Aside0.mk (below_into (w := w10) hb (by repeat (first | exact HV.out | refine below_drew1 ?_ | refine pw_below_drewN ?_ _))); clear hR g0 n0) | (go_at_call 41; refine (laws_eqFrame.calls X0 eX0 m0 d c P q m0 d c _ (Kd.C_below ((Kd.R_reads' RX0.out).2.2) (by repeat (first | exact HV.out | exact HVAq0.out | refine below_drew1 ?_ | refine pw_below_drewN ?_ _))) (Kd.C_below KKq0.out (by repeat (first | exact Below.refl _ _ | refine below_drew1 ?_ | refine pw_below_drewN ?_ _)))).mono ?_; rintro x w11 ⟨rfl, hb⟩; have HVE0 := Aside0.mk (below_into (w := w10) hb (by repeat (first | exact HV.out | exact HVAq0.out | refine below_drew1 ?_ | refine pw_below_drewN ?_ _))))))
  clear f0_0 f0_1 f0_2 f1_0 f1_1 s_0 s_1 s_2 s_3 x0 x1 x2 y0 y1 g0 g1 g2 g3
  have hH := ‹_ ∧ _›
  obtain ⟨f0_0, f0_1, f0_2, f1_0, f1_1, s_0, s_1, s_2, s_3, x0, x1, x2, y0, y1, g0, g1, g2, g3⟩ := hH
  have hb := HVE0.out
  replace RS0 := Aside0.mk (Kd.R_below RS0.out hb)
  replace RX0 := Aside0.mk (Kd.R_below RX0.out hb)
  replace RX1 := Aside0.mk (Kd.S_below RX1.out hb)
  replace RG0 := Aside0.mk (Kd.R_below RG0.out hb)
  replace HB := Aside0.mk (below_into (w := w) hb HB.out)
  replace B3 := Aside0.mk (below_into (w := w3) hb B3.out)
  have s_w11 := hb.size
  clear hb HV
  rw [← same_true rfl]
  go_wp2_with fail
  have HV := Aside0.mk (Below.refl w11.heap.size w11)
  go_region_held3 (fun w' => w'.cell? ⟨w.heap.size, 0, none⟩ = some (.slice A0 l0.length c0) ∧ w'.cell? ⟨w.heap.size, 1, none⟩ = some (.int .i64 d) ∧ w'.cell? ⟨w.heap.size, 2, none⟩ = some (.int .i64 c) ∧ w'.cell? ⟨w.heap.size + 1, 0, none⟩ = some (.slice A1 l1.length c1) ∧ w'.cell? ⟨w.heap.size + 1, 1, none⟩ = some (.int .i64 h) ∧ w'.cell? ⟨bS, 0, none⟩ = some (.int .i64 re0) ∧ w'.cell? ⟨bS, 1, none⟩ = some (.int .i64 re1) ∧ w'.cell? ⟨bS, 2, none⟩ = some (.string re2) ∧ w'.cell? ⟨bS, 3, none⟩ = some (.slice S0 r0.length eS0) ∧ w'.cell? ⟨w4.heap.size, 0, none⟩ = some (.slice X0 m0.length eX0) ∧ w'.cell? ⟨w4.heap.size, 1, none⟩ = some (.int .i64 d) ∧ w'.cell? ⟨w4.heap.size, 2, none⟩ = some (.int .i64 c) ∧ w'.cell? ⟨w6.heap.size, 0, none⟩ = some (.slice X1 m1.length eX1) ∧ w'.cell? ⟨w6.heap.size, 1, none⟩ = some (.int .i64 h) ∧ w'.cell? ⟨w8.heap.size, 0, none⟩ = some (.int .i64 re0) ∧ w'.cell? ⟨w8.heap.size, 1, none⟩ = some (.int .i64 re1) ∧ w'.cell? ⟨w8.heap.size, 2, none⟩ = some (.string re2) ∧ w'.cell? ⟨w8.heap.size, 3, none⟩ = some (.slice G0 r0.length eG0)) ((first | go_keep | exact ⟨pw_cell_below hb (by assumption), pw_cell_below hb (by assumption), pw_cell_below hb (by assumption), pw_cell_below hb (by assumption), pw_cell_below hb (by assumption), pw_cell_below hb (by assumption), pw_cell_below hb (by assumption), pw_cell_below hb (by assumption), pw_cell_below hb (by assumption), pw_cell_below hb (by assumption), pw_cell_below hb (by assumption), pw_cell_below hb (by assumption), pw_cell_below hb (by assumption), pw_cell_below hb (by assumption), pw_cell_below hb (by assumption), pw_cell_below hb (by assumption), pw_cell_below hb (by assumption), pw_cell_below hb (by assumption)⟩ | (have hH := ‹_ ∧ _›; obtain ⟨t0, t1, t2, t3, t4, t5, t6, t7, t8, t9, t10, t11, t12, t13, t14, t15, t16, t17⟩ := hH; exact ⟨pw_cell_below hb t0, pw_cell_below hb t1, pw_cell_below hb t2, pw_cell_below hb t3, pw_cell_below hb t4, pw_cell_below hb t5, pw_cell_below hb t6, pw_cell_below hb t7, pw_cell_below hb t8, pw_cell_below hb t9, pw_cell_below hb t10, pw_cell_below hb t11, pw_cell_below hb t12, pw_cell_below hb t13, pw_cell_below hb t14, pw_cell_below hb t15, pw_cell_below hb t16, pw_cell_below hb t17⟩)))
    ((first | (go_at_call 49; refine (laws_toLedger.calls kBig A1 c1 l1 h m1 h _ (Kd.C_below H1.out (by repeat (first | exact HB.out | refine below_drew1 ?_ | refine pw_below_drewN ?_ _))) C1.out TB1.out).mono ?_; rintro x wA ⟨v0, rfl, hR, hb⟩; obtain ⟨P, q, rfl, n0, g0⟩ := Kd.S_reads hR; have KKq1 := Aside0.mk g0; have HVAq1 := Aside0.mk (below_into (w := w11) hb (by repeat (first | exact HV.out | refine below_drew1 ?_ | refine pw_below_drewN ?_ _))); clear hR g0 n0) | (go_at_call 51; refine (laws_eqLedger.calls X1 eX1 m1 h P q m1 h _ (Kd.C_below ((Kd.S_reads' RX1.out).2.2) (by repeat (first | exact HV.out | exact HVAq1.out | refine below_drew1 ?_ | refine pw_below_drewN ?_ _))) (Kd.C_below KKq1.out (by repeat (first | exact Below.refl _ _ | refine below_drew1 ?_ | refine pw_below_drewN ?_ _)))).mono ?_; rintro x w12 ⟨rfl, hb⟩; have HVE1 := Aside0.mk (below_into (w := w11) hb (by repeat (first | exact HV.out | exact HVAq1.out | refine below_drew1 ?_ | refine pw_below_drewN ?_ _))))))
  clear f0_0 f0_1 f0_2 f1_0 f1_1 s_0 s_1 s_2 s_3 x0 x1 x2 y0 y1 g0 g1 g2 g3
  have hH := ‹_ ∧ _›
  obtain ⟨f0_0, f0_1, f0_2, f1_0, f1_1, s_0, s_1, s_2, s_3, x0, x1, x2, y0, y1, g0, g1, g2, g3⟩ := hH
  have hb := HVE1.out
  replace RS0 := Aside0.mk (Kd.R_below RS0.out hb)
  replace RX0 := Aside0.mk (Kd.R_below RX0.out hb)
  replace RX1 := Aside0.mk (Kd.S_below RX1.out hb)
  replace RG0 := Aside0.mk (Kd.R_below RG0.out hb)
  replace HB := Aside0.mk (below_into (w := w) hb HB.out)
  replace B3 := Aside0.mk (below_into (w := w3) hb B3.out)
  have s_w12 := hb.size
  clear hb HV
  rw [← same_true rfl]
  go_wp2_with fail
  refine (laws_markFrame.calls kBig (Iv w3.heap.size w4.heap.size) (.slice X0 m0.length eX0) m0 d c 1 _ _ w3 _ B3.out RX0.out (laws_markFrame_is m0 d c kBig 1 (Nat.lt_of_lt_of_le (by have := ML0.out; omega) kBig_le) ML0.out (by omega) (by omega))).mono ?_
  rintro x w13 ⟨rfl, hR, hB3, hK⟩
  replace f0_0 := cell_iv_kept f0_0 hK (by first | exact Or.inl (show w.heap.size < w3.heap.size by omega) | exact Or.inr (show w4.heap.size ≤ w.heap.size by omega))
  replace f0_1 := cell_iv_kept f0_1 hK (by first | exact Or.inl (show w.heap.size < w3.heap.size by omega) | exact Or.inr (show w4.heap.size ≤ w.heap.size by omega))
  replace f0_2 := cell_iv_kept f0_2 hK (by first | exact Or.inl (show w.heap.size < w3.heap.size by omega) | exact Or.inr (show w4.heap.size ≤ w.heap.size by omega))
  replace f1_0 := cell_iv_kept f1_0 hK (by first | exact Or.inl (show w.heap.size + 1 < w3.heap.size by omega) | exact Or.inr (show w4.heap.size ≤ w.heap.size + 1 by omega))
  replace f1_1 := cell_iv_kept f1_1 hK (by first | exact Or.inl (show w.heap.size + 1 < w3.heap.size by omega) | exact Or.inr (show w4.heap.size ≤ w.heap.size + 1 by omega))
  replace s_0 := cell_iv_kept s_0 hK (by first | exact Or.inl (show bS < w3.heap.size by omega) | exact Or.inr (show w4.heap.size ≤ bS by omega))
  replace s_1 := cell_iv_kept s_1 hK (by first | exact Or.inl (show bS < w3.heap.size by omega) | exact Or.inr (show w4.heap.size ≤ bS by omega))
  replace s_2 := cell_iv_kept s_2 hK (by first | exact Or.inl (show bS < w3.heap.size by omega) | exact Or.inr (show w4.heap.size ≤ bS by omega))
  replace s_3 := cell_iv_kept s_3 hK (by first | exact Or.inl (show bS < w3.heap.size by omega) | exact Or.inr (show w4.heap.size ≤ bS by omega))
  replace x0 := cell_iv_kept x0 hK (by first | exact Or.inl (show w4.heap.size < w3.heap.size by omega) | exact Or.inr (show w4.heap.size ≤ w4.heap.size by omega))
  replace x1 := cell_iv_kept x1 hK (by first | exact Or.inl (show w4.heap.size < w3.heap.size by omega) | exact Or.inr (show w4.heap.size ≤ w4.heap.size by omega))
  replace x2 := cell_iv_kept x2 hK (by first | exact Or.inl (show w4.heap.size < w3.heap.size by omega) | exact Or.inr (show w4.heap.size ≤ w4.heap.size by omega))
  replace y0 := cell_iv_kept y0 hK (by first | exact Or.inl (show w6.heap.size < w3.heap.size by omega) | exact Or.inr (show w4.heap.size ≤ w6.heap.size by omega))
  replace y1 := cell_iv_kept y1 hK (by first | exact Or.inl (show w6.heap.size < w3.heap.size by omega) | exact Or.inr (show w4.heap.size ≤ w6.heap.size by omega))
  replace g0 := cell_iv_kept g0 hK (by first | exact Or.inl (show w8.heap.size < w3.heap.size by omega) | exact Or.inr (show w4.heap.size ≤ w8.heap.size by omega))
  replace g1 := cell_iv_kept g1 hK (by first | exact Or.inl (show w8.heap.size < w3.heap.size by omega) | exact Or.inr (show w4.heap.size ≤ w8.heap.size by omega))
  replace g2 := cell_iv_kept g2 hK (by first | exact Or.inl (show w8.heap.size < w3.heap.size by omega) | exact Or.inr (show w4.heap.size ≤ w8.heap.size by omega))
  replace g3 := cell_iv_kept g3 hK (by first | exact Or.inl (show w8.heap.size < w3.heap.size by omega) | exact Or.inr (show w4.heap.size ≤ w8.heap.size by omega))
  replace RS0 := Aside0.mk (R_iv_kept RS0.out hK (by omega))
  replace RX1 := Aside0.mk (S_iv_kept RX1.out hK (by omega))
  replace RG0 := Aside0.mk (R_iv_kept RG0.out hK (by omega))
  replace B3 := Aside0.mk hB3
  replace HB := Aside0.mk (below_into (w := w) hB3 HBW.out)
  have s_w13 := hK.1
  clear hR hB3 hK RX0
  have nb0 := nAcc_b m0 1
  have nl := ML0.out
  generalize nAll nAcc 1 m0 = K0 at *
  replace nb0 : 1 ≤ K0 ∧ K0 ≤ 3145729 := by omega
  clear nl
  go_wp2_with fail
  refine (laws_markLedger.to (Iv w5.heap.size w6.heap.size) X1 eX1 m1 h K0 w3 _ B3.out RX1.out (by omega) (by omega) ML1.out.1 ML1.out.2).mono ?_
  rintro x w14 ⟨rfl, hR, hB3, hK⟩
  replace f0_0 := cell_iv_kept f0_0 hK (by first | exact Or.inl (show w.heap.size < w5.heap.size by omega) | exact Or.inr (show w6.heap.size ≤ w.heap.size by omega))
  replace f0_1 := cell_iv_kept f0_1 hK (by first | exact Or.inl (show w.heap.size < w5.heap.size by omega) | exact Or.inr (show w6.heap.size ≤ w.heap.size by omega))
  replace f0_2 := cell_iv_kept f0_2 hK (by first | exact Or.inl (show w.heap.size < w5.heap.size by omega) | exact Or.inr (show w6.heap.size ≤ w.heap.size by omega))
  replace f1_0 := cell_iv_kept f1_0 hK (by first | exact Or.inl (show w.heap.size + 1 < w5.heap.size by omega) | exact Or.inr (show w6.heap.size ≤ w.heap.size + 1 by omega))
  replace f1_1 := cell_iv_kept f1_1 hK (by first | exact Or.inl (show w.heap.size + 1 < w5.heap.size by omega) | exact Or.inr (show w6.heap.size ≤ w.heap.size + 1 by omega))
  replace s_0 := cell_iv_kept s_0 hK (by first | exact Or.inl (show bS < w5.heap.size by omega) | exact Or.inr (show w6.heap.size ≤ bS by omega))
  replace s_1 := cell_iv_kept s_1 hK (by first | exact Or.inl (show bS < w5.heap.size by omega) | exact Or.inr (show w6.heap.size ≤ bS by omega))
  replace s_2 := cell_iv_kept s_2 hK (by first | exact Or.inl (show bS < w5.heap.size by omega) | exact Or.inr (show w6.heap.size ≤ bS by omega))
  replace s_3 := cell_iv_kept s_3 hK (by first | exact Or.inl (show bS < w5.heap.size by omega) | exact Or.inr (show w6.heap.size ≤ bS by omega))
  replace x0 := cell_iv_kept x0 hK (by first | exact Or.inl (show w4.heap.size < w5.heap.size by omega) | exact Or.inr (show w6.heap.size ≤ w4.heap.size by omega))
  replace x1 := cell_iv_kept x1 hK (by first | exact Or.inl (show w4.heap.size < w5.heap.size by omega) | exact Or.inr (show w6.heap.size ≤ w4.heap.size by omega))
  replace x2 := cell_iv_kept x2 hK (by first | exact Or.inl (show w4.heap.size < w5.heap.size by omega) | exact Or.inr (show w6.heap.size ≤ w4.heap.size by omega))
  replace y0 := cell_iv_kept y0 hK (by first | exact Or.inl (show w6.heap.size < w5.heap.size by omega) | exact Or.inr (show w6.heap.size ≤ w6.heap.size by omega))
  replace y1 := cell_iv_kept y1 hK (by first | exact Or.inl (show w6.heap.size < w5.heap.size by omega) | exact Or.inr (show w6.heap.size ≤ w6.heap.size by omega))
  replace g0 := cell_iv_kept g0 hK (by first | exact Or.inl (show w8.heap.size < w5.heap.size by omega) | exact Or.inr (show w6.heap.size ≤ w8.heap.size by omega))
  replace g1 := cell_iv_kept g1 hK (by first | exact Or.inl (show w8.heap.size < w5.heap.size by omega) | exact Or.inr (show w6.heap.size ≤ w8.heap.size by omega))
  replace g2 := cell_iv_kept g2 hK (by first | exact Or.inl (show w8.heap.size < w5.heap.size by omega) | exact Or.inr (show w6.heap.size ≤ w8.heap.size by omega))
  replace g3 := cell_iv_kept g3 hK (by first | exact Or.inl (show w8.heap.size < w5.heap.size by omega) | exact Or.inr (show w6.heap.size ≤ w8.heap.size by omega))
  replace RS0 := Aside0.mk (R_iv_kept RS0.out hK (by omega))
  replace RG0 := Aside0.mk (R_iv_kept RG0.out hK (by omega))
  replace B3 := Aside0.mk hB3
  replace HB := Aside0.mk (below_into (w := w) hB3 HBW.out)
  have s_w14 := hK.1
  clear hR hB3 hK RX1
  have nb1 := nEnt_b m1 ML1.out.2 K0
  have nl := ML1.out.1
  generalize nAll nEnt K0 m1 = K1 at *
  replace nb1 : 1 ≤ K1 ∧ K1 ≤ 5497564430337 := by omega
  clear nl
  have nb_ : decide (K1 < 0) = false := decide_eq_false (by omega)
  go_wp2_with fail
  refine (laws_eqEntry.calls re0 re1 re2 G0 eG0 r0 re0 re1 re2 S0 eS0 r0 _ ((Kd.R_reads' RG0.out).2.2) ((Kd.R_reads' RS0.out).2.2)).mono ?_
  rintro x w15 ⟨rfl, hb⟩
  replace f0_0 := pw_cell_below hb f0_0
  replace f0_1 := pw_cell_below hb f0_1
  replace f0_2 := pw_cell_below hb f0_2
  replace f1_0 := pw_cell_below hb f1_0
  replace f1_1 := pw_cell_below hb f1_1
  replace s_0 := pw_cell_below hb s_0
  replace s_1 := pw_cell_below hb s_1
  replace s_2 := pw_cell_below hb s_2
  replace s_3 := pw_cell_below hb s_3
  replace x0 := pw_cell_below hb x0
  replace x1 := pw_cell_below hb x1
  replace x2 := pw_cell_below hb x2
  replace y0 := pw_cell_below hb y0
  replace y1 := pw_cell_below hb y1
  replace g0 := pw_cell_below hb g0
  replace g1 := pw_cell_below hb g1
  replace g2 := pw_cell_below hb g2
  replace g3 := pw_cell_below hb g3
  replace RS0 := Aside0.mk (Kd.R_below RS0.out hb)
  replace RG0 := Aside0.mk (Kd.R_below RG0.out hb)
  replace HB := Aside0.mk (below_into (w := w) hb HB.out)
  replace B3 := Aside0.mk (below_into (w := w3) hb B3.out)
  have s_w15 := hb.size
  clear hb
  rw [← same_true rfl]
  clear nb_
  go_wp2_with fail
  refine (laws_markEntry.calls kBig re0 re1 re2 (Iv w7.heap.size w8.heap.size) (.slice G0 r0.length eG0) r0 1 _ _ w3 _ B3.out RG0.out (laws_markEntry_is re0 re1 re2 r0 kBig 1 (Nat.lt_of_lt_of_le (by have := RL.out; omega) kBig_le) RL.out (by omega) (by omega))).mono ?_
  rintro x w16 ⟨rfl, hR, hB3, hK⟩
  have RM0 := Aside0.mk (R_iv_mark rfl RG0.out hR)
  replace f0_0 := cell_iv_kept f0_0 hK (by first | exact Or.inl (show w.heap.size < w7.heap.size by omega) | exact Or.inr (show w8.heap.size ≤ w.heap.size by omega))
  replace f0_1 := cell_iv_kept f0_1 hK (by first | exact Or.inl (show w.heap.size < w7.heap.size by omega) | exact Or.inr (show w8.heap.size ≤ w.heap.size by omega))
  replace f0_2 := cell_iv_kept f0_2 hK (by first | exact Or.inl (show w.heap.size < w7.heap.size by omega) | exact Or.inr (show w8.heap.size ≤ w.heap.size by omega))
  replace f1_0 := cell_iv_kept f1_0 hK (by first | exact Or.inl (show w.heap.size + 1 < w7.heap.size by omega) | exact Or.inr (show w8.heap.size ≤ w.heap.size + 1 by omega))
  replace f1_1 := cell_iv_kept f1_1 hK (by first | exact Or.inl (show w.heap.size + 1 < w7.heap.size by omega) | exact Or.inr (show w8.heap.size ≤ w.heap.size + 1 by omega))
  replace s_0 := cell_iv_kept s_0 hK (by first | exact Or.inl (show bS < w7.heap.size by omega) | exact Or.inr (show w8.heap.size ≤ bS by omega))
  replace s_1 := cell_iv_kept s_1 hK (by first | exact Or.inl (show bS < w7.heap.size by omega) | exact Or.inr (show w8.heap.size ≤ bS by omega))
  replace s_2 := cell_iv_kept s_2 hK (by first | exact Or.inl (show bS < w7.heap.size by omega) | exact Or.inr (show w8.heap.size ≤ bS by omega))
  replace s_3 := cell_iv_kept s_3 hK (by first | exact Or.inl (show bS < w7.heap.size by omega) | exact Or.inr (show w8.heap.size ≤ bS by omega))
  replace x0 := cell_iv_kept x0 hK (by first | exact Or.inl (show w4.heap.size < w7.heap.size by omega) | exact Or.inr (show w8.heap.size ≤ w4.heap.size by omega))
  replace x1 := cell_iv_kept x1 hK (by first | exact Or.inl (show w4.heap.size < w7.heap.size by omega) | exact Or.inr (show w8.heap.size ≤ w4.heap.size by omega))
  replace x2 := cell_iv_kept x2 hK (by first | exact Or.inl (show w4.heap.size < w7.heap.size by omega) | exact Or.inr (show w8.heap.size ≤ w4.heap.size by omega))
  replace y0 := cell_iv_kept y0 hK (by first | exact Or.inl (show w6.heap.size < w7.heap.size by omega) | exact Or.inr (show w8.heap.size ≤ w6.heap.size by omega))
  replace y1 := cell_iv_kept y1 hK (by first | exact Or.inl (show w6.heap.size < w7.heap.size by omega) | exact Or.inr (show w8.heap.size ≤ w6.heap.size by omega))
  replace g0 := cell_iv_kept g0 hK (by first | exact Or.inl (show w8.heap.size < w7.heap.size by omega) | exact Or.inr (show w8.heap.size ≤ w8.heap.size by omega))
  replace g1 := cell_iv_kept g1 hK (by first | exact Or.inl (show w8.heap.size < w7.heap.size by omega) | exact Or.inr (show w8.heap.size ≤ w8.heap.size by omega))
  replace g2 := cell_iv_kept g2 hK (by first | exact Or.inl (show w8.heap.size < w7.heap.size by omega) | exact Or.inr (show w8.heap.size ≤ w8.heap.size by omega))
  replace g3 := cell_iv_kept g3 hK (by first | exact Or.inl (show w8.heap.size < w7.heap.size by omega) | exact Or.inr (show w8.heap.size ≤ w8.heap.size by omega))
  replace RS0 := Aside0.mk (R_iv_kept RS0.out hK (by omega))
  replace B3 := Aside0.mk hB3
  replace HB := Aside0.mk (below_into (w := w) hB3 HBW.out)
  have s_w16 := hK.1
  clear hR hB3 hK RG0
  have nb := nLine_b r0 1
  have nl := RL.out
  have HLD := Aside0.mk (fun (W : World) (hC : Kd.C k112 W G0 r0.length (mAll mLine nLine 1 r0)) => heldEntry_from re0 re1 re2 G0 eG0 r0 1 W hC NG0.out RL.out (by omega) (by omega))
  have NM := Aside0.mk (mAll_length mLine nLine r0 1)
  generalize nAll nLine 1 r0 = Q at *
  generalize mAll mLine nLine 1 r0 = M0 at *
  have nq : decide (Q < 0) = false := decide_eq_false (by omega)
  clear nl nb
  go_wp2_with fail
  refine (HLD.out _ (by have hC := (Kd.R_reads' RM0.out).2.2; rw [NM.out] at hC; exact hC)).mono ?_
  rintro x w17 ⟨rfl, hb⟩
  replace f0_0 := pw_cell_below hb f0_0
  replace f0_1 := pw_cell_below hb f0_1
  replace f0_2 := pw_cell_below hb f0_2
  replace f1_0 := pw_cell_below hb f1_0
  replace f1_1 := pw_cell_below hb f1_1
  replace s_0 := pw_cell_below hb s_0
  replace s_1 := pw_cell_below hb s_1
  replace s_2 := pw_cell_below hb s_2
  replace s_3 := pw_cell_below hb s_3
  replace x0 := pw_cell_below hb x0
  replace x1 := pw_cell_below hb x1
  replace x2 := pw_cell_below hb x2
  replace y0 := pw_cell_below hb y0
  replace y1 := pw_cell_below hb y1
  replace g0 := pw_cell_below hb g0
  replace g1 := pw_cell_below hb g1
  replace g2 := pw_cell_below hb g2
  replace g3 := pw_cell_below hb g3
  replace RS0 := Aside0.mk (Kd.R_below RS0.out hb)
  replace RM0 := Aside0.mk (Kd.R_below RM0.out hb)
  replace HB := Aside0.mk (below_into (w := w) hb HB.out)
  replace B3 := Aside0.mk (below_into (w := w3) hb B3.out)
  have s_w17 := hb.size
  clear hb
  have zz_f0_0 := World.block_lt_of_cell? _ _ f0_0
  have zz_f1_0 := World.block_lt_of_cell? _ _ f1_0
  have zz_s_0 := World.block_lt_of_cell? _ _ s_0
  have zz_x0 := World.block_lt_of_cell? _ _ x0
  have zz_y0 := World.block_lt_of_cell? _ _ y0
  have zz_g0 := World.block_lt_of_cell? _ _ g0
  go_upto_region 31 with fail
  have HV := Aside0.mk (Below.refl w17.heap.size w17)
  go_cut [19, 20] (fun s10_ s11_ wx => ∃ (b_ : Nat) (A_ : Option Addr) (c_ : Nat), s10_ = .pointer (some ⟨b_, 0, none⟩) ∧ s11_ = .bool rk ∧ w17.heap.size ≤ b_ ∧ wx.heap[b_]? = some (.cells #[.int .i64 re0, .int .i64 re1, .string re2, .slice A_ r0.length c_] 34 (0, 0)) ∧ Aside0 (r0.length ≤ c_) ∧ Aside0 (Kd.R k112 112 wx w17.heap.size (Iv w17.heap.size wx.heap.size) (.slice A_ r0.length c_) r0) ∧ Aside0 (Below w17.heap.size w17 wx))
  case first =>
    go_region_held3 (fun w' => w'.cell? ⟨w.heap.size, 0, none⟩ = some (.slice A0 l0.length c0) ∧ w'.cell? ⟨w.heap.size, 1, none⟩ = some (.int .i64 d) ∧ w'.cell? ⟨w.heap.size, 2, none⟩ = some (.int .i64 c) ∧ w'.cell? ⟨w.heap.size + 1, 0, none⟩ = some (.slice A1 l1.length c1) ∧ w'.cell? ⟨w.heap.size + 1, 1, none⟩ = some (.int .i64 h) ∧ w'.cell? ⟨bS, 0, none⟩ = some (.int .i64 re0) ∧ w'.cell? ⟨bS, 1, none⟩ = some (.int .i64 re1) ∧ w'.cell? ⟨bS, 2, none⟩ = some (.string re2) ∧ w'.cell? ⟨bS, 3, none⟩ = some (.slice S0 r0.length eS0) ∧ w'.cell? ⟨w4.heap.size, 0, none⟩ = some (.slice X0 m0.length eX0) ∧ w'.cell? ⟨w4.heap.size, 1, none⟩ = some (.int .i64 d) ∧ w'.cell? ⟨w4.heap.size, 2, none⟩ = some (.int .i64 c) ∧ w'.cell? ⟨w6.heap.size, 0, none⟩ = some (.slice X1 m1.length eX1) ∧ w'.cell? ⟨w6.heap.size, 1, none⟩ = some (.int .i64 h) ∧ w'.cell? ⟨w8.heap.size, 0, none⟩ = some (.int .i64 re0) ∧ w'.cell? ⟨w8.heap.size, 1, none⟩ = some (.int .i64 re1) ∧ w'.cell? ⟨w8.heap.size, 2, none⟩ = some (.string re2) ∧ w'.cell? ⟨w8.heap.size, 3, none⟩ = some (.slice G0 r0.length eG0)) ((first | (have hH := ‹_ ∧ _›; obtain ⟨t0, t1, t2, t3, t4, t5, t6, t7, t8, t9, t10, t11, t12, t13, t14, t15, t16, t17⟩ := hH; first | (with_reducible exact ⟨pw_cell_below hb t0, pw_cell_below hb t1, pw_cell_below hb t2, pw_cell_below hb t3, pw_cell_below hb t4, pw_cell_below hb t5, pw_cell_below hb t6, pw_cell_below hb t7, pw_cell_below hb t8, pw_cell_below hb t9, pw_cell_below hb t10, pw_cell_below hb t11, pw_cell_below hb t12, pw_cell_below hb t13, pw_cell_below hb t14, pw_cell_below hb t15, pw_cell_below hb t16, pw_cell_below hb t17⟩) | (with_reducible exact ⟨pw_cell_below (below_alloc (Below.refl _ _) _) t0, pw_cell_below (below_alloc (Below.refl _ _) _) t1, pw_cell_below (below_alloc (Below.refl _ _) _) t2, pw_cell_below (below_alloc (Below.refl _ _) _) t3, pw_cell_below (below_alloc (Below.refl _ _) _) t4, pw_cell_below (below_alloc (Below.refl _ _) _) t5, pw_cell_below (below_alloc (Below.refl _ _) _) t6, pw_cell_below (below_alloc (Below.refl _ _) _) t7, pw_cell_below (below_alloc (Below.refl _ _) _) t8, pw_cell_below (below_alloc (Below.refl _ _) _) t9, pw_cell_below (below_alloc (Below.refl _ _) _) t10, pw_cell_below (below_alloc (Below.refl _ _) _) t11, pw_cell_below (below_alloc (Below.refl _ _) _) t12, pw_cell_below (below_alloc (Below.refl _ _) _) t13, pw_cell_below (below_alloc (Below.refl _ _) _) t14, pw_cell_below (below_alloc (Below.refl _ _) _) t15, pw_cell_below (below_alloc (Below.refl _ _) _) t16, pw_cell_below (below_alloc (Below.refl _ _) _) t17⟩) | (with_reducible exact ⟨t0, t1, t2, t3, t4, t5, t6, t7, t8, t9, t10, t11, t12, t13, t14, t15, t16, t17⟩) | (with_reducible refine ⟨cell_alloc2 t0 ?_, cell_alloc2 t1 ?_, cell_alloc2 t2 ?_, cell_alloc2 t3 ?_, cell_alloc2 t4 ?_, cell_alloc2 t5 ?_, cell_alloc2 t6 ?_, cell_alloc2 t7 ?_, cell_alloc2 t8 ?_, cell_alloc2 t9 ?_, cell_alloc2 t10 ?_, cell_alloc2 t11 ?_, cell_alloc2 t12 ?_, cell_alloc2 t13 ?_, cell_alloc2 t14 ?_, cell_alloc2 t15 ?_, cell_alloc2 t16 ?_, cell_alloc2 t17 ?_⟩ <;> (first | omega | (simp; omega))) | (refine ⟨?_, ?_, ?_, ?_, ?_, ?_, ?_, ?_, ?_, ?_, ?_, ?_, ?_, ?_, ?_, ?_, ?_, ?_⟩ <;> ((repeat (with_reducible refine cell_off ?_ _ ?_; (· (first | omega | (simp; omega))))); assumption))) | go_keep))
     ((first | (go_at_call 37; refine (laws_toFrame.calls kBig A0 c0 l0 d c m0 d c _ (Kd.C_below H0.out (by with_reducible repeat (first | exact HB.out | exact below_into HVBt.out HB.out | refine below_drew1 ?_ | refine pw_below_drewN ?_ _ | refine below_alloc ?_ _))) C0.out TB0.out).mono ?_; rintro x wAt ⟨v0, rfl, hR, hb⟩; obtain ⟨P0t, p0t, rfl, n0, g0⟩ := Kd.R_reads hR; have KK0t := Aside0.mk g0; have KN0t := Aside0.mk n0; have HVAt := Aside0.mk (below_into (w := w17) hb (by with_reducible repeat (first | exact HV.out | exact HVBt.out | refine below_drew1 ?_ | refine pw_below_drewN ?_ _ | refine below_alloc ?_ _))); have SZAt := HVAt.out.size; (try replace KK1t := Aside0.mk (Kd.C_below KK1t.out (below_into hb (by with_reducible repeat (first | exact Below.refl _ _ | refine below_drew1 ?_ | refine pw_below_drewN ?_ _ | refine below_alloc ?_ _))))); (first | (have BK : wAt.heap[w17.heap.size]? = some (.cells #[.int .i64 0, .int .i64 0, .string ⟨#[]⟩, .slice none 0 0] 34 (0, 0)) := blk_below ?_ hb; rotate_left; (· (with_reducible repeat (first | exact BK | exact blk_new _ _ | refine blk_drewN ?_ _ | refine blk_drew ?_)))) | (have BK : wAt.heap[wBt.heap.size]? = some (.cells #[.int .i64 0, .int .i64 0, .string ⟨#[]⟩, .slice none 0 0] 34 (0, 0)) := blk_below ?_ hb; rotate_left; (· (with_reducible repeat (first | exact BK | exact blk_new _ _ | refine blk_drewN ?_ _ | refine blk_drew ?_)))) | skip); (try (have Y0 := (blk_cell BK 0).trans (show _ = some (.int .i64 0) from rfl); have Z0 := blk_frozen BK 0; have Y1 := (blk_cell BK 1).trans (show _ = some (.int .i64 0) from rfl); have Z1 := blk_frozen BK 1; have Y2 := (blk_cell BK 2).trans (show _ = some (.string ⟨#[]⟩) from rfl); have Z2 := blk_frozen BK 2; have Y3 := (blk_cell BK 3).trans (show _ = some (.slice none 0 0) from rfl); have Z3 := blk_frozen BK 3)); clear hR g0 n0) | (go_at_call 49; refine (laws_toLedger.calls kBig A1 c1 l1 h m1 h _ (Kd.C_below H1.out (by with_reducible repeat (first | exact HB.out | exact below_into HVAt.out HB.out | refine below_drew1 ?_ | refine pw_below_drewN ?_ _ | refine below_alloc ?_ _))) C1.out TB1.out).mono ?_; rintro x wBt ⟨v1, rfl, hR, hb⟩; obtain ⟨P1t, p1t, rfl, n0, g0⟩ := Kd.S_reads hR; have KK1t := Aside0.mk g0; have KN1t := Aside0.mk n0; have HVBt := Aside0.mk (below_into (w := w17) hb (by with_reducible repeat (first | exact HV.out | exact HVAt.out | refine below_drew1 ?_ | refine pw_below_drewN ?_ _ | refine below_alloc ?_ _))); have SZBt := HVBt.out.size; (try replace KK0t := Aside0.mk (Kd.C_below KK0t.out (below_into hb (by with_reducible repeat (first | exact Below.refl _ _ | refine below_drew1 ?_ | refine pw_below_drewN ?_ _ | refine below_alloc ?_ _))))); (first | (have BK : wBt.heap[w17.heap.size]? = some (.cells #[.int .i64 0, .int .i64 0, .string ⟨#[]⟩, .slice none 0 0] 34 (0, 0)) := blk_below ?_ hb; rotate_left; (· (with_reducible repeat (first | exact BK | exact blk_new _ _ | refine blk_drewN ?_ _ | refine blk_drew ?_)))) | (have BK : wBt.heap[wAt.heap.size]? = some (.cells #[.int .i64 0, .int .i64 0, .string ⟨#[]⟩, .slice none 0 0] 34 (0, 0)) := blk_below ?_ hb; rotate_left; (· (with_reducible repeat (first | exact BK | exact blk_new _ _ | refine blk_drewN ?_ _ | refine blk_drew ?_)))) | skip); (try (have Y0 := (blk_cell BK 0).trans (show _ = some (.int .i64 0) from rfl); have Z0 := blk_frozen BK 0; have Y1 := (blk_cell BK 1).trans (show _ = some (.int .i64 0) from rfl); have Z1 := blk_frozen BK 1; have Y2 := (blk_cell BK 2).trans (show _ = some (.string ⟨#[]⟩) from rfl); have Z2 := blk_frozen BK 2; have Y3 := (blk_cell BK 3).trans (show _ = some (.slice none 0 0) from rfl); have Z3 := blk_frozen BK 3)); clear hR g0 n0) | (go_at_call 16; refine (impl_Reverse.calls kBig P0t p0t m0 d c P1t p1t m1 h at_ day re0 re1 re2 r0 rk _ (Kd.C_below KK0t.out (by with_reducible repeat (first | exact Below.refl _ _ | refine below_drew1 ?_ | refine pw_below_drewN ?_ _ | refine below_alloc ?_ _))) KN0t.out (Kd.C_below KK1t.out (by with_reducible repeat (first | exact Below.refl _ _ | refine below_drew1 ?_ | refine pw_below_drewN ?_ _ | refine below_alloc ?_ _))) KN1t.out IT.out).mono ?_; rintro x wF ⟨vs, rfl, hR, hb⟩; obtain ⟨F0, eF0, rfl, n0, g0⟩ := Kd.R_reads hR; have NF := Aside0.mk n0; have KF := Aside0.mk g0; have HVF := Aside0.mk (below_into (w := w17) hb (by with_reducible repeat (first | exact HV.out | exact HVAt.out | exact HVBt.out | refine below_drew1 ?_ | refine pw_below_drewN ?_ _ | refine below_alloc ?_ _))); have RRF := Aside0.mk (R_iv hR); have SZF := HVF.out.size; have SBF := below_start hb (show Below w17.heap.size w17 _ from (by with_reducible repeat (first | exact HV.out | exact HVAt.out | exact HVBt.out | refine below_drew1 ?_ | refine pw_below_drewN ?_ _ | refine below_alloc ?_ _))); (first | (have BK : wF.heap[w17.heap.size]? = some (.cells #[.int .i64 0, .int .i64 0, .string ⟨#[]⟩, .slice none 0 0] 34 (0, 0)) := blk_below ?_ hb; rotate_left; (· (with_reducible repeat (first | exact BK | exact blk_new _ _ | refine blk_drewN ?_ _ | refine blk_drew ?_)))) | (have BK : wF.heap[wAt.heap.size]? = some (.cells #[.int .i64 0, .int .i64 0, .string ⟨#[]⟩, .slice none 0 0] 34 (0, 0)) := blk_below ?_ hb; rotate_left; (· (with_reducible repeat (first | exact BK | exact blk_new _ _ | refine blk_drewN ?_ _ | refine blk_drew ?_)))) | (have BK : wF.heap[wBt.heap.size]? = some (.cells #[.int .i64 0, .int .i64 0, .string ⟨#[]⟩, .slice none 0 0] 34 (0, 0)) := blk_below ?_ hb; rotate_left; (· (with_reducible repeat (first | exact BK | exact blk_new _ _ | refine blk_drewN ?_ _ | refine blk_drew ?_)))) | skip); (try (have Y0 := (blk_cell BK 0).trans (show _ = some (.int .i64 0) from rfl); have Z0 := blk_frozen BK 0; have Y1 := (blk_cell BK 1).trans (show _ = some (.int .i64 0) from rfl); have Z1 := blk_frozen BK 1; have Y2 := (blk_cell BK 2).trans (show _ = some (.string ⟨#[]⟩) from rfl); have Z2 := blk_frozen BK 2; have Y3 := (blk_cell BK 3).trans (show _ = some (.slice none 0 0) from rfl); have Z3 := blk_frozen BK 3)); clear hR n0 g0)))
    all_goals (try go_wp2_with fail)
    all_goals go_meet
    all_goals (
      refine ⟨_, F0, eF0, rfl, rfl, ?_, ?_, NF, ⟨?_⟩, ⟨?_⟩⟩
      · first | exact Nat.le_refl _ | exact SZF | exact SZAt | exact SZBt | omega
      · (with_reducible repeat (first | refine blk_drewN ?_ _ | refine blk_drew ?_)); first | exact blk4 BK _ _ _ _ | exact blk_new _ _
      · (with_reducible repeat (first | refine Kd.R_drewN ?_ _ | refine Kd.R_drew ?_))
        have RX := R_iv_lower RRF.out SBF (Nat.le_refl _)
        first | exact Kd.R_mono (R_put4 RX BK (by decide) _ _ _ _) (fun k hk => ⟨hk.1, Nat.lt_of_lt_of_le hk.2 (by simp)⟩) | exact Kd.R_mono (Kd.R_alloc RX _) (fun k hk => ⟨hk.1, Nat.lt_of_lt_of_le hk.2 (by simp)⟩)
      · (with_reducible repeat (first | refine pw_below_drewN ?_ _ | refine below_drew1 ?_)); first | exact below_put4 HVF.out (by first | exact Nat.le_refl _ | exact HVAt.out.size | exact HVBt.out.size ) _ _ _ _ | exact below_alloc HVF.out _)
  obtain ⟨bF, F0, eF0, rfl, rfl, hble, hblk, NF, RF0, HVF⟩ := hcut
  obtain ⟨w18, rfl⟩ : ∃ W_ : World, W_ = wc := ⟨_, rfl⟩
  have hb := HVF.out
  replace f0_0 := pw_cell_below hb f0_0
  replace f0_1 := pw_cell_below hb f0_1
  replace f0_2 := pw_cell_below hb f0_2
  replace f1_0 := pw_cell_below hb f1_0
  replace f1_1 := pw_cell_below hb f1_1
  replace s_0 := pw_cell_below hb s_0
  replace s_1 := pw_cell_below hb s_1
  replace s_2 := pw_cell_below hb s_2
  replace s_3 := pw_cell_below hb s_3
  replace x0 := pw_cell_below hb x0
  replace x1 := pw_cell_below hb x1
  replace x2 := pw_cell_below hb x2
  replace y0 := pw_cell_below hb y0
  replace y1 := pw_cell_below hb y1
  replace g0 := pw_cell_below hb g0
  replace g1 := pw_cell_below hb g1
  replace g2 := pw_cell_below hb g2
  replace g3 := pw_cell_below hb g3
  replace RS0 := Aside0.mk (Kd.R_below RS0.out hb)
  replace RM0 := Aside0.mk (Kd.R_below RM0.out hb)
  replace HB := Aside0.mk (below_into (w := w) hb HB.out)
  replace B3 := Aside0.mk (below_into (w := w3) hb B3.out)
  have f_0 : w18.cell? ⟨bF, 0, none⟩ = some (.int .i64 re0) := (blk_cell hblk 0).trans rfl
  have f_1 : w18.cell? ⟨bF, 1, none⟩ = some (.int .i64 re1) := (blk_cell hblk 1).trans rfl
  have f_2 : w18.cell? ⟨bF, 2, none⟩ = some (.string re2) := (blk_cell hblk 2).trans rfl
  have f_3 : w18.cell? ⟨bF, 3, none⟩ = some (.slice F0 r0.length eF0) := (blk_cell hblk 3).trans rfl
  have z_F := blk_lt hblk
  have s_w18 := hb.size
  clear hb hblk HV HVF
  go_wp2_with fail
  refine (laws_eqEntry.calls re0 re1 re2 F0 eF0 r0 re0 re1 re2 S0 eS0 r0 _ ((Kd.R_reads' RF0.out).2.2) ((Kd.R_reads' RS0.out).2.2)).mono ?_
  rintro x w19 ⟨rfl, hb⟩
  replace f0_0 := pw_cell_below hb f0_0
  replace f0_1 := pw_cell_below hb f0_1
  replace f0_2 := pw_cell_below hb f0_2
  replace f1_0 := pw_cell_below hb f1_0
  replace f1_1 := pw_cell_below hb f1_1
  replace s_0 := pw_cell_below hb s_0
  replace s_1 := pw_cell_below hb s_1
  replace s_2 := pw_cell_below hb s_2
  replace s_3 := pw_cell_below hb s_3
  replace x0 := pw_cell_below hb x0
  replace x1 := pw_cell_below hb x1
  replace x2 := pw_cell_below hb x2
  replace y0 := pw_cell_below hb y0
  replace y1 := pw_cell_below hb y1
  replace g0 := pw_cell_below hb g0
  replace g1 := pw_cell_below hb g1
  replace g2 := pw_cell_below hb g2
  replace g3 := pw_cell_below hb g3
  replace f_0 := pw_cell_below hb f_0
  replace f_1 := pw_cell_below hb f_1
  replace f_2 := pw_cell_below hb f_2
  replace f_3 := pw_cell_below hb f_3
  replace RS0 := Aside0.mk (Kd.R_below RS0.out hb)
  replace RM0 := Aside0.mk (Kd.R_below RM0.out hb)
  replace RF0 := Aside0.mk (Kd.R_below RF0.out hb)
  replace HB := Aside0.mk (below_into (w := w) hb HB.out)
  replace B3 := Aside0.mk (below_into (w := w3) hb B3.out)
  have s_w19 := hb.size
  clear hb
  rw [← same_true rfl]
  go_wp2_with fail
  refine (HLD.out _ (by have hC := (Kd.R_reads' RM0.out).2.2; rw [NM.out] at hC; exact hC)).mono ?_
  rintro x w20 ⟨rfl, hb⟩
  replace f0_0 := pw_cell_below hb f0_0
  replace f0_1 := pw_cell_below hb f0_1
  replace f0_2 := pw_cell_below hb f0_2
  replace f1_0 := pw_cell_below hb f1_0
  replace f1_1 := pw_cell_below hb f1_1
  replace s_0 := pw_cell_below hb s_0
  replace s_1 := pw_cell_below hb s_1
  replace s_2 := pw_cell_below hb s_2
  replace s_3 := pw_cell_below hb s_3
  replace x0 := pw_cell_below hb x0
  replace x1 := pw_cell_below hb x1
  replace x2 := pw_cell_below hb x2
  replace y0 := pw_cell_below hb y0
  replace y1 := pw_cell_below hb y1
  replace g0 := pw_cell_below hb g0
  replace g1 := pw_cell_below hb g1
  replace g2 := pw_cell_below hb g2
  replace g3 := pw_cell_below hb g3
  replace f_0 := pw_cell_below hb f_0
  replace f_1 := pw_cell_below hb f_1
  replace f_2 := pw_cell_below hb f_2
  replace f_3 := pw_cell_below hb f_3
  replace RS0 := Aside0.mk (Kd.R_below RS0.out hb)
  replace RM0 := Aside0.mk (Kd.R_below RM0.out hb)
  replace RF0 := Aside0.mk (Kd.R_below RF0.out hb)
  replace HB := Aside0.mk (below_into (w := w) hb HB.out)
  replace B3 := Aside0.mk (below_into (w := w3) hb B3.out)
  have s_w20 := hb.size
  clear hb
  go_wp2_with fail
  go_ret
  exact ⟨rfl, HB.out⟩
end Go.Proofs.Ytphmnkcfjgallaa.Q
