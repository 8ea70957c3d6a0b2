/- Parts of the proof: what functions of the program and of the reference answer.
   No condition. -/
import Derived.Test.YtphmnkcfjgallaaZPost1
import Derived.Test.YtphmnkcfjgallaaZPost14
import Derived.Test.YtphmnkcfjgallaaZPost10
import Derived.Test.YtphmnkcfjgallaaZPost15
import Derived.Test.YtphmnkcfjgallaaZPost7
import Derived.Test.YtphmnkcfjgallaaZPost11
import Derived.Test.YtphmnkcfjgallaaZPost19
import Derived.Test.YtphmnkcfjgallaaZPost12
import Derived.Test.YtphmnkcfjgallaaZPost13
import Derived.Test.YtphmnkcfjgallaaZPost6
import Derived.Test.YtphmnkcfjgallaaZPost17
import Derived.Test.YtphmnkcfjgallaaZPost20
namespace Go.Proofs.Ytphmnkcfjgallaa.Q
open Go.RowKit Go.Proofs.YtphmnkcfjgallaaW.PrintWords Go.Proofs.YtphmnkcfjgallaaW.PrintLast Go.Proofs.YtphmnkcfjgallaaW.PrintMore
set_option linter.unusedVariables false
set_option linter.unusedSimpArgs false
set_option maxHeartbeats 64000000 in
set_option maxRecDepth 100000 in
theorem laws_FnExactPost.to (A0 : Option Addr) (c0 : Nat) (l0 : List S176) (d c : Int) (A1 : Option Addr) (c1 : Nat) (l1 : List S93) (h : Int) (e0 e1 : Int) (e2 : ByteArray) (A2 : Option Addr) (c2 : Nat) (l2 : List S188) (w : World)
    (hr0 : Kd.C k176 w A0 l0.length l0) (hc0 : l0.length ≤ c0) (hr1 : Kd.C k93 w A1 l1.length l1) (hc1 : l1.length ≤ c1) (hr2 : Kd.C k188 w A2 l2.length l2) (hc2 : l2.length ≤ c2) (hw0 : wf59 (⟨l0, d, c⟩ : S59)) (hw1 : wf62 (⟨l1, h⟩ : S62)) (hw2 : wf93 (⟨e0, e1, e2, l2⟩ : S93)) :
    Calls Try.prog 10 #[.agg #[.slice A0 l0.length c0, .int .i64 d, .int .i64 c], .agg #[.slice A1 l1.length c1, .int .i64 h], .agg #[.int .i64 e0, .int .i64 e1, .string e2, .slice A2 l2.length c2]] w fun e w' => e = .returned (.bool true) ∧ Below w.heap.size w w' := by
  have H0 := Aside0.mk hr0
  have C0 := Aside0.mk hc0
  have HW0 := Aside0.mk hw0
  have H1 := Aside0.mk hr1
  have C1 := Aside0.mk hc1
  have HW1 := Aside0.mk hw1
  have H2 := Aside0.mk hr2
  have C2 := Aside0.mk hc2
  have HW2 := Aside0.mk hw2
  have HT0 := Aside0.mk (text_cvAccount hw0.1.2)
  have HT1 := Aside0.mk (text_cvEntry hw1.1.2)
  have HT2 := Aside0.mk (show e2.size ≤ maxLen from hw2.2.2.1)
  have HB := Aside0.mk (below_alloc (below_two w (.cells #[.slice A0 l0.length c0, .int .i64 d, .int .i64 c] 59) (.cells #[.slice A1 l1.length c1, .int .i64 h] 62)) (.cells #[.int .i64 e0, .int .i64 e1, .string e2, .slice A2 l2.length c2] 93))
  clear hr0 hc0 hw0 hr1 hc1 hw1 hr2 hc2 hw2
  go_enter Try.func10, Try.ntmps10
  go_wp2_with fail
  refine (laws_szFrame.calls A0 c0 l0 d c 1048576 _ (Kd.C_below H0.out HB.out) (by omega) (by omega) HW0.out).mono ?_
  rintro x w1 ⟨q0, rfl, q1_0, q2_0, q3, hb⟩
  have f0_0 : w1.cell? ⟨w.heap.size, 0, none⟩ = some (.slice A0 l0.length c0) := pw_cell_below hb (by go_simp)
  have f0_1 : w1.cell? ⟨w.heap.size, 1, none⟩ = some (.int .i64 d) := pw_cell_below hb (by go_simp)
  have f0_2 : w1.cell? ⟨w.heap.size, 2, none⟩ = some (.int .i64 c) := pw_cell_below hb (by go_simp)
  have f1_0 : w1.cell? ⟨w.heap.size + 1, 0, none⟩ = some (.slice A1 l1.length c1) := pw_cell_below hb (by go_simp)
  have f1_1 : w1.cell? ⟨w.heap.size + 1, 1, none⟩ = some (.int .i64 h) := pw_cell_below hb (by go_simp)
  have f2_0 : w1.cell? ⟨w.heap.size + 1 + 1, 0, none⟩ = some (.int .i64 e0) := pw_cell_below hb (by go_simp)
  have f2_1 : w1.cell? ⟨w.heap.size + 1 + 1, 1, none⟩ = some (.int .i64 e1) := pw_cell_below hb (by go_simp)
  have f2_2 : w1.cell? ⟨w.heap.size + 1 + 1, 2, none⟩ = some (.string e2) := pw_cell_below hb (by go_simp)
  have f2_3 : w1.cell? ⟨w.heap.size + 1 + 1, 3, none⟩ = some (.slice A2 l2.length c2) := pw_cell_below hb (by go_simp)
  replace HB := Aside0.mk (below_into (w := w) hb HB.out)
  have HS := Aside0.mk q3
  clear hb q3
  by_cases hq0 : q0 < 0
  case pos =>
    go_wp2_with fail
    go_ret
    exact ⟨rfl, HB.out⟩
  have HS0 := Aside0.mk (show l0.length ≤ 1048576 from HS.out (by omega))
  clear HS
  go_wp2_with fail
  refine (laws_szLedger.calls A1 c1 l1 h q0 _ (Kd.C_below H1.out HB.out) (by omega) (by omega) HW1.out).mono ?_
  rintro x w2 ⟨q1, rfl, q1_1, q2_1, q3, hb⟩
  replace f0_0 := pw_cell_below hb f0_0
  replace f0_1 := pw_cell_below hb f0_1
  replace f0_2 := pw_cell_below hb f0_2
  replace f1_0 := pw_cell_below hb f1_0
  replace f1_1 := pw_cell_below hb f1_1
  replace f2_0 := pw_cell_below hb f2_0
  replace f2_1 := pw_cell_below hb f2_1
  replace f2_2 := pw_cell_below hb f2_2
  replace f2_3 := pw_cell_below hb f2_3
  replace HB := Aside0.mk (below_into (w := w) hb HB.out)
  have HS := Aside0.mk q3
  clear hb q3
  by_cases hq1 : q1 < 0
  case pos =>
    go_wp2_with fail
    go_ret
    exact ⟨rfl, HB.out⟩
  have HS1 := Aside0.mk (show l1.length ≤ 1048576 ∧ ∀ y ∈ l1, small93 y from HS.out (by omega))
  clear HS
  go_wp2_with fail
  refine (laws_szEntry.calls e0 e1 e2 A2 c2 l2 q1 _ (Kd.C_below H2.out HB.out) (by omega) (by omega) HW2.out).mono ?_
  rintro x w3 ⟨q2, rfl, q1_2, q2_2, q3, hb⟩
  replace f0_0 := pw_cell_below hb f0_0
  replace f0_1 := pw_cell_below hb f0_1
  replace f0_2 := pw_cell_below hb f0_2
  replace f1_0 := pw_cell_below hb f1_0
  replace f1_1 := pw_cell_below hb f1_1
  replace f2_0 := pw_cell_below hb f2_0
  replace f2_1 := pw_cell_below hb f2_1
  replace f2_2 := pw_cell_below hb f2_2
  replace f2_3 := pw_cell_below hb f2_3
  replace HB := Aside0.mk (below_into (w := w) hb HB.out)
  have HS := Aside0.mk q3
  clear hb q3
  by_cases hq2 : q2 < 0
  case pos =>
    go_wp2_with fail
    go_ret
    exact ⟨rfl, HB.out⟩
  have HS2 := Aside0.mk (show small93 (⟨e0, e1, e2, l2⟩ : S93) from HS.out (by omega))
  clear HS
  have TB0 := Aside0.mk (laws_toFrame_is l0 d c kBig HS0.out kBig_le)
  have ML0 := Aside0.mk (show (l0.map cvAccount).length ≤ 1048576 by rw [List.length_map]; exact HS0.out)
  generalize l0.map cvAccount = m0 at *
  have TB1 := Aside0.mk (laws_toLedger_is l1 h kBig HS1.out kBig_le)
  have ML1 := Aside0.mk (show (l1.map cvEntry).length ≤ 1048576 ∧ ∀ x ∈ l1.map cvEntry, x.f3.length ≤ 1048576 from ⟨by rw [List.length_map]; exact HS1.out.1, fun x hx => by
    obtain ⟨y, hy, rfl⟩ := List.mem_map.1 hx
    show (y.f3.map cvLine).length ≤ 1048576
    rw [List.length_map]
    exact HS1.out.2 y hy⟩)
  generalize l1.map cvEntry = m1 at *
  have TB2 := Aside0.mk (laws_toEntry_is (⟨e0, e1, e2, l2⟩ : S93) kBig HS2.out (Nat.lt_of_lt_of_le (by omega) kBig_le))
  have ML2 := Aside0.mk (show (l2.map cvLine).length ≤ 1048576 by rw [List.length_map]; exact HS2.out)
  replace TB2 := Aside0.mk (show laws_toEntry.f kBig e0 e1 e2 l2 = some (e0, e1, e2, l2.map cvLine) from TB2.out)
  generalize l2.map cvLine = m2 at *
  obtain ⟨⟨r0, rh, rk⟩, hres⟩ : ∃ t, t = postR m0 d c m1 h ⟨e0, e1, e2, m2⟩ := ⟨_, rfl⟩
  have ST := Aside0.mk (show spec_Post.f kBig m0 d c m1 h e0 e1 e2 m2 = some (r0, rh, rk) by rw [hres]; exact spec_Post_is m0 d c m1 h ⟨e0, e1, e2, m2⟩ HT0.out HT1.out HT2.out ML1.out.1 ML1.out.2 ML2.out kBig (Nat.le_trans (by omega) kBig_le))
  have IT := Aside0.mk (And.intro (And.intro HT0.out (And.intro HT1.out (And.intro HT2.out (And.intro ML1.out.1 (And.intro ML1.out.2 ML2.out))))) hres.symm)
  have RL := Aside0.mk (postR_len hres.symm ML1.out.1 ML1.out.2 ML2.out)
  clear hres
  have zz_f0_0 := World.block_lt_of_cell? _ _ f0_0
  have zz_f1_0 := World.block_lt_of_cell? _ _ f1_0
  have zz_f2_0 := World.block_lt_of_cell? _ _ f2_0
  go_upto_region 11 with fail
  have HV := Aside0.mk (Below.refl w3.heap.size w3)
  go_cut [8, 9] (fun s10_ s11_ wx => ∃ (b_ : Nat) (A_ : Option Addr) (c_ : Nat), s10_ = .pointer (some ⟨b_, 0, none⟩) ∧ s11_ = .int .i64 rk ∧ w3.heap.size ≤ b_ ∧ wx.heap[b_]? = some (.cells #[.slice A_ r0.length c_, .int .i64 rh] 29 (0, 0)) ∧ Aside0 (r0.length ≤ c_) ∧ Aside0 (Kd.S k34 34 wx w3.heap.size (Iv w3.heap.size wx.heap.size) (.slice A_ r0.length c_) r0) ∧ Aside0 (Below w3.heap.size w3 wx))
  case first =>
    go_region_held3 (fun w' => w'.cell? ⟨w.heap.size, 0, none⟩ = some (.slice A0 l0.length c0) ∧ w'.cell? ⟨w.heap.size, 1, none⟩ = some (.int .i64 d) ∧ w'.cell? ⟨w.heap.size, 2, none⟩ = some (.int .i64 c) ∧ w'.cell? ⟨w.heap.size + 1, 0, none⟩ = some (.slice A1 l1.length c1) ∧ w'.cell? ⟨w.heap.size + 1, 1, none⟩ = some (.int .i64 h) ∧ w'.cell? ⟨w.heap.size + 1 + 1, 0, none⟩ = some (.int .i64 e0) ∧ w'.cell? ⟨w.heap.size + 1 + 1, 1, none⟩ = some (.int .i64 e1) ∧ w'.cell? ⟨w.heap.size + 1 + 1, 2, none⟩ = some (.string e2) ∧ w'.cell? ⟨w.heap.size + 1 + 1, 3, none⟩ = some (.slice A2 l2.length c2)) ((first | (have hH := ‹_ ∧ _›; obtain ⟨t0, t1, t2, t3, t4, t5, t6, t7, t8⟩ := hH; first | (with_reducible exact ⟨pw_cell_below hb t0, pw_cell_below hb t1, pw_cell_below hb t2, pw_cell_below hb t3, pw_cell_below hb t4, pw_cell_below hb t5, pw_cell_below hb t6, pw_cell_below hb t7, pw_cell_below hb t8⟩) | (with_reducible exact ⟨pw_cell_below (below_alloc (Below.refl _ _) _) t0, pw_cell_below (below_alloc (Below.refl _ _) _) t1, pw_cell_below (below_alloc (Below.refl _ _) _) t2, pw_cell_below (below_alloc (Below.refl _ _) _) t3, pw_cell_below (below_alloc (Below.refl _ _) _) t4, pw_cell_below (below_alloc (Below.refl _ _) _) t5, pw_cell_below (below_alloc (Below.refl _ _) _) t6, pw_cell_below (below_alloc (Below.refl _ _) _) t7, pw_cell_below (below_alloc (Below.refl _ _) _) t8⟩) | (with_reducible exact ⟨t0, t1, t2, t3, t4, t5, t6, t7, t8⟩) | (with_reducible refine ⟨cell_alloc2 t0 ?_, cell_alloc2 t1 ?_, cell_alloc2 t2 ?_, cell_alloc2 t3 ?_, cell_alloc2 t4 ?_, cell_alloc2 t5 ?_, cell_alloc2 t6 ?_, cell_alloc2 t7 ?_, cell_alloc2 t8 ?_⟩ <;> (first | omega | (simp; omega))) | (refine ⟨?_, ?_, ?_, ?_, ?_, ?_, ?_, ?_, ?_⟩ <;> ((repeat (with_reducible refine cell_off ?_ _ ?_; (· (first | omega | (simp; omega))))); assumption))) | go_keep))
     ((first | (go_at_call 37; refine (laws_toFrame.calls kBig A0 c0 l0 d c m0 d c _ (Kd.C_below H0.out (by with_reducible repeat (first | exact HB.out | exact below_into HVBs.out HB.out | exact below_into HVCs.out HB.out | refine below_drew1 ?_ | refine pw_below_drewN ?_ _ | refine below_alloc ?_ _))) C0.out TB0.out).mono ?_; rintro x wAs ⟨v0, rfl, hR, hb⟩; obtain ⟨P0s, p0s, rfl, n0, g0⟩ := Kd.R_reads hR; have KK0s := Aside0.mk g0; have KN0s := Aside0.mk n0; have HVAs := Aside0.mk (below_into (w := w3) hb (by with_reducible repeat (first | exact HV.out | exact HVBs.out | exact HVCs.out | refine below_drew1 ?_ | refine pw_below_drewN ?_ _ | refine below_alloc ?_ _))); have SZAs := HVAs.out.size; (try replace KK1s := Aside0.mk (Kd.C_below KK1s.out (below_into hb (by with_reducible repeat (first | exact Below.refl _ _ | refine below_drew1 ?_ | refine pw_below_drewN ?_ _ | refine below_alloc ?_ _))))); (try replace KK2s := Aside0.mk (Kd.C_below KK2s.out (below_into hb (by with_reducible repeat (first | exact Below.refl _ _ | refine below_drew1 ?_ | refine pw_below_drewN ?_ _ | refine below_alloc ?_ _))))); (first | (have BK : wAs.heap[w3.heap.size]? = some (.cells #[.slice none 0 0, .int .i64 0] 29 (0, 0)) := blk_below ?_ hb; rotate_left; (· (with_reducible repeat (first | exact BK | exact blk_new _ _ | refine blk_drewN ?_ _ | refine blk_drew ?_)))) | (have BK : wAs.heap[wBs.heap.size]? = some (.cells #[.slice none 0 0, .int .i64 0] 29 (0, 0)) := blk_below ?_ hb; rotate_left; (· (with_reducible repeat (first | exact BK | exact blk_new _ _ | refine blk_drewN ?_ _ | refine blk_drew ?_)))) | (have BK : wAs.heap[wCs.heap.size]? = some (.cells #[.slice none 0 0, .int .i64 0] 29 (0, 0)) := blk_below ?_ hb; rotate_left; (· (with_reducible repeat (first | exact BK | exact blk_new _ _ | refine blk_drewN ?_ _ | refine blk_drew ?_)))) | skip); (try (have Y0 := (blk_cell BK 0).trans (show _ = some (.slice none 0 0) from rfl); have Z0 := blk_frozen BK 0; have Y1 := (blk_cell BK 1).trans (show _ = some (.int .i64 0) from rfl); have Z1 := blk_frozen BK 1)); clear hR g0 n0) | (go_at_call 49; refine (laws_toLedger.calls kBig A1 c1 l1 h m1 h _ (Kd.C_below H1.out (by with_reducible repeat (first | exact HB.out | exact below_into HVAs.out HB.out | exact below_into HVCs.out HB.out | refine below_drew1 ?_ | refine pw_below_drewN ?_ _ | refine below_alloc ?_ _))) C1.out TB1.out).mono ?_; rintro x wBs ⟨v1, rfl, hR, hb⟩; obtain ⟨P1s, p1s, rfl, n0, g0⟩ := Kd.S_reads hR; have KK1s := Aside0.mk g0; have KN1s := Aside0.mk n0; have HVBs := Aside0.mk (below_into (w := w3) hb (by with_reducible repeat (first | exact HV.out | exact HVAs.out | exact HVCs.out | refine below_drew1 ?_ | refine pw_below_drewN ?_ _ | refine below_alloc ?_ _))); have SZBs := HVBs.out.size; (try replace KK0s := Aside0.mk (Kd.C_below KK0s.out (below_into hb (by with_reducible repeat (first | exact Below.refl _ _ | refine below_drew1 ?_ | refine pw_below_drewN ?_ _ | refine below_alloc ?_ _))))); (try replace KK2s := Aside0.mk (Kd.C_below KK2s.out (below_into hb (by with_reducible repeat (first | exact Below.refl _ _ | refine below_drew1 ?_ | refine pw_below_drewN ?_ _ | refine below_alloc ?_ _))))); (first | (have BK : wBs.heap[w3.heap.size]? = some (.cells #[.slice none 0 0, .int .i64 0] 29 (0, 0)) := blk_below ?_ hb; rotate_left; (· (with_reducible repeat (first | exact BK | exact blk_new _ _ | refine blk_drewN ?_ _ | refine blk_drew ?_)))) | (have BK : wBs.heap[wAs.heap.size]? = some (.cells #[.slice none 0 0, .int .i64 0] 29 (0, 0)) := blk_below ?_ hb; rotate_left; (· (with_reducible repeat (first | exact BK | exact blk_new _ _ | refine blk_drewN ?_ _ | refine blk_drew ?_)))) | (have BK : wBs.heap[wCs.heap.size]? = some (.cells #[.slice none 0 0, .int .i64 0] 29 (0, 0)) := blk_below ?_ hb; rotate_left; (· (with_reducible repeat (first | exact BK | exact blk_new _ _ | refine blk_drewN ?_ _ | refine blk_drew ?_)))) | skip); (try (have Y0 := (blk_cell BK 0).trans (show _ = some (.slice none 0 0) from rfl); have Z0 := blk_frozen BK 0; have Y1 := (blk_cell BK 1).trans (show _ = some (.int .i64 0) from rfl); have Z1 := blk_frozen BK 1)); clear hR g0 n0) | (go_at_call 59; refine (laws_toEntry.calls kBig e0 e1 e2 A2 c2 l2 e0 e1 e2 m2 _ (Kd.C_below H2.out (by with_reducible repeat (first | exact HB.out | exact below_into HVAs.out HB.out | exact below_into HVBs.out HB.out | refine below_drew1 ?_ | refine pw_below_drewN ?_ _ | refine below_alloc ?_ _))) C2.out TB2.out).mono ?_; rintro x wCs ⟨v2, rfl, hR, hb⟩; obtain ⟨P2s, p2s, rfl, n0, g0⟩ := Kd.R_reads hR; have KK2s := Aside0.mk g0; have KN2s := Aside0.mk n0; have HVCs := Aside0.mk (below_into (w := w3) hb (by with_reducible repeat (first | exact HV.out | exact HVAs.out | exact HVBs.out | refine below_drew1 ?_ | refine pw_below_drewN ?_ _ | refine below_alloc ?_ _))); have SZCs := HVCs.out.size; (try replace KK0s := Aside0.mk (Kd.C_below KK0s.out (below_into hb (by with_reducible repeat (first | exact Below.refl _ _ | refine below_drew1 ?_ | refine pw_below_drewN ?_ _ | refine below_alloc ?_ _))))); (try replace KK1s := Aside0.mk (Kd.C_below KK1s.out (below_into hb (by with_reducible repeat (first | exact Below.refl _ _ | refine below_drew1 ?_ | refine pw_below_drewN ?_ _ | refine below_alloc ?_ _))))); (first | (have BK : wCs.heap[w3.heap.size]? = some (.cells #[.slice none 0 0, .int .i64 0] 29 (0, 0)) := blk_below ?_ hb; rotate_left; (· (with_reducible repeat (first | exact BK | exact blk_new _ _ | refine blk_drewN ?_ _ | refine blk_drew ?_)))) | (have BK : wCs.heap[wAs.heap.size]? = some (.cells #[.slice none 0 0, .int .i64 0] 29 (0, 0)) := blk_below ?_ hb; rotate_left; (· (with_reducible repeat (first | exact BK | exact blk_new _ _ | refine blk_drewN ?_ _ | refine blk_drew ?_)))) | (have BK : wCs.heap[wBs.heap.size]? = some (.cells #[.slice none 0 0, .int .i64 0] 29 (0, 0)) := blk_below ?_ hb; rotate_left; (· (with_reducible repeat (first | exact BK | exact blk_new _ _ | refine blk_drewN ?_ _ | refine blk_drew ?_)))) | skip); (try (have Y0 := (blk_cell BK 0).trans (show _ = some (.slice none 0 0) from rfl); have Z0 := blk_frozen BK 0; have Y1 := (blk_cell BK 1).trans (show _ = some (.int .i64 0) from rfl); have Z1 := blk_frozen BK 1)); clear hR g0 n0) | (go_at_call 21; refine (spec_Post.calls kBig P0s p0s m0 d c P1s p1s m1 h e0 e1 e2 P2s p2s m2 r0 rh rk _ (Kd.C_below KK0s.out (by with_reducible repeat (first | exact Below.refl _ _ | refine below_drew1 ?_ | refine pw_below_drewN ?_ _ | refine below_alloc ?_ _))) KN0s.out (Kd.C_below KK1s.out (by with_reducible repeat (first | exact Below.refl _ _ | refine below_drew1 ?_ | refine pw_below_drewN ?_ _ | refine below_alloc ?_ _))) KN1s.out (Kd.C_below KK2s.out (by with_reducible repeat (first | exact Below.refl _ _ | refine below_drew1 ?_ | refine pw_below_drewN ?_ _ | refine below_alloc ?_ _))) KN2s.out ST.out).mono ?_; rintro x wS ⟨vs, rfl, hR, hb⟩; obtain ⟨S0, eS0, rfl, n0, g0⟩ := Kd.S_reads hR; have NS := Aside0.mk n0; have KS := Aside0.mk g0; have HVS := Aside0.mk (below_into (w := w3) hb (by with_reducible repeat (first | exact HV.out | exact HVAs.out | exact HVBs.out | exact HVCs.out | refine below_drew1 ?_ | refine pw_below_drewN ?_ _ | refine below_alloc ?_ _))); have RRS := Aside0.mk (S_iv hR); have SZS := HVS.out.size; have SBS := below_start hb (show Below w3.heap.size w3 _ from (by with_reducible repeat (first | exact HV.out | exact HVAs.out | exact HVBs.out | exact HVCs.out | refine below_drew1 ?_ | refine pw_below_drewN ?_ _ | refine below_alloc ?_ _))); (first | (have BK : wS.heap[w3.heap.size]? = some (.cells #[.slice none 0 0, .int .i64 0] 29 (0, 0)) := blk_below ?_ hb; rotate_left; (· (with_reducible repeat (first | exact BK | exact blk_new _ _ | refine blk_drewN ?_ _ | refine blk_drew ?_)))) | (have BK : wS.heap[wAs.heap.size]? = some (.cells #[.slice none 0 0, .int .i64 0] 29 (0, 0)) := blk_below ?_ hb; rotate_left; (· (with_reducible repeat (first | exact BK | exact blk_new _ _ | refine blk_drewN ?_ _ | refine blk_drew ?_)))) | (have BK : wS.heap[wBs.heap.size]? = some (.cells #[.slice none 0 0, .int .i64 0] 29 (0, 0)) := blk_below ?_ hb; rotate_left; (· (with_reducible repeat (first | exact BK | exact blk_new _ _ | refine blk_drewN ?_ _ | refine blk_drew ?_)))) | (have BK : wS.heap[wCs.heap.size]? = some (.cells #[.slice none 0 0, .int .i64 0] 29 (0, 0)) := blk_below ?_ hb; rotate_left; (· (with_reducible repeat (first | exact BK | exact blk_new _ _ | refine blk_drewN ?_ _ | refine blk_drew ?_)))) | skip); (try (have Y0 := (blk_cell BK 0).trans (show _ = some (.slice none 0 0) from rfl); have Z0 := blk_frozen BK 0; have Y1 := (blk_cell BK 1).trans (show _ = some (.int .i64 0) from rfl); have Z1 := blk_frozen BK 1)); clear hR n0 g0)))
    all_goals (try go_wp2_with fail)
    all_goals go_meet
    all_goals (
      refine ⟨_, S0, eS0, rfl, rfl, ?_, ?_, NS, ⟨?_⟩, ⟨?_⟩⟩
      · first | exact Nat.le_refl _ | exact SZS | exact SZAs | exact SZBs | exact SZCs | omega
      · (with_reducible repeat (first | refine blk_drewN ?_ _ | refine blk_drew ?_)); first | exact blk2 BK _ _ | exact blk_new _ _
      · (with_reducible repeat (first | refine Kd.S_drewN ?_ _ | refine Kd.S_drew ?_))
        have RX := S_iv_lower RRS.out SBS (Nat.le_refl _)
        first | exact Kd.S_mono (S_put2 RX BK (by decide) _ _) (fun k hk => ⟨hk.1, Nat.lt_of_lt_of_le hk.2 (by simp)⟩) | exact Kd.S_mono (Kd.S_alloc RX _) (fun k hk => ⟨hk.1, Nat.lt_of_lt_of_le hk.2 (by simp)⟩)
      · (with_reducible repeat (first | refine pw_below_drewN ?_ _ | refine below_drew1 ?_)); first | exact below_put2 HVS.out (by first | exact Nat.le_refl _ | exact HVAs.out.size | exact HVBs.out.size | exact HVCs.out.size ) _ _ | exact below_alloc HVS.out _)
  obtain ⟨bS, S0, eS0, rfl, rfl, hble, hblk, NS, RS0, HVS⟩ := hcut
  obtain ⟨w4, rfl⟩ : ∃ W_ : World, W_ = wc := ⟨_, rfl⟩
  have hb := HVS.out
  replace f0_0 := pw_cell_below hb f0_0
  replace f0_1 := pw_cell_below hb f0_1
  replace f0_2 := pw_cell_below hb f0_2
  replace f1_0 := pw_cell_below hb f1_0
  replace f1_1 := pw_cell_below hb f1_1
  replace f2_0 := pw_cell_below hb f2_0
  replace f2_1 := pw_cell_below hb f2_1
  replace f2_2 := pw_cell_below hb f2_2
  replace f2_3 := pw_cell_below hb f2_3
  replace HB := Aside0.mk (below_into (w := w) hb HB.out)
  have s_0 : w4.cell? ⟨bS, 0, none⟩ = some (.slice S0 r0.length eS0) := (blk_cell hblk 0).trans rfl
  have s_1 : w4.cell? ⟨bS, 1, none⟩ = some (.int .i64 rh) := (blk_cell hblk 1).trans rfl
  have z_S := blk_lt hblk
  have s_w4 := hb.size
  clear hb hblk HV HVS
  have HBW := HB
  have B3 := Aside0.mk (Below.refl w4.heap.size w4)
  go_wp2_with fail
  refine (laws_toFrame.calls kBig A0 c0 l0 d c m0 d c _ (Kd.C_below H0.out HB.out) C0.out TB0.out).mono ?_
  rintro x w5 ⟨v0, rfl, hR, hb⟩
  obtain ⟨X0, eX0, rfl, n0, _⟩ := Kd.R_reads hR
  have NX0 := Aside0.mk n0
  have RX0 := Aside0.mk (R_iv hR)
  replace f0_0 := pw_cell_below hb f0_0
  replace f0_1 := pw_cell_below hb f0_1
  replace f0_2 := pw_cell_below hb f0_2
  replace f1_0 := pw_cell_below hb f1_0
  replace f1_1 := pw_cell_below hb f1_1
  replace f2_0 := pw_cell_below hb f2_0
  replace f2_1 := pw_cell_below hb f2_1
  replace f2_2 := pw_cell_below hb f2_2
  replace f2_3 := pw_cell_below hb f2_3
  replace s_0 := pw_cell_below hb s_0
  replace s_1 := pw_cell_below hb s_1
  replace RS0 := Aside0.mk (Kd.S_below RS0.out hb)
  replace HB := Aside0.mk (below_into (w := w) hb HB.out)
  replace B3 := Aside0.mk (below_into (w := w4) hb B3.out)
  have s_w5 := hb.size
  clear hb hR n0
  have zz_f0_0 := World.block_lt_of_cell? _ _ f0_0
  have zz_f1_0 := World.block_lt_of_cell? _ _ f1_0
  have zz_f2_0 := World.block_lt_of_cell? _ _ f2_0
  have zz_s_0 := World.block_lt_of_cell? _ _ s_0
  go_wp2_with fail
  have x0 : (w5.alloc (.cells #[.slice X0 m0.length eX0, .int .i64 d, .int .i64 c] 26)).cell? ⟨w5.heap.size, 0, none⟩ = some (.slice X0 m0.length eX0) := by go_simp
  have x1 : (w5.alloc (.cells #[.slice X0 m0.length eX0, .int .i64 d, .int .i64 c] 26)).cell? ⟨w5.heap.size, 1, none⟩ = some (.int .i64 d) := by go_simp
  have x2 : (w5.alloc (.cells #[.slice X0 m0.length eX0, .int .i64 d, .int .i64 c] 26)).cell? ⟨w5.heap.size, 2, none⟩ = some (.int .i64 c) := by go_simp
  have hb := below_alloc (Below.refl w5.heap.size w5) (.cells #[.slice X0 m0.length eX0, .int .i64 d, .int .i64 c] 26)
  replace f0_0 := pw_cell_below hb f0_0
  replace f0_1 := pw_cell_below hb f0_1
  replace f0_2 := pw_cell_below hb f0_2
  replace f1_0 := pw_cell_below hb f1_0
  replace f1_1 := pw_cell_below hb f1_1
  replace f2_0 := pw_cell_below hb f2_0
  replace f2_1 := pw_cell_below hb f2_1
  replace f2_2 := pw_cell_below hb f2_2
  replace f2_3 := pw_cell_below hb f2_3
  replace s_0 := pw_cell_below hb s_0
  replace s_1 := pw_cell_below hb s_1
  replace RS0 := Aside0.mk (Kd.S_below RS0.out hb)
  replace RX0 := Aside0.mk (Kd.R_below RX0.out hb)
  replace HB := Aside0.mk (below_into (w := w) hb HB.out)
  replace B3 := Aside0.mk (below_into (w := w4) hb B3.out)
  have s_w6 : w5.heap.size < (w5.alloc (.cells #[.slice X0 m0.length eX0, .int .i64 d, .int .i64 c] 26)).heap.size := by simp
  clear hb
  generalize w5.alloc (.cells #[.slice X0 m0.length eX0, .int .i64 d, .int .i64 c] 26) = w6 at *
  have z_x0 := World.block_lt_of_cell? _ _ x0
  go_wp2_with fail
  refine (laws_toLedger.calls kBig A1 c1 l1 h m1 h _ (Kd.C_below H1.out HB.out) C1.out TB1.out).mono ?_
  rintro x w7 ⟨v0, rfl, hR, hb⟩
  obtain ⟨X1, eX1, rfl, n0, _⟩ := Kd.S_reads hR
  have NX1 := Aside0.mk n0
  have RX1 := Aside0.mk (Kd.S_lower (S_iv hR) (show w4.heap.size ≤ _ by omega))
  replace f0_0 := pw_cell_below hb f0_0
  replace f0_1 := pw_cell_below hb f0_1
  replace f0_2 := pw_cell_below hb f0_2
  replace f1_0 := pw_cell_below hb f1_0
  replace f1_1 := pw_cell_below hb f1_1
  replace f2_0 := pw_cell_below hb f2_0
  replace f2_1 := pw_cell_below hb f2_1
  replace f2_2 := pw_cell_below hb f2_2
  replace f2_3 := pw_cell_below hb f2_3
  replace s_0 := pw_cell_below hb s_0
  replace s_1 := pw_cell_below hb s_1
  replace x0 := pw_cell_below hb x0
  replace x1 := pw_cell_below hb x1
  replace x2 := pw_cell_below hb x2
  replace RS0 := Aside0.mk (Kd.S_below RS0.out hb)
  replace RX0 := Aside0.mk (Kd.R_below RX0.out hb)
  replace HB := Aside0.mk (below_into (w := w) hb HB.out)
  replace B3 := Aside0.mk (below_into (w := w4) hb B3.out)
  have s_w7 := hb.size
  clear hb hR n0
  have zz_f0_0 := World.block_lt_of_cell? _ _ f0_0
  have zz_f1_0 := World.block_lt_of_cell? _ _ f1_0
  have zz_f2_0 := World.block_lt_of_cell? _ _ f2_0
  have zz_s_0 := World.block_lt_of_cell? _ _ s_0
  have zz_x0 := World.block_lt_of_cell? _ _ x0
  go_wp2_with fail
  have y0 : (w7.alloc (.cells #[.slice X1 m1.length eX1, .int .i64 h] 29)).cell? ⟨w7.heap.size, 0, none⟩ = some (.slice X1 m1.length eX1) := by go_simp
  have y1 : (w7.alloc (.cells #[.slice X1 m1.length eX1, .int .i64 h] 29)).cell? ⟨w7.heap.size, 1, none⟩ = some (.int .i64 h) := by go_simp
  have hb := below_alloc (Below.refl w7.heap.size w7) (.cells #[.slice X1 m1.length eX1, .int .i64 h] 29)
  replace f0_0 := pw_cell_below hb f0_0
  replace f0_1 := pw_cell_below hb f0_1
  replace f0_2 := pw_cell_below hb f0_2
  replace f1_0 := pw_cell_below hb f1_0
  replace f1_1 := pw_cell_below hb f1_1
  replace f2_0 := pw_cell_below hb f2_0
  replace f2_1 := pw_cell_below hb f2_1
  replace f2_2 := pw_cell_below hb f2_2
  replace f2_3 := pw_cell_below hb f2_3
  replace s_0 := pw_cell_below hb s_0
  replace s_1 := pw_cell_below hb s_1
  replace x0 := pw_cell_below hb x0
  replace x1 := pw_cell_below hb x1
  replace x2 := pw_cell_below hb x2
  replace RS0 := Aside0.mk (Kd.S_below RS0.out hb)
  replace RX0 := Aside0.mk (Kd.R_below RX0.out hb)
  replace RX1 := Aside0.mk (Kd.S_below RX1.out hb)
  replace HB := Aside0.mk (below_into (w := w) hb HB.out)
  replace B3 := Aside0.mk (below_into (w := w4) hb B3.out)
  have s_w8 : w7.heap.size < (w7.alloc (.cells #[.slice X1 m1.length eX1, .int .i64 h] 29)).heap.size := by simp
  clear hb
  generalize w7.alloc (.cells #[.slice X1 m1.length eX1, .int .i64 h] 29) = w8 at *
  have z_y0 := World.block_lt_of_cell? _ _ y0
  go_wp2_with fail
  refine (laws_toEntry.calls kBig e0 e1 e2 A2 c2 l2 e0 e1 e2 m2 _ (Kd.C_below H2.out HB.out) C2.out TB2.out).mono ?_
  rintro x w9 ⟨v0, rfl, hR, hb⟩
  obtain ⟨X2, eX2, rfl, n0, _⟩ := Kd.R_reads hR
  have NX2 := Aside0.mk n0
  have RX2 := Aside0.mk (Kd.R_lower (R_iv hR) (show w4.heap.size ≤ _ by omega))
  replace f0_0 := pw_cell_below hb f0_0
  replace f0_1 := pw_cell_below hb f0_1
  replace f0_2 := pw_cell_below hb f0_2
  replace f1_0 := pw_cell_below hb f1_0
  replace f1_1 := pw_cell_below hb f1_1
  replace f2_0 := pw_cell_below hb f2_0
  replace f2_1 := pw_cell_below hb f2_1
  replace f2_2 := pw_cell_below hb f2_2
  replace f2_3 := pw_cell_below hb f2_3
  replace s_0 := pw_cell_below hb s_0
  replace s_1 := pw_cell_below hb s_1
  replace x0 := pw_cell_below hb x0
  replace x1 := pw_cell_below hb x1
  replace x2 := pw_cell_below hb x2
  replace y0 := pw_cell_below hb y0
  replace y1 := pw_cell_below hb y1
  replace RS0 := Aside0.mk (Kd.S_below RS0.out hb)
  replace RX0 := Aside0.mk (Kd.R_below RX0.out hb)
  replace RX1 := Aside0.mk (Kd.S_below RX1.out hb)
  replace HB := Aside0.mk (below_into (w := w) hb HB.out)
  replace B3 := Aside0.mk (below_into (w := w4) hb B3.out)
  have s_w9 := hb.size
  clear hb hR n0
  have zz_f0_0 := World.block_lt_of_cell? _ _ f0_0
  have zz_f1_0 := World.block_lt_of_cell? _ _ f1_0
  have zz_f2_0 := World.block_lt_of_cell? _ _ f2_0
  have zz_s_0 := World.block_lt_of_cell? _ _ s_0
  have zz_x0 := World.block_lt_of_cell? _ _ x0
  have zz_y0 := World.block_lt_of_cell? _ _ y0
  go_wp2_with fail
  have z0 : (w9.alloc (.cells #[.int .i64 e0, .int .i64 e1, .string e2, .slice X2 m2.length eX2] 34)).cell? ⟨w9.heap.size, 0, none⟩ = some (.int .i64 e0) := by go_simp
  have z1 : (w9.alloc (.cells #[.int .i64 e0, .int .i64 e1, .string e2, .slice X2 m2.length eX2] 34)).cell? ⟨w9.heap.size, 1, none⟩ = some (.int .i64 e1) := by go_simp
  have z2 : (w9.alloc (.cells #[.int .i64 e0, .int .i64 e1, .string e2, .slice X2 m2.length eX2] 34)).cell? ⟨w9.heap.size, 2, none⟩ = some (.string e2) := by go_simp
  have z3 : (w9.alloc (.cells #[.int .i64 e0, .int .i64 e1, .string e2, .slice X2 m2.length eX2] 34)).cell? ⟨w9.heap.size, 3, none⟩ = some (.slice X2 m2.length eX2) := by go_simp
  have hb := below_alloc (Below.refl w9.heap.size w9) (.cells #[.int .i64 e0, .int .i64 e1, .string e2, .slice X2 m2.length eX2] 34)
  replace f0_0 := pw_cell_below hb f0_0
  replace f0_1 := pw_cell_below hb f0_1
  replace f0_2 := pw_cell_below hb f0_2
  replace f1_0 := pw_cell_below hb f1_0
  replace f1_1 := pw_cell_below hb f1_1
  replace f2_0 := pw_cell_below hb f2_0
  replace f2_1 := pw_cell_below hb f2_1
  replace f2_2 := pw_cell_below hb f2_2
  replace f2_3 := pw_cell_below hb f2_3
  replace s_0 := pw_cell_below hb s_0
  replace s_1 := pw_cell_below hb s_1
  replace x0 := pw_cell_below hb x0
  replace x1 := pw_cell_below hb x1
  replace x2 := pw_cell_below hb x2
  replace y0 := pw_cell_below hb y0
  replace y1 := pw_cell_below hb y1
  replace RS0 := Aside0.mk (Kd.S_below RS0.out hb)
  replace RX0 := Aside0.mk (Kd.R_below RX0.out hb)
  replace RX1 := Aside0.mk (Kd.S_below RX1.out hb)
  replace RX2 := Aside0.mk (Kd.R_below RX2.out hb)
  replace HB := Aside0.mk (below_into (w := w) hb HB.out)
  replace B3 := Aside0.mk (below_into (w := w4) hb B3.out)
  have s_w10 : w9.heap.size < (w9.alloc (.cells #[.int .i64 e0, .int .i64 e1, .string e2, .slice X2 m2.length eX2] 34)).heap.size := by simp
  clear hb
  generalize w9.alloc (.cells #[.int .i64 e0, .int .i64 e1, .string e2, .slice X2 m2.length eX2] 34) = w10 at *
  have z_z0 := World.block_lt_of_cell? _ _ z0
  refine (impl_Post.at X0 eX0 m0 d c X1 eX1 m1 h e0 e1 e2 X2 eX2 m2 r0 rh rk _ ((Kd.R_reads' RX0.out).2.2) NX0.out ((Kd.S_reads' RX1.out).2.2) NX1.out ((Kd.R_reads' RX2.out).2.2) NX2.out IT.out).mono ?_
  rintro x w11 ⟨vs, rfl, hR, hb⟩
  obtain ⟨G0, eG0, rfl, n0, _⟩ := Kd.S_reads hR
  have NG0 := Aside0.mk n0
  have RG0 := Aside0.mk (Kd.S_lower (S_iv hR) (show w4.heap.size ≤ _ by omega))
  replace f0_0 := pw_cell_below hb f0_0
  replace f0_1 := pw_cell_below hb f0_1
  replace f0_2 := pw_cell_below hb f0_2
  replace f1_0 := pw_cell_below hb f1_0
  replace f1_1 := pw_cell_below hb f1_1
  replace f2_0 := pw_cell_below hb f2_0
  replace f2_1 := pw_cell_below hb f2_1
  replace f2_2 := pw_cell_below hb f2_2
  replace f2_3 := pw_cell_below hb f2_3
  replace s_0 := pw_cell_below hb s_0
  replace s_1 := pw_cell_below hb s_1
  replace x0 := pw_cell_below hb x0
  replace x1 := pw_cell_below hb x1
  replace x2 := pw_cell_below hb x2
  replace y0 := pw_cell_below hb y0
  replace y1 := pw_cell_below hb y1
  replace z0 := pw_cell_below hb z0
  replace z1 := pw_cell_below hb z1
  replace z2 := pw_cell_below hb z2
  replace z3 := pw_cell_below hb z3
  replace RS0 := Aside0.mk (Kd.S_below RS0.out hb)
  replace RX0 := Aside0.mk (Kd.R_below RX0.out hb)
  replace RX1 := Aside0.mk (Kd.S_below RX1.out hb)
  replace RX2 := Aside0.mk (Kd.R_below RX2.out hb)
  replace HB := Aside0.mk (below_into (w := w) hb HB.out)
  replace B3 := Aside0.mk (below_into (w := w4) hb B3.out)
  have s_w11 := hb.size
  clear hb hR n0
  have zz_f0_0 := World.block_lt_of_cell? _ _ f0_0
  have zz_f1_0 := World.block_lt_of_cell? _ _ f1_0
  have zz_f2_0 := World.block_lt_of_cell? _ _ f2_0
  have zz_s_0 := World.block_lt_of_cell? _ _ s_0
  have zz_x0 := World.block_lt_of_cell? _ _ x0
  have zz_y0 := World.block_lt_of_cell? _ _ y0
  have zz_z0 := World.block_lt_of_cell? _ _ z0
  go_wp2_with fail
  have g0 : (w11.alloc (.cells #[.slice G0 r0.length eG0, .int .i64 rh] 29)).cell? ⟨w11.heap.size, 0, none⟩ = some (.slice G0 r0.length eG0) := by go_simp
  have g1 : (w11.alloc (.cells #[.slice G0 r0.length eG0, .int .i64 rh] 29)).cell? ⟨w11.heap.size, 1, none⟩ = some (.int .i64 rh) := by go_simp
  have hb := below_alloc (Below.refl w11.heap.size w11) (.cells #[.slice G0 r0.length eG0, .int .i64 rh] 29)
  replace f0_0 := pw_cell_below hb f0_0
  replace f0_1 := pw_cell_below hb f0_1
  replace f0_2 := pw_cell_below hb f0_2
  replace f1_0 := pw_cell_below hb f1_0
  replace f1_1 := pw_cell_below hb f1_1
  replace f2_0 := pw_cell_below hb f2_0
  replace f2_1 := pw_cell_below hb f2_1
  replace f2_2 := pw_cell_below hb f2_2
  replace f2_3 := pw_cell_below hb f2_3
  replace s_0 := pw_cell_below hb s_0
  replace s_1 := pw_cell_below hb s_1
  replace x0 := pw_cell_below hb x0
  replace x1 := pw_cell_below hb x1
  replace x2 := pw_cell_below hb x2
  replace y0 := pw_cell_below hb y0
  replace y1 := pw_cell_below hb y1
  replace z0 := pw_cell_below hb z0
  replace z1 := pw_cell_below hb z1
  replace z2 := pw_cell_below hb z2
  replace z3 := pw_cell_below hb z3
  replace RS0 := Aside0.mk (Kd.S_below RS0.out hb)
  replace RX0 := Aside0.mk (Kd.R_below RX0.out hb)
  replace RX1 := Aside0.mk (Kd.S_below RX1.out hb)
  replace RX2 := Aside0.mk (Kd.R_below RX2.out hb)
  replace RG0 := Aside0.mk (Kd.S_below RG0.out hb)
  replace HB := Aside0.mk (below_into (w := w) hb HB.out)
  replace B3 := Aside0.mk (below_into (w := w4) hb B3.out)
  have s_w12 : w11.heap.size < (w11.alloc (.cells #[.slice G0 r0.length eG0, .int .i64 rh] 29)).heap.size := by simp
  clear hb
  generalize w11.alloc (.cells #[.slice G0 r0.length eG0, .int .i64 rh] 29) = w12 at *
  have z_g0 := World.block_lt_of_cell? _ _ g0
  refine (laws_eqLedger.calls G0 eG0 r0 rh S0 eS0 r0 rh _ ((Kd.S_reads' RG0.out).2.2) ((Kd.S_reads' RS0.out).2.2)).mono ?_
  rintro x w13 ⟨rfl, hb⟩
  replace f0_0 := pw_cell_below hb f0_0
  replace f0_1 := pw_cell_below hb f0_1
  replace f0_2 := pw_cell_below hb f0_2
  replace f1_0 := pw_cell_below hb f1_0
  replace f1_1 := pw_cell_below hb f1_1
  replace f2_0 := pw_cell_below hb f2_0
  replace f2_1 := pw_cell_below hb f2_1
  replace f2_2 := pw_cell_below hb f2_2
  replace f2_3 := pw_cell_below hb f2_3
  replace s_0 := pw_cell_below hb s_0
  replace s_1 := pw_cell_below hb s_1
  replace x0 := pw_cell_below hb x0
  replace x1 := pw_cell_below hb x1
  replace x2 := pw_cell_below hb x2
  replace y0 := pw_cell_below hb y0
  replace y1 := pw_cell_below hb y1
  replace z0 := pw_cell_below hb z0
  replace z1 := pw_cell_below hb z1
  replace z2 := pw_cell_below hb z2
  replace z3 := pw_cell_below hb z3
  replace g0 := pw_cell_below hb g0
  replace g1 := pw_cell_below hb g1
  replace RS0 := Aside0.mk (Kd.S_below RS0.out hb)
  replace RX0 := Aside0.mk (Kd.R_below RX0.out hb)
  replace RX1 := Aside0.mk (Kd.S_below RX1.out hb)
  replace RX2 := Aside0.mk (Kd.R_below RX2.out hb)
  replace RG0 := Aside0.mk (Kd.S_below RG0.out hb)
  replace HB := Aside0.mk (below_into (w := w) hb HB.out)
  replace B3 := Aside0.mk (below_into (w := w4) hb B3.out)
  have s_w13 := hb.size
  clear hb
  rw [← same_true rfl]
  go_wp2_with fail
  have HV := Aside0.mk (Below.refl w13.heap.size w13)
  go_region_held3 (fun w' => w'.cell? ⟨w.heap.size, 0, none⟩ = some (.slice A0 l0.length c0) ∧ w'.cell? ⟨w.heap.size, 1, none⟩ = some (.int .i64 d) ∧ w'.cell? ⟨w.heap.size, 2, none⟩ = some (.int .i64 c) ∧ w'.cell? ⟨w.heap.size + 1, 0, none⟩ = some (.slice A1 l1.length c1) ∧ w'.cell? ⟨w.heap.size + 1, 1, none⟩ = some (.int .i64 h) ∧ w'.cell? ⟨w.heap.size + 1 + 1, 0, none⟩ = some (.int .i64 e0) ∧ w'.cell? ⟨w.heap.size + 1 + 1, 1, none⟩ = some (.int .i64 e1) ∧ w'.cell? ⟨w.heap.size + 1 + 1, 2, none⟩ = some (.string e2) ∧ w'.cell? ⟨w.heap.size + 1 + 1, 3, none⟩ = some (.slice A2 l2.length c2) ∧ w'.cell? ⟨bS, 0, none⟩ = some (.slice S0 r0.length eS0) ∧ w'.cell? ⟨bS, 1, none⟩ = some (.int .i64 rh) ∧ w'.cell? ⟨w5.heap.size, 0, none⟩ = some (.slice X0 m0.length eX0) ∧ w'.cell? ⟨w5.heap.size, 1, none⟩ = some (.int .i64 d) ∧ w'.cell? ⟨w5.heap.size, 2, none⟩ = some (.int .i64 c) ∧ w'.cell? ⟨w7.heap.size, 0, none⟩ = some (.slice X1 m1.length eX1) ∧ w'.cell? ⟨w7.heap.size, 1, none⟩ = some (.int .i64 h) ∧ w'.cell? ⟨w9.heap.size, 0, none⟩ = some (.int .i64 e0) ∧ w'.cell? ⟨w9.heap.size, 1, none⟩ = some (.int .i64 e1) ∧ w'.cell? ⟨w9.heap.size, 2, none⟩ = some (.string e2) ∧ w'.cell? ⟨w9.heap.size, 3, none⟩ = some (.slice X2 m2.length eX2) ∧ w'.cell? ⟨w11.heap.size, 0, none⟩ = some (.slice G0 r0.length eG0) ∧ w'.cell? ⟨w11.heap.size, 1, none⟩ = some (.int .i64 rh)) ((first | go_keep | exact ⟨pw_cell_below hb (by assumption), pw_cell_below hb (by assumption), pw_cell_below hb (by assumption), pw_cell_below hb (by assumption), pw_cell_below hb (by assumption), pw_cell_below hb (by assumption), pw_cell_below hb (by assumption), pw_cell_below hb (by assumption), pw_cell_below hb (by assumption), pw_cell_below hb (by assumption), pw_cell_below hb (by assumption), pw_cell_below hb (by assumption), pw_cell_below hb (by assumption), pw_cell_below hb (by assumption), pw_cell_below hb (by assumption), pw_cell_below hb (by assumption), pw_cell_below hb (by assumption), pw_cell_below hb (by assumption), pw_cell_below hb (by assumption), pw_cell_below hb (by assumption), pw_cell_below hb (by assumption), pw_cell_below hb (by assumption)⟩ | (have hH := ‹_ ∧ _›; obtain ⟨t0, t1, t2, t3, t4, t5, t6, t7, t8, t9, t10, t11, t12, t13, t14, t15, t16, t17, t18, t19, t20, t21⟩ := hH; exact ⟨pw_cell_below hb t0, pw_cell_below hb t1, pw_cell_below hb t2, pw_cell_below hb t3, pw_cell_below hb t4, pw_cell_below hb t5, pw_cell_below hb t6, pw_cell_below hb t7, pw_cell_below hb t8, pw_cell_below hb t9, pw_cell_below hb t10, pw_cell_below hb t11, pw_cell_below hb t12, pw_cell_below hb t13, pw_cell_below hb t14, pw_cell_below hb t15, pw_cell_below hb t16, pw_cell_below hb t17, pw_cell_below hb t18, pw_cell_below hb t19, pw_cell_below hb t20, pw_cell_below hb t21⟩)))
    ((first | (go_at_call 37; refine (laws_toFrame.calls kBig A0 c0 l0 d c m0 d c _ (Kd.C_below H0.out (by repeat (first | exact HB.out | refine below_drew1 ?_ | refine pw_below_drewN ?_ _))) C0.out TB0.out).mono ?_; rintro x wA ⟨v0, rfl, hR, hb⟩; obtain ⟨P, q, rfl, n0, g0⟩ := Kd.R_reads hR; have KKq0 := Aside0.mk g0; have HVAq0 := Aside0.mk (below_into (w := w13) hb (by repeat (first | exact HV.out | refine below_drew1 ?_ | refine pw_below_drewN ?_ _))); clear hR g0 n0) | (go_at_call 41; refine (laws_eqFrame.calls X0 eX0 m0 d c P q m0 d c _ (Kd.C_below ((Kd.R_reads' RX0.out).2.2) (by repeat (first | exact HV.out | exact HVAq0.out | refine below_drew1 ?_ | refine pw_below_drewN ?_ _))) (Kd.C_below KKq0.out (by repeat (first | exact Below.refl _ _ | refine below_drew1 ?_ | refine pw_below_drewN ?_ _)))).mono ?_; rintro x w14 ⟨rfl, hb⟩; have HVE0 := Aside0.mk (below_into (w := w13) hb (by repeat (first | exact HV.out | exact HVAq0.out | refine below_drew1 ?_ | refine pw_below_drewN ?_ _))))))
  clear f0_0 f0_1 f0_2 f1_0 f1_1 f2_0 f2_1 f2_2 f2_3 s_0 s_1 x0 x1 x2 y0 y1 z0 z1 z2 z3 g0 g1
  have hH := ‹_ ∧ _›
  obtain ⟨f0_0, f0_1, f0_2, f1_0, f1_1, f2_0, f2_1, f2_2, f2_3, s_0, s_1, x0, x1, x2, y0, y1, z0, z1, z2, z3, g0, g1⟩ := hH
  have hb := HVE0.out
  replace RS0 := Aside0.mk (Kd.S_below RS0.out hb)
  replace RX0 := Aside0.mk (Kd.R_below RX0.out hb)
  replace RX1 := Aside0.mk (Kd.S_below RX1.out hb)
  replace RX2 := Aside0.mk (Kd.R_below RX2.out hb)
  replace RG0 := Aside0.mk (Kd.S_below RG0.out hb)
  replace HB := Aside0.mk (below_into (w := w) hb HB.out)
  replace B3 := Aside0.mk (below_into (w := w4) hb B3.out)
  have s_w14 := hb.size
  clear hb HV
  rw [← same_true rfl]
  go_wp2_with fail
  have HV := Aside0.mk (Below.refl w14.heap.size w14)
  go_region_held3 (fun w' => w'.cell? ⟨w.heap.size, 0, none⟩ = some (.slice A0 l0.length c0) ∧ w'.cell? ⟨w.heap.size, 1, none⟩ = some (.int .i64 d) ∧ w'.cell? ⟨w.heap.size, 2, none⟩ = some (.int .i64 c) ∧ w'.cell? ⟨w.heap.size + 1, 0, none⟩ = some (.slice A1 l1.length c1) ∧ w'.cell? ⟨w.heap.size + 1, 1, none⟩ = some (.int .i64 h) ∧ w'.cell? ⟨w.heap.size + 1 + 1, 0, none⟩ = some (.int .i64 e0) ∧ w'.cell? ⟨w.heap.size + 1 + 1, 1, none⟩ = some (.int .i64 e1) ∧ w'.cell? ⟨w.heap.size + 1 + 1, 2, none⟩ = some (.string e2) ∧ w'.cell? ⟨w.heap.size + 1 + 1, 3, none⟩ = some (.slice A2 l2.length c2) ∧ w'.cell? ⟨bS, 0, none⟩ = some (.slice S0 r0.length eS0) ∧ w'.cell? ⟨bS, 1, none⟩ = some (.int .i64 rh) ∧ w'.cell? ⟨w5.heap.size, 0, none⟩ = some (.slice X0 m0.length eX0) ∧ w'.cell? ⟨w5.heap.size, 1, none⟩ = some (.int .i64 d) ∧ w'.cell? ⟨w5.heap.size, 2, none⟩ = some (.int .i64 c) ∧ w'.cell? ⟨w7.heap.size, 0, none⟩ = some (.slice X1 m1.length eX1) ∧ w'.cell? ⟨w7.heap.size, 1, none⟩ = some (.int .i64 h) ∧ w'.cell? ⟨w9.heap.size, 0, none⟩ = some (.int .i64 e0) ∧ w'.cell? ⟨w9.heap.size, 1, none⟩ = some (.int .i64 e1) ∧ w'.cell? ⟨w9.heap.size, 2, none⟩ = some (.string e2) ∧ w'.cell? ⟨w9.heap.size, 3, none⟩ = some (.slice X2 m2.length eX2) ∧ w'.cell? ⟨w11.heap.size, 0, none⟩ = some (.slice G0 r0.length eG0) ∧ w'.cell? ⟨w11.heap.size, 1, none⟩ = some (.int .i64 rh)) ((first | go_keep | exact ⟨pw_cell_below hb (by assumption), pw_cell_below hb (by assumption), pw_cell_below hb (by assumption), pw_cell_below hb (by assumption), pw_cell_below hb (by assumption), pw_cell_below hb (by assumption), pw_cell_below hb (by assumption), pw_cell_below hb (by assumption), pw_cell_below hb (by assumption), pw_cell_below hb (by assumption), pw_cell_below hb (by assumption), pw_cell_below hb (by assumption), pw_cell_below hb (by assumption), pw_cell_below hb (by assumption), pw_cell_below hb (by assumption), pw_cell_below hb (by assumption), pw_cell_below hb (by assumption), pw_cell_below hb (by assumption), pw_cell_below hb (by assumption), pw_cell_below hb (by assumption), pw_cell_below hb (by assumption), pw_cell_below hb (by assumption)⟩ | (have hH := ‹_ ∧ _›; obtain ⟨t0, t1, t2, t3, t4, t5, t6, t7, t8, t9, t10, t11, t12, t13, t14, t15, t16, t17, t18, t19, t20, t21⟩ := hH; exact ⟨pw_cell_below hb t0, pw_cell_below hb t1, pw_cell_below hb t2, pw_cell_below hb t3, pw_cell_below hb t4, pw_cell_below hb t5, pw_cell_below hb t6, pw_cell_below hb t7, pw_cell_below hb t8, pw_cell_below hb t9, pw_cell_below hb t10, pw_cell_below hb t11, pw_cell_below hb t12, pw_cell_below hb t13, pw_cell_below hb t14, pw_cell_below hb t15, pw_cell_below hb t16, pw_cell_below hb t17, pw_cell_below hb t18, pw_cell_below hb t19, pw_cell_below hb t20, pw_cell_below hb t21⟩)))
    ((first | (go_at_call 49; refine (laws_toLedger.calls kBig A1 c1 l1 h m1 h _ (Kd.C_below H1.out (by repeat (first | exact HB.out | refine below_drew1 ?_ | refine pw_below_drewN ?_ _))) C1.out TB1.out).mono ?_; rintro x wA ⟨v0, rfl, hR, hb⟩; obtain ⟨P, q, rfl, n0, g0⟩ := Kd.S_reads hR; have KKq1 := Aside0.mk g0; have HVAq1 := Aside0.mk (below_into (w := w14) hb (by repeat (first | exact HV.out | refine below_drew1 ?_ | refine pw_below_drewN ?_ _))); clear hR g0 n0) | (go_at_call 51; refine (laws_eqLedger.calls X1 eX1 m1 h P q m1 h _ (Kd.C_below ((Kd.S_reads' RX1.out).2.2) (by repeat (first | exact HV.out | exact HVAq1.out | refine below_drew1 ?_ | refine pw_below_drewN ?_ _))) (Kd.C_below KKq1.out (by repeat (first | exact Below.refl _ _ | refine below_drew1 ?_ | refine pw_below_drewN ?_ _)))).mono ?_; rintro x w15 ⟨rfl, hb⟩; have HVE1 := Aside0.mk (below_into (w := w14) hb (by repeat (first | exact HV.out | exact HVAq1.out | refine below_drew1 ?_ | refine pw_below_drewN ?_ _))))))
  clear f0_0 f0_1 f0_2 f1_0 f1_1 f2_0 f2_1 f2_2 f2_3 s_0 s_1 x0 x1 x2 y0 y1 z0 z1 z2 z3 g0 g1
  have hH := ‹_ ∧ _›
  obtain ⟨f0_0, f0_1, f0_2, f1_0, f1_1, f2_0, f2_1, f2_2, f2_3, s_0, s_1, x0, x1, x2, y0, y1, z0, z1, z2, z3, g0, g1⟩ := hH
  have hb := HVE1.out
  replace RS0 := Aside0.mk (Kd.S_below RS0.out hb)
  replace RX0 := Aside0.mk (Kd.R_below RX0.out hb)
  replace RX1 := Aside0.mk (Kd.S_below RX1.out hb)
  replace RX2 := Aside0.mk (Kd.R_below RX2.out hb)
  replace RG0 := Aside0.mk (Kd.S_below RG0.out hb)
  replace HB := Aside0.mk (below_into (w := w) hb HB.out)
  replace B3 := Aside0.mk (below_into (w := w4) hb B3.out)
  have s_w15 := hb.size
  clear hb HV
  rw [← same_true rfl]
  go_wp2_with fail
  have HV := Aside0.mk (Below.refl w15.heap.size w15)
  go_region_held3 (fun w' => w'.cell? ⟨w.heap.size, 0, none⟩ = some (.slice A0 l0.length c0) ∧ w'.cell? ⟨w.heap.size, 1, none⟩ = some (.int .i64 d) ∧ w'.cell? ⟨w.heap.size, 2, none⟩ = some (.int .i64 c) ∧ w'.cell? ⟨w.heap.size + 1, 0, none⟩ = some (.slice A1 l1.length c1) ∧ w'.cell? ⟨w.heap.size + 1, 1, none⟩ = some (.int .i64 h) ∧ w'.cell? ⟨w.heap.size + 1 + 1, 0, none⟩ = some (.int .i64 e0) ∧ w'.cell? ⟨w.heap.size + 1 + 1, 1, none⟩ = some (.int .i64 e1) ∧ w'.cell? ⟨w.heap.size + 1 + 1, 2, none⟩ = some (.string e2) ∧ w'.cell? ⟨w.heap.size + 1 + 1, 3, none⟩ = some (.slice A2 l2.length c2) ∧ w'.cell? ⟨bS, 0, none⟩ = some (.slice S0 r0.length eS0) ∧ w'.cell? ⟨bS, 1, none⟩ = some (.int .i64 rh) ∧ w'.cell? ⟨w5.heap.size, 0, none⟩ = some (.slice X0 m0.length eX0) ∧ w'.cell? ⟨w5.heap.size, 1, none⟩ = some (.int .i64 d) ∧ w'.cell? ⟨w5.heap.size, 2, none⟩ = some (.int .i64 c) ∧ w'.cell? ⟨w7.heap.size, 0, none⟩ = some (.slice X1 m1.length eX1) ∧ w'.cell? ⟨w7.heap.size, 1, none⟩ = some (.int .i64 h) ∧ w'.cell? ⟨w9.heap.size, 0, none⟩ = some (.int .i64 e0) ∧ w'.cell? ⟨w9.heap.size, 1, none⟩ = some (.int .i64 e1) ∧ w'.cell? ⟨w9.heap.size, 2, none⟩ = some (.string e2) ∧ w'.cell? ⟨w9.heap.size, 3, none⟩ = some (.slice X2 m2.length eX2) ∧ w'.cell? ⟨w11.heap.size, 0, none⟩ = some (.slice G0 r0.length eG0) ∧ w'.cell? ⟨w11.heap.size, 1, none⟩ = some (.int .i64 rh)) ((first | go_keep | exact ⟨pw_cell_below hb (by assumption), pw_cell_below hb (by assumption), pw_cell_below hb (by assumption), pw_cell_below hb (by assumption), pw_cell_below hb (by assumption), pw_cell_below hb (by assumption), pw_cell_below hb (by assumption), pw_cell_below hb (by assumption), pw_cell_below hb (by assumption), pw_cell_below hb (by assumption), pw_cell_below hb (by assumption), pw_cell_below hb (by assumption), pw_cell_below hb (by assumption), pw_cell_below hb (by assumption), pw_cell_below hb (by assumption), pw_cell_below hb (by assumption), pw_cell_below hb (by assumption), pw_cell_below hb (by assumption), pw_cell_below hb (by assumption), pw_cell_below hb (by assumption), pw_cell_below hb (by assumption), pw_cell_below hb (by assumption)⟩ | (have hH := ‹_ ∧ _›; obtain ⟨t0, t1, t2, t3, t4, t5, t6, t7, t8, t9, t10, t11, t12, t13, t14, t15, t16, t17, t18, t19, t20, t21⟩ := hH; exact ⟨pw_cell_below hb t0, pw_cell_below hb t1, pw_cell_below hb t2, pw_cell_below hb t3, pw_cell_below hb t4, pw_cell_below hb t5, pw_cell_below hb t6, pw_cell_below hb t7, pw_cell_below hb t8, pw_cell_below hb t9, pw_cell_below hb t10, pw_cell_below hb t11, pw_cell_below hb t12, pw_cell_below hb t13, pw_cell_below hb t14, pw_cell_below hb t15, pw_cell_below hb t16, pw_cell_below hb t17, pw_cell_below hb t18, pw_cell_below hb t19, pw_cell_below hb t20, pw_cell_below hb t21⟩)))
    ((first | (go_at_call 59; refine (laws_toEntry.calls kBig e0 e1 e2 A2 c2 l2 e0 e1 e2 m2 _ (Kd.C_below H2.out (by repeat (first | exact HB.out | refine below_drew1 ?_ | refine pw_below_drewN ?_ _))) C2.out TB2.out).mono ?_; rintro x wA ⟨v0, rfl, hR, hb⟩; obtain ⟨P, q, rfl, n0, g0⟩ := Kd.R_reads hR; have KKq2 := Aside0.mk g0; have HVAq2 := Aside0.mk (below_into (w := w15) hb (by repeat (first | exact HV.out | refine below_drew1 ?_ | refine pw_below_drewN ?_ _))); clear hR g0 n0) | (go_at_call 55; refine (laws_eqEntry.calls e0 e1 e2 X2 eX2 m2 e0 e1 e2 P q m2 _ (Kd.C_below ((Kd.R_reads' RX2.out).2.2) (by repeat (first | exact HV.out | exact HVAq2.out | refine below_drew1 ?_ | refine pw_below_drewN ?_ _))) (Kd.C_below KKq2.out (by repeat (first | exact Below.refl _ _ | refine below_drew1 ?_ | refine pw_below_drewN ?_ _)))).mono ?_; rintro x w16 ⟨rfl, hb⟩; have HVE2 := Aside0.mk (below_into (w := w15) hb (by repeat (first | exact HV.out | exact HVAq2.out | refine below_drew1 ?_ | refine pw_below_drewN ?_ _))))))
  clear f0_0 f0_1 f0_2 f1_0 f1_1 f2_0 f2_1 f2_2 f2_3 s_0 s_1 x0 x1 x2 y0 y1 z0 z1 z2 z3 g0 g1
  have hH := ‹_ ∧ _›
  obtain ⟨f0_0, f0_1, f0_2, f1_0, f1_1, f2_0, f2_1, f2_2, f2_3, s_0, s_1, x0, x1, x2, y0, y1, z0, z1, z2, z3, g0, g1⟩ := hH
  have hb := HVE2.out
  replace RS0 := Aside0.mk (Kd.S_below RS0.out hb)
  replace RX0 := Aside0.mk (Kd.R_below RX0.out hb)
  replace RX1 := Aside0.mk (Kd.S_below RX1.out hb)
  replace RX2 := Aside0.mk (Kd.R_below RX2.out hb)
  replace RG0 := Aside0.mk (Kd.S_below RG0.out hb)
  replace HB := Aside0.mk (below_into (w := w) hb HB.out)
  replace B3 := Aside0.mk (below_into (w := w4) hb B3.out)
  have s_w16 := hb.size
  clear hb HV
  rw [← same_true rfl]
  go_wp2_with fail
  refine (laws_markFrame.calls kBig (Iv w4.heap.size w5.heap.size) (.slice X0 m0.length eX0) m0 d c 1 _ _ w4 _ B3.out RX0.out (laws_markFrame_is m0 d c kBig 1 (Nat.lt_of_lt_of_le (by have := ML0.out; omega) kBig_le) ML0.out (by omega) (by omega))).mono ?_
  rintro x w17 ⟨rfl, hR, hB3, hK⟩
  replace f0_0 := cell_iv_kept f0_0 hK (by first | exact Or.inl (show w.heap.size < w4.heap.size by omega) | exact Or.inr (show w5.heap.size ≤ w.heap.size by omega))
  replace f0_1 := cell_iv_kept f0_1 hK (by first | exact Or.inl (show w.heap.size < w4.heap.size by omega) | exact Or.inr (show w5.heap.size ≤ w.heap.size by omega))
  replace f0_2 := cell_iv_kept f0_2 hK (by first | exact Or.inl (show w.heap.size < w4.heap.size by omega) | exact Or.inr (show w5.heap.size ≤ w.heap.size by omega))
  replace f1_0 := cell_iv_kept f1_0 hK (by first | exact Or.inl (show w.heap.size + 1 < w4.heap.size by omega) | exact Or.inr (show w5.heap.size ≤ w.heap.size + 1 by omega))
  replace f1_1 := cell_iv_kept f1_1 hK (by first | exact Or.inl (show w.heap.size + 1 < w4.heap.size by omega) | exact Or.inr (show w5.heap.size ≤ w.heap.size + 1 by omega))
  replace f2_0 := cell_iv_kept f2_0 hK (by first | exact Or.inl (show w.heap.size + 1 + 1 < w4.heap.size by omega) | exact Or.inr (show w5.heap.size ≤ w.heap.size + 1 + 1 by omega))
  replace f2_1 := cell_iv_kept f2_1 hK (by first | exact Or.inl (show w.heap.size + 1 + 1 < w4.heap.size by omega) | exact Or.inr (show w5.heap.size ≤ w.heap.size + 1 + 1 by omega))
  replace f2_2 := cell_iv_kept f2_2 hK (by first | exact Or.inl (show w.heap.size + 1 + 1 < w4.heap.size by omega) | exact Or.inr (show w5.heap.size ≤ w.heap.size + 1 + 1 by omega))
  replace f2_3 := cell_iv_kept f2_3 hK (by first | exact Or.inl (show w.heap.size + 1 + 1 < w4.heap.size by omega) | exact Or.inr (show w5.heap.size ≤ w.heap.size + 1 + 1 by omega))
  replace s_0 := cell_iv_kept s_0 hK (by first | exact Or.inl (show bS < w4.heap.size by omega) | exact Or.inr (show w5.heap.size ≤ bS by omega))
  replace s_1 := cell_iv_kept s_1 hK (by first | exact Or.inl (show bS < w4.heap.size by omega) | exact Or.inr (show w5.heap.size ≤ bS by omega))
  replace x0 := cell_iv_kept x0 hK (by first | exact Or.inl (show w5.heap.size < w4.heap.size by omega) | exact Or.inr (show w5.heap.size ≤ w5.heap.size by omega))
  replace x1 := cell_iv_kept x1 hK (by first | exact Or.inl (show w5.heap.size < w4.heap.size by omega) | exact Or.inr (show w5.heap.size ≤ w5.heap.size by omega))
  replace x2 := cell_iv_kept x2 hK (by first | exact Or.inl (show w5.heap.size < w4.heap.size by omega) | exact Or.inr (show w5.heap.size ≤ w5.heap.size by omega))
  replace y0 := cell_iv_kept y0 hK (by first | exact Or.inl (show w7.heap.size < w4.heap.size by omega) | exact Or.inr (show w5.heap.size ≤ w7.heap.size by omega))
  replace y1 := cell_iv_kept y1 hK (by first | exact Or.inl (show w7.heap.size < w4.heap.size by omega) | exact Or.inr (show w5.heap.size ≤ w7.heap.size by omega))
  replace z0 := cell_iv_kept z0 hK (by first | exact Or.inl (show w9.heap.size < w4.heap.size by omega) | exact Or.inr (show w5.heap.size ≤ w9.heap.size by omega))
  replace z1 := cell_iv_kept z1 hK (by first | exact Or.inl (show w9.heap.size < w4.heap.size by omega) | exact Or.inr (show w5.heap.size ≤ w9.heap.size by omega))
  replace z2 := cell_iv_kept z2 hK (by first | exact Or.inl (show w9.heap.size < w4.heap.size by omega) | exact Or.inr (show w5.heap.size ≤ w9.heap.size by omega))
  replace z3 := cell_iv_kept z3 hK (by first | exact Or.inl (show w9.heap.size < w4.heap.size by omega) | exact Or.inr (show w5.heap.size ≤ w9.heap.size by omega))
  replace g0 := cell_iv_kept g0 hK (by first | exact Or.inl (show w11.heap.size < w4.heap.size by omega) | exact Or.inr (show w5.heap.size ≤ w11.heap.size by omega))
  replace g1 := cell_iv_kept g1 hK (by first | exact Or.inl (show w11.heap.size < w4.heap.size by omega) | exact Or.inr (show w5.heap.size ≤ w11.heap.size by omega))
  replace RS0 := Aside0.mk (S_iv_kept RS0.out hK (by omega))
  replace RX1 := Aside0.mk (S_iv_kept RX1.out hK (by omega))
  replace RX2 := Aside0.mk (R_iv_kept RX2.out hK (by omega))
  replace RG0 := Aside0.mk (S_iv_kept RG0.out hK (by omega))
  replace B3 := Aside0.mk hB3
  replace HB := Aside0.mk (below_into (w := w) hB3 HBW.out)
  have s_w17 := hK.1
  clear hR hB3 hK RX0
  have nb0 := nAcc_b m0 1
  have nl := ML0.out
  generalize nAll nAcc 1 m0 = K0 at *
  replace nb0 : 1 ≤ K0 ∧ K0 ≤ 3145729 := by omega
  clear nl
  go_wp2_with fail
  refine (laws_markLedger.to (Iv w6.heap.size w7.heap.size) X1 eX1 m1 h K0 w4 _ B3.out RX1.out (by omega) (by omega) ML1.out.1 ML1.out.2).mono ?_
  rintro x w18 ⟨rfl, hR, hB3, hK⟩
  replace f0_0 := cell_iv_kept f0_0 hK (by first | exact Or.inl (show w.heap.size < w6.heap.size by omega) | exact Or.inr (show w7.heap.size ≤ w.heap.size by omega))
  replace f0_1 := cell_iv_kept f0_1 hK (by first | exact Or.inl (show w.heap.size < w6.heap.size by omega) | exact Or.inr (show w7.heap.size ≤ w.heap.size by omega))
  replace f0_2 := cell_iv_kept f0_2 hK (by first | exact Or.inl (show w.heap.size < w6.heap.size by omega) | exact Or.inr (show w7.heap.size ≤ w.heap.size by omega))
  replace f1_0 := cell_iv_kept f1_0 hK (by first | exact Or.inl (show w.heap.size + 1 < w6.heap.size by omega) | exact Or.inr (show w7.heap.size ≤ w.heap.size + 1 by omega))
  replace f1_1 := cell_iv_kept f1_1 hK (by first | exact Or.inl (show w.heap.size + 1 < w6.heap.size by omega) | exact Or.inr (show w7.heap.size ≤ w.heap.size + 1 by omega))
  replace f2_0 := cell_iv_kept f2_0 hK (by first | exact Or.inl (show w.heap.size + 1 + 1 < w6.heap.size by omega) | exact Or.inr (show w7.heap.size ≤ w.heap.size + 1 + 1 by omega))
  replace f2_1 := cell_iv_kept f2_1 hK (by first | exact Or.inl (show w.heap.size + 1 + 1 < w6.heap.size by omega) | exact Or.inr (show w7.heap.size ≤ w.heap.size + 1 + 1 by omega))
  replace f2_2 := cell_iv_kept f2_2 hK (by first | exact Or.inl (show w.heap.size + 1 + 1 < w6.heap.size by omega) | exact Or.inr (show w7.heap.size ≤ w.heap.size + 1 + 1 by omega))
  replace f2_3 := cell_iv_kept f2_3 hK (by first | exact Or.inl (show w.heap.size + 1 + 1 < w6.heap.size by omega) | exact Or.inr (show w7.heap.size ≤ w.heap.size + 1 + 1 by omega))
  replace s_0 := cell_iv_kept s_0 hK (by first | exact Or.inl (show bS < w6.heap.size by omega) | exact Or.inr (show w7.heap.size ≤ bS by omega))
  replace s_1 := cell_iv_kept s_1 hK (by first | exact Or.inl (show bS < w6.heap.size by omega) | exact Or.inr (show w7.heap.size ≤ bS by omega))
  replace x0 := cell_iv_kept x0 hK (by first | exact Or.inl (show w5.heap.size < w6.heap.size by omega) | exact Or.inr (show w7.heap.size ≤ w5.heap.size by omega))
  replace x1 := cell_iv_kept x1 hK (by first | exact Or.inl (show w5.heap.size < w6.heap.size by omega) | exact Or.inr (show w7.heap.size ≤ w5.heap.size by omega))
  replace x2 := cell_iv_kept x2 hK (by first | exact Or.inl (show w5.heap.size < w6.heap.size by omega) | exact Or.inr (show w7.heap.size ≤ w5.heap.size by omega))
  replace y0 := cell_iv_kept y0 hK (by first | exact Or.inl (show w7.heap.size < w6.heap.size by omega) | exact Or.inr (show w7.heap.size ≤ w7.heap.size by omega))
  replace y1 := cell_iv_kept y1 hK (by first | exact Or.inl (show w7.heap.size < w6.heap.size by omega) | exact Or.inr (show w7.heap.size ≤ w7.heap.size by omega))
  replace z0 := cell_iv_kept z0 hK (by first | exact Or.inl (show w9.heap.size < w6.heap.size by omega) | exact Or.inr (show w7.heap.size ≤ w9.heap.size by omega))
  replace z1 := cell_iv_kept z1 hK (by first | exact Or.inl (show w9.heap.size < w6.heap.size by omega) | exact Or.inr (show w7.heap.size ≤ w9.heap.size by omega))
  replace z2 := cell_iv_kept z2 hK (by first | exact Or.inl (show w9.heap.size < w6.heap.size by omega) | exact Or.inr (show w7.heap.size ≤ w9.heap.size by omega))
  replace z3 := cell_iv_kept z3 hK (by first | exact Or.inl (show w9.heap.size < w6.heap.size by omega) | exact Or.inr (show w7.heap.size ≤ w9.heap.size by omega))
  replace g0 := cell_iv_kept g0 hK (by first | exact Or.inl (show w11.heap.size < w6.heap.size by omega) | exact Or.inr (show w7.heap.size ≤ w11.heap.size by omega))
  replace g1 := cell_iv_kept g1 hK (by first | exact Or.inl (show w11.heap.size < w6.heap.size by omega) | exact Or.inr (show w7.heap.size ≤ w11.heap.size by omega))
  replace RS0 := Aside0.mk (S_iv_kept RS0.out hK (by omega))
  replace RX2 := Aside0.mk (R_iv_kept RX2.out hK (by omega))
  replace RG0 := Aside0.mk (S_iv_kept RG0.out hK (by omega))
  replace B3 := Aside0.mk hB3
  replace HB := Aside0.mk (below_into (w := w) hB3 HBW.out)
  have s_w18 := hK.1
  clear hR hB3 hK RX1
  have nb1 := nEnt_b m1 ML1.out.2 K0
  have nl := ML1.out.1
  generalize nAll nEnt K0 m1 = K1 at *
  replace nb1 : 1 ≤ K1 ∧ K1 ≤ 5497564430337 := by omega
  clear nl
  go_wp2_with fail
  refine (laws_markEntry.calls kBig e0 e1 e2 (Iv w8.heap.size w9.heap.size) (.slice X2 m2.length eX2) m2 K1 _ _ w4 _ B3.out RX2.out (laws_markEntry_is e0 e1 e2 m2 kBig K1 (Nat.lt_of_lt_of_le (by have := ML2.out; omega) kBig_le) ML2.out (by omega) (by omega))).mono ?_
  rintro x w19 ⟨rfl, hR, hB3, hK⟩
  replace f0_0 := cell_iv_kept f0_0 hK (by first | exact Or.inl (show w.heap.size < w8.heap.size by omega) | exact Or.inr (show w9.heap.size ≤ w.heap.size by omega))
  replace f0_1 := cell_iv_kept f0_1 hK (by first | exact Or.inl (show w.heap.size < w8.heap.size by omega) | exact Or.inr (show w9.heap.size ≤ w.heap.size by omega))
  replace f0_2 := cell_iv_kept f0_2 hK (by first | exact Or.inl (show w.heap.size < w8.heap.size by omega) | exact Or.inr (show w9.heap.size ≤ w.heap.size by omega))
  replace f1_0 := cell_iv_kept f1_0 hK (by first | exact Or.inl (show w.heap.size + 1 < w8.heap.size by omega) | exact Or.inr (show w9.heap.size ≤ w.heap.size + 1 by omega))
  replace f1_1 := cell_iv_kept f1_1 hK (by first | exact Or.inl (show w.heap.size + 1 < w8.heap.size by omega) | exact Or.inr (show w9.heap.size ≤ w.heap.size + 1 by omega))
  replace f2_0 := cell_iv_kept f2_0 hK (by first | exact Or.inl (show w.heap.size + 1 + 1 < w8.heap.size by omega) | exact Or.inr (show w9.heap.size ≤ w.heap.size + 1 + 1 by omega))
  replace f2_1 := cell_iv_kept f2_1 hK (by first | exact Or.inl (show w.heap.size + 1 + 1 < w8.heap.size by omega) | exact Or.inr (show w9.heap.size ≤ w.heap.size + 1 + 1 by omega))
  replace f2_2 := cell_iv_kept f2_2 hK (by first | exact Or.inl (show w.heap.size + 1 + 1 < w8.heap.size by omega) | exact Or.inr (show w9.heap.size ≤ w.heap.size + 1 + 1 by omega))
  replace f2_3 := cell_iv_kept f2_3 hK (by first | exact Or.inl (show w.heap.size + 1 + 1 < w8.heap.size by omega) | exact Or.inr (show w9.heap.size ≤ w.heap.size + 1 + 1 by omega))
  replace s_0 := cell_iv_kept s_0 hK (by first | exact Or.inl (show bS < w8.heap.size by omega) | exact Or.inr (show w9.heap.size ≤ bS by omega))
  replace s_1 := cell_iv_kept s_1 hK (by first | exact Or.inl (show bS < w8.heap.size by omega) | exact Or.inr (show w9.heap.size ≤ bS by omega))
  replace x0 := cell_iv_kept x0 hK (by first | exact Or.inl (show w5.heap.size < w8.heap.size by omega) | exact Or.inr (show w9.heap.size ≤ w5.heap.size by omega))
  replace x1 := cell_iv_kept x1 hK (by first | exact Or.inl (show w5.heap.size < w8.heap.size by omega) | exact Or.inr (show w9.heap.size ≤ w5.heap.size by omega))
  replace x2 := cell_iv_kept x2 hK (by first | exact Or.inl (show w5.heap.size < w8.heap.size by omega) | exact Or.inr (show w9.heap.size ≤ w5.heap.size by omega))
  replace y0 := cell_iv_kept y0 hK (by first | exact Or.inl (show w7.heap.size < w8.heap.size by omega) | exact Or.inr (show w9.heap.size ≤ w7.heap.size by omega))
  replace y1 := cell_iv_kept y1 hK (by first | exact Or.inl (show w7.heap.size < w8.heap.size by omega) | exact Or.inr (show w9.heap.size ≤ w7.heap.size by omega))
  replace z0 := cell_iv_kept z0 hK (by first | exact Or.inl (show w9.heap.size < w8.heap.size by omega) | exact Or.inr (show w9.heap.size ≤ w9.heap.size by omega))
  replace z1 := cell_iv_kept z1 hK (by first | exact Or.inl (show w9.heap.size < w8.heap.size by omega) | exact Or.inr (show w9.heap.size ≤ w9.heap.size by omega))
  replace z2 := cell_iv_kept z2 hK (by first | exact Or.inl (show w9.heap.size < w8.heap.size by omega) | exact Or.inr (show w9.heap.size ≤ w9.heap.size by omega))
  replace z3 := cell_iv_kept z3 hK (by first | exact Or.inl (show w9.heap.size < w8.heap.size by omega) | exact Or.inr (show w9.heap.size ≤ w9.heap.size by omega))
  replace g0 := cell_iv_kept g0 hK (by first | exact Or.inl (show w11.heap.size < w8.heap.size by omega) | exact Or.inr (show w9.heap.size ≤ w11.heap.size by omega))
  replace g1 := cell_iv_kept g1 hK (by first | exact Or.inl (show w11.heap.size < w8.heap.size by omega) | exact Or.inr (show w9.heap.size ≤ w11.heap.size by omega))
  replace RS0 := Aside0.mk (S_iv_kept RS0.out hK (by omega))
  replace RG0 := Aside0.mk (S_iv_kept RG0.out hK (by omega))
  replace B3 := Aside0.mk hB3
  replace HB := Aside0.mk (below_into (w := w) hB3 HBW.out)
  have s_w19 := hK.1
  clear hR hB3 hK RX2
  have nb2 := nLine_b m2 K1
  have nl := ML2.out
  generalize nAll nLine K1 m2 = K2 at *
  replace nb2 : 1 ≤ K2 ∧ K2 ≤ 5497569673217 := by omega
  clear nl
  have nb_ : decide (K2 < 0) = false := decide_eq_false (by omega)
  go_wp2_with fail
  refine (laws_eqLedger.calls G0 eG0 r0 rh S0 eS0 r0 rh _ ((Kd.S_reads' RG0.out).2.2) ((Kd.S_reads' RS0.out).2.2)).mono ?_
  rintro x w20 ⟨rfl, hb⟩
  replace f0_0 := pw_cell_below hb f0_0
  replace f0_1 := pw_cell_below hb f0_1
  replace f0_2 := pw_cell_below hb f0_2
  replace f1_0 := pw_cell_below hb f1_0
  replace f1_1 := pw_cell_below hb f1_1
  replace f2_0 := pw_cell_below hb f2_0
  replace f2_1 := pw_cell_below hb f2_1
  replace f2_2 := pw_cell_below hb f2_2
  replace f2_3 := pw_cell_below hb f2_3
  replace s_0 := pw_cell_below hb s_0
  replace s_1 := pw_cell_below hb s_1
  replace x0 := pw_cell_below hb x0
  replace x1 := pw_cell_below hb x1
  replace x2 := pw_cell_below hb x2
  replace y0 := pw_cell_below hb y0
  replace y1 := pw_cell_below hb y1
  replace z0 := pw_cell_below hb z0
  replace z1 := pw_cell_below hb z1
  replace z2 := pw_cell_below hb z2
  replace z3 := pw_cell_below hb z3
  replace g0 := pw_cell_below hb g0
  replace g1 := pw_cell_below hb g1
  replace RS0 := Aside0.mk (Kd.S_below RS0.out hb)
  replace RG0 := Aside0.mk (Kd.S_below RG0.out hb)
  replace HB := Aside0.mk (below_into (w := w) hb HB.out)
  replace B3 := Aside0.mk (below_into (w := w4) hb B3.out)
  have s_w20 := hb.size
  clear hb
  rw [← same_true rfl]
  clear nb_
  go_wp2_with fail
  refine (laws_markLedger.to (Iv w10.heap.size w11.heap.size) G0 eG0 r0 rh 1 w4 _ B3.out RG0.out (by omega) (by omega) RL.out.1 RL.out.2).mono ?_
  rintro x w21 ⟨rfl, hR, hB3, hK⟩
  have RM0 := Aside0.mk hR
  replace f0_0 := cell_iv_kept f0_0 hK (by first | exact Or.inl (show w.heap.size < w10.heap.size by omega) | exact Or.inr (show w11.heap.size ≤ w.heap.size by omega))
  replace f0_1 := cell_iv_kept f0_1 hK (by first | exact Or.inl (show w.heap.size < w10.heap.size by omega) | exact Or.inr (show w11.heap.size ≤ w.heap.size by omega))
  replace f0_2 := cell_iv_kept f0_2 hK (by first | exact Or.inl (show w.heap.size < w10.heap.size by omega) | exact Or.inr (show w11.heap.size ≤ w.heap.size by omega))
  replace f1_0 := cell_iv_kept f1_0 hK (by first | exact Or.inl (show w.heap.size + 1 < w10.heap.size by omega) | exact Or.inr (show w11.heap.size ≤ w.heap.size + 1 by omega))
  replace f1_1 := cell_iv_kept f1_1 hK (by first | exact Or.inl (show w.heap.size + 1 < w10.heap.size by omega) | exact Or.inr (show w11.heap.size ≤ w.heap.size + 1 by omega))
  replace f2_0 := cell_iv_kept f2_0 hK (by first | exact Or.inl (show w.heap.size + 1 + 1 < w10.heap.size by omega) | exact Or.inr (show w11.heap.size ≤ w.heap.size + 1 + 1 by omega))
  replace f2_1 := cell_iv_kept f2_1 hK (by first | exact Or.inl (show w.heap.size + 1 + 1 < w10.heap.size by omega) | exact Or.inr (show w11.heap.size ≤ w.heap.size + 1 + 1 by omega))
  replace f2_2 := cell_iv_kept f2_2 hK (by first | exact Or.inl (show w.heap.size + 1 + 1 < w10.heap.size by omega) | exact Or.inr (show w11.heap.size ≤ w.heap.size + 1 + 1 by omega))
  replace f2_3 := cell_iv_kept f2_3 hK (by first | exact Or.inl (show w.heap.size + 1 + 1 < w10.heap.size by omega) | exact Or.inr (show w11.heap.size ≤ w.heap.size + 1 + 1 by omega))
  replace s_0 := cell_iv_kept s_0 hK (by first | exact Or.inl (show bS < w10.heap.size by omega) | exact Or.inr (show w11.heap.size ≤ bS by omega))
  replace s_1 := cell_iv_kept s_1 hK (by first | exact Or.inl (show bS < w10.heap.size by omega) | exact Or.inr (show w11.heap.size ≤ bS by omega))
  replace x0 := cell_iv_kept x0 hK (by first | exact Or.inl (show w5.heap.size < w10.heap.size by omega) | exact Or.inr (show w11.heap.size ≤ w5.heap.size by omega))
  replace x1 := cell_iv_kept x1 hK (by first | exact Or.inl (show w5.heap.size < w10.heap.size by omega) | exact Or.inr (show w11.heap.size ≤ w5.heap.size by omega))
  replace x2 := cell_iv_kept x2 hK (by first | exact Or.inl (show w5.heap.size < w10.heap.size by omega) | exact Or.inr (show w11.heap.size ≤ w5.heap.size by omega))
  replace y0 := cell_iv_kept y0 hK (by first | exact Or.inl (show w7.heap.size < w10.heap.size by omega) | exact Or.inr (show w11.heap.size ≤ w7.heap.size by omega))
  replace y1 := cell_iv_kept y1 hK (by first | exact Or.inl (show w7.heap.size < w10.heap.size by omega) | exact Or.inr (show w11.heap.size ≤ w7.heap.size by omega))
  replace z0 := cell_iv_kept z0 hK (by first | exact Or.inl (show w9.heap.size < w10.heap.size by omega) | exact Or.inr (show w11.heap.size ≤ w9.heap.size by omega))
  replace z1 := cell_iv_kept z1 hK (by first | exact Or.inl (show w9.heap.size < w10.heap.size by omega) | exact Or.inr (show w11.heap.size ≤ w9.heap.size by omega))
  replace z2 := cell_iv_kept z2 hK (by first | exact Or.inl (show w9.heap.size < w10.heap.size by omega) | exact Or.inr (show w11.heap.size ≤ w9.heap.size by omega))
  replace z3 := cell_iv_kept z3 hK (by first | exact Or.inl (show w9.heap.size < w10.heap.size by omega) | exact Or.inr (show w11.heap.size ≤ w9.heap.size by omega))
  replace g0 := cell_iv_kept g0 hK (by first | exact Or.inl (show w11.heap.size < w10.heap.size by omega) | exact Or.inr (show w11.heap.size ≤ w11.heap.size by omega))
  replace g1 := cell_iv_kept g1 hK (by first | exact Or.inl (show w11.heap.size < w10.heap.size by omega) | exact Or.inr (show w11.heap.size ≤ w11.heap.size by omega))
  replace RS0 := Aside0.mk (S_iv_kept RS0.out hK (by omega))
  replace B3 := Aside0.mk hB3
  replace HB := Aside0.mk (below_into (w := w) hB3 HBW.out)
  have s_w21 := hK.1
  clear hR hB3 hK RG0
  have nb := nEnt_b r0 RL.out.2 1
  have nl := RL.out.1
  have HLD := Aside0.mk (fun (W : World) (hC : Kd.C k34 W G0 r0.length (mAll mEnt nEnt 1 r0)) => laws_heldLedger.to G0 eG0 r0 rh 1 W hC (by omega) (by omega) RL.out.1 RL.out.2)
  have NM := Aside0.mk (mAll_length mEnt nEnt r0 1)
  generalize nAll nEnt 1 r0 = Q at *
  generalize mAll mEnt nEnt 1 r0 = M0 at *
  have nq : decide (Q < 0) = false := decide_eq_false (by omega)
  clear nl nb
  go_wp2_with fail
  refine (HLD.out _ (by have hC := (Kd.S_reads' RM0.out).2.2; rw [NM.out] at hC; exact hC)).mono ?_
  rintro x w22 ⟨rfl, hb⟩
  replace f0_0 := pw_cell_below hb f0_0
  replace f0_1 := pw_cell_below hb f0_1
  replace f0_2 := pw_cell_below hb f0_2
  replace f1_0 := pw_cell_below hb f1_0
  replace f1_1 := pw_cell_below hb f1_1
  replace f2_0 := pw_cell_below hb f2_0
  replace f2_1 := pw_cell_below hb f2_1
  replace f2_2 := pw_cell_below hb f2_2
  replace f2_3 := pw_cell_below hb f2_3
  replace s_0 := pw_cell_below hb s_0
  replace s_1 := pw_cell_below hb s_1
  replace x0 := pw_cell_below hb x0
  replace x1 := pw_cell_below hb x1
  replace x2 := pw_cell_below hb x2
  replace y0 := pw_cell_below hb y0
  replace y1 := pw_cell_below hb y1
  replace z0 := pw_cell_below hb z0
  replace z1 := pw_cell_below hb z1
  replace z2 := pw_cell_below hb z2
  replace z3 := pw_cell_below hb z3
  replace g0 := pw_cell_below hb g0
  replace g1 := pw_cell_below hb g1
  replace RS0 := Aside0.mk (Kd.S_below RS0.out hb)
  replace RM0 := Aside0.mk (Kd.S_below RM0.out hb)
  replace HB := Aside0.mk (below_into (w := w) hb HB.out)
  replace B3 := Aside0.mk (below_into (w := w4) hb B3.out)
  have s_w22 := hb.size
  clear hb
  have zz_f0_0 := World.block_lt_of_cell? _ _ f0_0
  have zz_f1_0 := World.block_lt_of_cell? _ _ f1_0
  have zz_f2_0 := World.block_lt_of_cell? _ _ f2_0
  have zz_s_0 := World.block_lt_of_cell? _ _ s_0
  have zz_x0 := World.block_lt_of_cell? _ _ x0
  have zz_y0 := World.block_lt_of_cell? _ _ y0
  have zz_z0 := World.block_lt_of_cell? _ _ z0
  have zz_g0 := World.block_lt_of_cell? _ _ g0
  go_upto_region 38 with fail
  have HV := Aside0.mk (Below.refl w22.heap.size w22)
  go_cut [18, 19] (fun s10_ s11_ wx => ∃ (b_ : Nat) (A_ : Option Addr) (c_ : Nat), s10_ = .pointer (some ⟨b_, 0, none⟩) ∧ s11_ = .int .i64 rk ∧ w22.heap.size ≤ b_ ∧ wx.heap[b_]? = some (.cells #[.slice A_ r0.length c_, .int .i64 rh] 29 (0, 0)) ∧ Aside0 (r0.length ≤ c_) ∧ Aside0 (Kd.S k34 34 wx w22.heap.size (Iv w22.heap.size wx.heap.size) (.slice A_ r0.length c_) r0) ∧ Aside0 (Below w22.heap.size w22 wx))
  case first =>
    go_region_held3 (fun w' => w'.cell? ⟨w.heap.size, 0, none⟩ = some (.slice A0 l0.length c0) ∧ w'.cell? ⟨w.heap.size, 1, none⟩ = some (.int .i64 d) ∧ w'.cell? ⟨w.heap.size, 2, none⟩ = some (.int .i64 c) ∧ w'.cell? ⟨w.heap.size + 1, 0, none⟩ = some (.slice A1 l1.length c1) ∧ w'.cell? ⟨w.heap.size + 1, 1, none⟩ = some (.int .i64 h) ∧ w'.cell? ⟨w.heap.size + 1 + 1, 0, none⟩ = some (.int .i64 e0) ∧ w'.cell? ⟨w.heap.size + 1 + 1, 1, none⟩ = some (.int .i64 e1) ∧ w'.cell? ⟨w.heap.size + 1 + 1, 2, none⟩ = some (.string e2) ∧ w'.cell? ⟨w.heap.size + 1 + 1, 3, none⟩ = some (.slice A2 l2.length c2) ∧ w'.cell? ⟨bS, 0, none⟩ = some (.slice S0 r0.length eS0) ∧ w'.cell? ⟨bS, 1, none⟩ = some (.int .i64 rh) ∧ w'.cell? ⟨w5.heap.size, 0, none⟩ = some (.slice X0 m0.length eX0) ∧ w'.cell? ⟨w5.heap.size, 1, none⟩ = some (.int .i64 d) ∧ w'.cell? ⟨w5.heap.size, 2, none⟩ = some (.int .i64 c) ∧ w'.cell? ⟨w7.heap.size, 0, none⟩ = some (.slice X1 m1.length eX1) ∧ w'.cell? ⟨w7.heap.size, 1, none⟩ = some (.int .i64 h) ∧ w'.cell? ⟨w9.heap.size, 0, none⟩ = some (.int .i64 e0) ∧ w'.cell? ⟨w9.heap.size, 1, none⟩ = some (.int .i64 e1) ∧ w'.cell? ⟨w9.heap.size, 2, none⟩ = some (.string e2) ∧ w'.cell? ⟨w9.heap.size, 3, none⟩ = some (.slice X2 m2.length eX2) ∧ w'.cell? ⟨w11.heap.size, 0, none⟩ = some (.slice G0 r0.length eG0) ∧ w'.cell? ⟨w11.heap.size, 1, none⟩ = some (.int .i64 rh)) ((first | (have hH := ‹_ ∧ _›; obtain ⟨t0, t1, t2, t3, t4, t5, t6, t7, t8, t9, t10, t11, t12, t13, t14, t15, t16, t17, t18, t19, t20, t21⟩ := hH; first | (with_reducible exact ⟨pw_cell_below hb t0, pw_cell_below hb t1, pw_cell_below hb t2, pw_cell_below hb t3, pw_cell_below hb t4, pw_cell_below hb t5, pw_cell_below hb t6, pw_cell_below hb t7, pw_cell_below hb t8, pw_cell_below hb t9, pw_cell_below hb t10, pw_cell_below hb t11, pw_cell_below hb t12, pw_cell_below hb t13, pw_cell_below hb t14, pw_cell_below hb t15, pw_cell_below hb t16, pw_cell_below hb t17, pw_cell_below hb t18, pw_cell_below hb t19, pw_cell_below hb t20, pw_cell_below hb t21⟩) | (with_reducible exact ⟨pw_cell_below (below_alloc (Below.refl _ _) _) t0, pw_cell_below (below_alloc (Below.refl _ _) _) t1, pw_cell_below (below_alloc (Below.refl _ _) _) t2, pw_cell_below (below_alloc (Below.refl _ _) _) t3, pw_cell_below (below_alloc (Below.refl _ _) _) t4, pw_cell_below (below_alloc (Below.refl _ _) _) t5, pw_cell_below (below_alloc (Below.refl _ _) _) t6, pw_cell_below (below_alloc (Below.refl _ _) _) t7, pw_cell_below (below_alloc (Below.refl _ _) _) t8, pw_cell_below (below_alloc (Below.refl _ _) _) t9, pw_cell_below (below_alloc (Below.refl _ _) _) t10, pw_cell_below (below_alloc (Below.refl _ _) _) t11, pw_cell_below (below_alloc (Below.refl _ _) _) t12, pw_cell_below (below_alloc (Below.refl _ _) _) t13, pw_cell_below (below_alloc (Below.refl _ _) _) t14, pw_cell_below (below_alloc (Below.refl _ _) _) t15, pw_cell_below (below_alloc (Below.refl _ _) _) t16, pw_cell_below (below_alloc (Below.refl _ _) _) t17, pw_cell_below (below_alloc (Below.refl _ _) _) t18, pw_cell_below (below_alloc (Below.refl _ _) _) t19, pw_cell_below (below_alloc (Below.refl _ _) _) t20, pw_cell_below (below_alloc (Below.refl _ _) _) t21⟩) | (with_reducible exact ⟨t0, t1, t2, t3, t4, t5, t6, t7, t8, t9, t10, t11, t12, t13, t14, t15, t16, t17, t18, t19, t20, t21⟩) | (with_reducible refine ⟨cell_alloc2 t0 ?_, cell_alloc2 t1 ?_, cell_alloc2 t2 ?_, cell_alloc2 t3 ?_, cell_alloc2 t4 ?_, cell_alloc2 t5 ?_, cell_alloc2 t6 ?_, cell_alloc2 t7 ?_, cell_alloc2 t8 ?_, cell_alloc2 t9 ?_, cell_alloc2 t10 ?_, cell_alloc2 t11 ?_, cell_alloc2 t12 ?_, cell_alloc2 t13 ?_, cell_alloc2 t14 ?_, cell_alloc2 t15 ?_, cell_alloc2 t16 ?_, cell_alloc2 t17 ?_, cell_alloc2 t18 ?_, cell_alloc2 t19 ?_, cell_alloc2 t20 ?_, cell_alloc2 t21 ?_⟩ <;> (first | omega | (simp; omega))) | (refine ⟨?_, ?_, ?_, ?_, ?_, ?_, ?_, ?_, ?_, ?_, ?_, ?_, ?_, ?_, ?_, ?_, ?_, ?_, ?_, ?_, ?_, ?_⟩ <;> ((repeat (with_reducible refine cell_off ?_ _ ?_; (· (first | omega | (simp; omega))))); assumption))) | go_keep))
     ((first | (go_at_call 37; refine (laws_toFrame.calls kBig A0 c0 l0 d c m0 d c _ (Kd.C_below H0.out (by with_reducible repeat (first | exact HB.out | exact below_into HVBt.out HB.out | exact below_into HVCt.out HB.out | refine below_drew1 ?_ | refine pw_below_drewN ?_ _ | refine below_alloc ?_ _))) C0.out TB0.out).mono ?_; rintro x wAt ⟨v0, rfl, hR, hb⟩; obtain ⟨P0t, p0t, rfl, n0, g0⟩ := Kd.R_reads hR; have KK0t := Aside0.mk g0; have KN0t := Aside0.mk n0; have HVAt := Aside0.mk (below_into (w := w22) hb (by with_reducible repeat (first | exact HV.out | exact HVBt.out | exact HVCt.out | refine below_drew1 ?_ | refine pw_below_drewN ?_ _ | refine below_alloc ?_ _))); have SZAt := HVAt.out.size; (try replace KK1t := Aside0.mk (Kd.C_below KK1t.out (below_into hb (by with_reducible repeat (first | exact Below.refl _ _ | refine below_drew1 ?_ | refine pw_below_drewN ?_ _ | refine below_alloc ?_ _))))); (try replace KK2t := Aside0.mk (Kd.C_below KK2t.out (below_into hb (by with_reducible repeat (first | exact Below.refl _ _ | refine below_drew1 ?_ | refine pw_below_drewN ?_ _ | refine below_alloc ?_ _))))); (first | (have BK : wAt.heap[w22.heap.size]? = some (.cells #[.slice none 0 0, .int .i64 0] 29 (0, 0)) := blk_below ?_ hb; rotate_left; (· (with_reducible repeat (first | exact BK | exact blk_new _ _ | refine blk_drewN ?_ _ | refine blk_drew ?_)))) | (have BK : wAt.heap[wBt.heap.size]? = some (.cells #[.slice none 0 0, .int .i64 0] 29 (0, 0)) := blk_below ?_ hb; rotate_left; (· (with_reducible repeat (first | exact BK | exact blk_new _ _ | refine blk_drewN ?_ _ | refine blk_drew ?_)))) | (have BK : wAt.heap[wCt.heap.size]? = some (.cells #[.slice none 0 0, .int .i64 0] 29 (0, 0)) := blk_below ?_ hb; rotate_left; (· (with_reducible repeat (first | exact BK | exact blk_new _ _ | refine blk_drewN ?_ _ | refine blk_drew ?_)))) | skip); (try (have Y0 := (blk_cell BK 0).trans (show _ = some (.slice none 0 0) from rfl); have Z0 := blk_frozen BK 0; have Y1 := (blk_cell BK 1).trans (show _ = some (.int .i64 0) from rfl); have Z1 := blk_frozen BK 1)); clear hR g0 n0) | (go_at_call 49; refine (laws_toLedger.calls kBig A1 c1 l1 h m1 h _ (Kd.C_below H1.out (by with_reducible repeat (first | exact HB.out | exact below_into HVAt.out HB.out | exact below_into HVCt.out HB.out | refine below_drew1 ?_ | refine pw_below_drewN ?_ _ | refine below_alloc ?_ _))) C1.out TB1.out).mono ?_; rintro x wBt ⟨v1, rfl, hR, hb⟩; obtain ⟨P1t, p1t, rfl, n0, g0⟩ := Kd.S_reads hR; have KK1t := Aside0.mk g0; have KN1t := Aside0.mk n0; have HVBt := Aside0.mk (below_into (w := w22) hb (by with_reducible repeat (first | exact HV.out | exact HVAt.out | exact HVCt.out | refine below_drew1 ?_ | refine pw_below_drewN ?_ _ | refine below_alloc ?_ _))); have SZBt := HVBt.out.size; (try replace KK0t := Aside0.mk (Kd.C_below KK0t.out (below_into hb (by with_reducible repeat (first | exact Below.refl _ _ | refine below_drew1 ?_ | refine pw_below_drewN ?_ _ | refine below_alloc ?_ _))))); (try replace KK2t := Aside0.mk (Kd.C_below KK2t.out (below_into hb (by with_reducible repeat (first | exact Below.refl _ _ | refine below_drew1 ?_ | refine pw_below_drewN ?_ _ | refine below_alloc ?_ _))))); (first | (have BK : wBt.heap[w22.heap.size]? = some (.cells #[.slice none 0 0, .int .i64 0] 29 (0, 0)) := blk_below ?_ hb; rotate_left; (· (with_reducible repeat (first | exact BK | exact blk_new _ _ | refine blk_drewN ?_ _ | refine blk_drew ?_)))) | (have BK : wBt.heap[wAt.heap.size]? = some (.cells #[.slice none 0 0, .int .i64 0] 29 (0, 0)) := blk_below ?_ hb; rotate_left; (· (with_reducible repeat (first | exact BK | exact blk_new _ _ | refine blk_drewN ?_ _ | refine blk_drew ?_)))) | (have BK : wBt.heap[wCt.heap.size]? = some (.cells #[.slice none 0 0, .int .i64 0] 29 (0, 0)) := blk_below ?_ hb; rotate_left; (· (with_reducible repeat (first | exact BK | exact blk_new _ _ | refine blk_drewN ?_ _ | refine blk_drew ?_)))) | skip); (try (have Y0 := (blk_cell BK 0).trans (show _ = some (.slice none 0 0) from rfl); have Z0 := blk_frozen BK 0; have Y1 := (blk_cell BK 1).trans (show _ = some (.int .i64 0) from rfl); have Z1 := blk_frozen BK 1)); clear hR g0 n0) | (go_at_call 59; refine (laws_toEntry.calls kBig e0 e1 e2 A2 c2 l2 e0 e1 e2 m2 _ (Kd.C_below H2.out (by with_reducible repeat (first | exact HB.out | exact below_into HVAt.out HB.out | exact below_into HVBt.out HB.out | refine below_drew1 ?_ | refine pw_below_drewN ?_ _ | refine below_alloc ?_ _))) C2.out TB2.out).mono ?_; rintro x wCt ⟨v2, rfl, hR, hb⟩; obtain ⟨P2t, p2t, rfl, n0, g0⟩ := Kd.R_reads hR; have KK2t := Aside0.mk g0; have KN2t := Aside0.mk n0; have HVCt := Aside0.mk (below_into (w := w22) hb (by with_reducible repeat (first | exact HV.out | exact HVAt.out | exact HVBt.out | refine below_drew1 ?_ | refine pw_below_drewN ?_ _ | refine below_alloc ?_ _))); have SZCt := HVCt.out.size; (try replace KK0t := Aside0.mk (Kd.C_below KK0t.out (below_into hb (by with_reducible repeat (first | exact Below.refl _ _ | refine below_drew1 ?_ | refine pw_below_drewN ?_ _ | refine below_alloc ?_ _))))); (try replace KK1t := Aside0.mk (Kd.C_below KK1t.out (below_into hb (by with_reducible repeat (first | exact Below.refl _ _ | refine below_drew1 ?_ | refine pw_below_drewN ?_ _ | refine below_alloc ?_ _))))); (first | (have BK : wCt.heap[w22.heap.size]? = some (.cells #[.slice none 0 0, .int .i64 0] 29 (0, 0)) := blk_below ?_ hb; rotate_left; (· (with_reducible repeat (first | exact BK | exact blk_new _ _ | refine blk_drewN ?_ _ | refine blk_drew ?_)))) | (have BK : wCt.heap[wAt.heap.size]? = some (.cells #[.slice none 0 0, .int .i64 0] 29 (0, 0)) := blk_below ?_ hb; rotate_left; (· (with_reducible repeat (first | exact BK | exact blk_new _ _ | refine blk_drewN ?_ _ | refine blk_drew ?_)))) | (have BK : wCt.heap[wBt.heap.size]? = some (.cells #[.slice none 0 0, .int .i64 0] 29 (0, 0)) := blk_below ?_ hb; rotate_left; (· (with_reducible repeat (first | exact BK | exact blk_new _ _ | refine blk_drewN ?_ _ | refine blk_drew ?_)))) | skip); (try (have Y0 := (blk_cell BK 0).trans (show _ = some (.slice none 0 0) from rfl); have Z0 := blk_frozen BK 0; have Y1 := (blk_cell BK 1).trans (show _ = some (.int .i64 0) from rfl); have Z1 := blk_frozen BK 1)); clear hR g0 n0) | (go_at_call 18; refine (impl_Post.at P0t p0t m0 d c P1t p1t m1 h e0 e1 e2 P2t p2t m2 r0 rh rk _ (Kd.C_below KK0t.out (by with_reducible repeat (first | exact Below.refl _ _ | refine below_drew1 ?_ | refine pw_below_drewN ?_ _ | refine below_alloc ?_ _))) KN0t.out (Kd.C_below KK1t.out (by with_reducible repeat (first | exact Below.refl _ _ | refine below_drew1 ?_ | refine pw_below_drewN ?_ _ | refine below_alloc ?_ _))) KN1t.out (Kd.C_below KK2t.out (by with_reducible repeat (first | exact Below.refl _ _ | refine below_drew1 ?_ | refine pw_below_drewN ?_ _ | refine below_alloc ?_ _))) KN2t.out IT.out).mono ?_; rintro x wF ⟨vs, rfl, hR, hb⟩; obtain ⟨F0, eF0, rfl, n0, g0⟩ := Kd.S_reads hR; have NF := Aside0.mk n0; have KF := Aside0.mk g0; have HVF := Aside0.mk (below_into (w := w22) hb (by with_reducible repeat (first | exact HV.out | exact HVAt.out | exact HVBt.out | exact HVCt.out | refine below_drew1 ?_ | refine pw_below_drewN ?_ _ | refine below_alloc ?_ _))); have RRF := Aside0.mk (S_iv hR); have SZF := HVF.out.size; have SBF := below_start hb (show Below w22.heap.size w22 _ from (by with_reducible repeat (first | exact HV.out | exact HVAt.out | exact HVBt.out | exact HVCt.out | refine below_drew1 ?_ | refine pw_below_drewN ?_ _ | refine below_alloc ?_ _))); (first | (have BK : wF.heap[w22.heap.size]? = some (.cells #[.slice none 0 0, .int .i64 0] 29 (0, 0)) := blk_below ?_ hb; rotate_left; (· (with_reducible repeat (first | exact BK | exact blk_new _ _ | refine blk_drewN ?_ _ | refine blk_drew ?_)))) | (have BK : wF.heap[wAt.heap.size]? = some (.cells #[.slice none 0 0, .int .i64 0] 29 (0, 0)) := blk_below ?_ hb; rotate_left; (· (with_reducible repeat (first | exact BK | exact blk_new _ _ | refine blk_drewN ?_ _ | refine blk_drew ?_)))) | (have BK : wF.heap[wBt.heap.size]? = some (.cells #[.slice none 0 0, .int .i64 0] 29 (0, 0)) := blk_below ?_ hb; rotate_left; (· (with_reducible repeat (first | exact BK | exact blk_new _ _ | refine blk_drewN ?_ _ | refine blk_drew ?_)))) | (have BK : wF.heap[wCt.heap.size]? = some (.cells #[.slice none 0 0, .int .i64 0] 29 (0, 0)) := blk_below ?_ hb; rotate_left; (· (with_reducible repeat (first | exact BK | exact blk_new _ _ | refine blk_drewN ?_ _ | refine blk_drew ?_)))) | skip); (try (have Y0 := (blk_cell BK 0).trans (show _ = some (.slice none 0 0) from rfl); have Z0 := blk_frozen BK 0; have Y1 := (blk_cell BK 1).trans (show _ = some (.int .i64 0) from rfl); have Z1 := blk_frozen BK 1)); clear hR n0 g0)))
    all_goals (try go_wp2_with fail)
    all_goals go_meet
    all_goals (
      refine ⟨_, F0, eF0, rfl, rfl, ?_, ?_, NF, ⟨?_⟩, ⟨?_⟩⟩
      · first | exact Nat.le_refl _ | exact SZF | exact SZAt | exact SZBt | exact SZCt | omega
      · (with_reducible repeat (first | refine blk_drewN ?_ _ | refine blk_drew ?_)); first | exact blk2 BK _ _ | exact blk_new _ _
      · (with_reducible repeat (first | refine Kd.S_drewN ?_ _ | refine Kd.S_drew ?_))
        have RX := S_iv_lower RRF.out SBF (Nat.le_refl _)
        first | exact Kd.S_mono (S_put2 RX BK (by decide) _ _) (fun k hk => ⟨hk.1, Nat.lt_of_lt_of_le hk.2 (by simp)⟩) | exact Kd.S_mono (Kd.S_alloc RX _) (fun k hk => ⟨hk.1, Nat.lt_of_lt_of_le hk.2 (by simp)⟩)
      · (with_reducible repeat (first | refine pw_below_drewN ?_ _ | refine below_drew1 ?_)); first | exact below_put2 HVF.out (by first | exact Nat.le_refl _ | exact HVAt.out.size | exact HVBt.out.size | exact HVCt.out.size ) _ _ | exact below_alloc HVF.out _)
  obtain ⟨bF, F0, eF0, rfl, rfl, hble, hblk, NF, RF0, HVF⟩ := hcut
  obtain ⟨w23, rfl⟩ : ∃ W_ : World, W_ = wc := ⟨_, rfl⟩
  have hb := HVF.out
  replace f0_0 := pw_cell_below hb f0_0
  replace f0_1 := pw_cell_below hb f0_1
  replace f0_2 := pw_cell_below hb f0_2
  replace f1_0 := pw_cell_below hb f1_0
  replace f1_1 := pw_cell_below hb f1_1
  replace f2_0 := pw_cell_below hb f2_0
  replace f2_1 := pw_cell_below hb f2_1
  replace f2_2 := pw_cell_below hb f2_2
  replace f2_3 := pw_cell_below hb f2_3
  replace s_0 := pw_cell_below hb s_0
  replace s_1 := pw_cell_below hb s_1
  replace x0 := pw_cell_below hb x0
  replace x1 := pw_cell_below hb x1
  replace x2 := pw_cell_below hb x2
  replace y0 := pw_cell_below hb y0
  replace y1 := pw_cell_below hb y1
  replace z0 := pw_cell_below hb z0
  replace z1 := pw_cell_below hb z1
  replace z2 := pw_cell_below hb z2
  replace z3 := pw_cell_below hb z3
  replace g0 := pw_cell_below hb g0
  replace g1 := pw_cell_below hb g1
  replace RS0 := Aside0.mk (Kd.S_below RS0.out hb)
  replace RM0 := Aside0.mk (Kd.S_below RM0.out hb)
  replace HB := Aside0.mk (below_into (w := w) hb HB.out)
  replace B3 := Aside0.mk (below_into (w := w4) hb B3.out)
  have f_0 : w23.cell? ⟨bF, 0, none⟩ = some (.slice F0 r0.length eF0) := (blk_cell hblk 0).trans rfl
  have f_1 : w23.cell? ⟨bF, 1, none⟩ = some (.int .i64 rh) := (blk_cell hblk 1).trans rfl
  have z_F := blk_lt hblk
  have s_w23 := hb.size
  clear hb hblk HV HVF
  go_wp2_with fail
  refine (laws_eqLedger.calls F0 eF0 r0 rh S0 eS0 r0 rh _ ((Kd.S_reads' RF0.out).2.2) ((Kd.S_reads' RS0.out).2.2)).mono ?_
  rintro x w24 ⟨rfl, hb⟩
  replace f0_0 := pw_cell_below hb f0_0
  replace f0_1 := pw_cell_below hb f0_1
  replace f0_2 := pw_cell_below hb f0_2
  replace f1_0 := pw_cell_below hb f1_0
  replace f1_1 := pw_cell_below hb f1_1
  replace f2_0 := pw_cell_below hb f2_0
  replace f2_1 := pw_cell_below hb f2_1
  replace f2_2 := pw_cell_below hb f2_2
  replace f2_3 := pw_cell_below hb f2_3
  replace s_0 := pw_cell_below hb s_0
  replace s_1 := pw_cell_below hb s_1
  replace x0 := pw_cell_below hb x0
  replace x1 := pw_cell_below hb x1
  replace x2 := pw_cell_below hb x2
  replace y0 := pw_cell_below hb y0
  replace y1 := pw_cell_below hb y1
  replace z0 := pw_cell_below hb z0
  replace z1 := pw_cell_below hb z1
  replace z2 := pw_cell_below hb z2
  replace z3 := pw_cell_below hb z3
  replace g0 := pw_cell_below hb g0
  replace g1 := pw_cell_below hb g1
  replace f_0 := pw_cell_below hb f_0
  replace f_1 := pw_cell_below hb f_1
  replace RS0 := Aside0.mk (Kd.S_below RS0.out hb)
  replace RM0 := Aside0.mk (Kd.S_below RM0.out hb)
  replace RF0 := Aside0.mk (Kd.S_below RF0.out hb)
  replace HB := Aside0.mk (below_into (w := w) hb HB.out)
  replace B3 := Aside0.mk (below_into (w := w4) hb B3.out)
  have s_w24 := hb.size
  clear hb
  rw [← same_true rfl]
  go_wp2_with fail
  refine (HLD.out _ (by have hC := (Kd.S_reads' RM0.out).2.2; rw [NM.out] at hC; exact hC)).mono ?_
  rintro x w25 ⟨rfl, hb⟩
  replace f0_0 := pw_cell_below hb f0_0
  replace f0_1 := pw_cell_below hb f0_1
  replace f0_2 := pw_cell_below hb f0_2
  replace f1_0 := pw_cell_below hb f1_0
  replace f1_1 := pw_cell_below hb f1_1
  replace f2_0 := pw_cell_below hb f2_0
  replace f2_1 := pw_cell_below hb f2_1
  replace f2_2 := pw_cell_below hb f2_2
  replace f2_3 := pw_cell_below hb f2_3
  replace s_0 := pw_cell_below hb s_0
  replace s_1 := pw_cell_below hb s_1
  replace x0 := pw_cell_below hb x0
  replace x1 := pw_cell_below hb x1
  replace x2 := pw_cell_below hb x2
  replace y0 := pw_cell_below hb y0
  replace y1 := pw_cell_below hb y1
  replace z0 := pw_cell_below hb z0
  replace z1 := pw_cell_below hb z1
  replace z2 := pw_cell_below hb z2
  replace z3 := pw_cell_below hb z3
  replace g0 := pw_cell_below hb g0
  replace g1 := pw_cell_below hb g1
  replace f_0 := pw_cell_below hb f_0
  replace f_1 := pw_cell_below hb f_1
  replace RS0 := Aside0.mk (Kd.S_below RS0.out hb)
  replace RM0 := Aside0.mk (Kd.S_below RM0.out hb)
  replace RF0 := Aside0.mk (Kd.S_below RF0.out hb)
  replace HB := Aside0.mk (below_into (w := w) hb HB.out)
  replace B3 := Aside0.mk (below_into (w := w4) hb B3.out)
  have s_w25 := hb.size
  clear hb
  go_wp2_with fail
  go_ret
  exact ⟨rfl, HB.out⟩
end Go.Proofs.Ytphmnkcfjgallaa.Q
