/- Parts of the proof: what functions of the program and of the reference answer.
   No condition. -/
import Derived.Test.YtphmnkcfjgallaaWRepsOne
import Derived.Test.YtphmnkcfjgallaaZC1
import Derived.Test.YtphmnkcfjgallaaZMoves2
import Derived.Test.YtphmnkcfjgallaaZL3
import Derived.Test.YtphmnkcfjgallaaZM1
import Derived.Test.YtphmnkcfjgallaaZL2
import Derived.Test.YtphmnkcfjgallaaZMoves1
import Derived.Test.YtphmnkcfjgallaaZM2
import Derived.Test.YtphmnkcfjgallaaZMoves4
namespace Go.Proofs.Ytphmnkcfjgallaa.Q
open Go.RowKit Go.Proofs.YtphmnkcfjgallaaW.PrintWords Go.Proofs.YtphmnkcfjgallaaW.PrintLast Go.Proofs.YtphmnkcfjgallaaW.PrintMore
set_option linter.unusedVariables false
set_option linter.unusedSimpArgs false
theorem heldIntS_from (A : Option Addr) (c : Nat) (l : List Int) (a : Int) (W : World) (hr : Kd.C (Kd.int .i64) W A l.length (mAll mNum nNum a l)) (hc : l.length ≤ c) (hl : l.length ≤ 1048576) (h0 : 0 ≤ a) (h1 : a ≤ 1000000000000000) :
    Calls Try.prog 54 #[.slice A l.length c, .int .i64 a] W fun e w' => e = .returned (.int .i64 (nAll nNum a l)) ∧ Drawn0 W w' := by
  have := laws_heldIntS.calls (l.length + 1) A c (mAll mNum nNum a l) a (nAll nNum a l) W (by rw [mAll_length]; exact hr) (by rw [mAll_length]; exact hc) (laws_heldIntS_is l _ a (by omega) hl h0 h1)
  rw [mAll_length] at this
  exact this
set_option maxHeartbeats 32000000 in
set_option maxRecDepth 100000 in
theorem laws_FnExactMoves.to (A0 : Option Addr) (c0 : Nat) (l0 : List S176) (d c : Int) (A1 : Option Addr) (c1 : Nat) (l1 : List S93) (h : Int) (A2 : Option Addr) (c2 : Nat) (l2 : List S138) (a b at_ : Int) (w : World)
    (hr0 : Kd.C k176 w A0 l0.length l0) (hc0 : l0.length ≤ c0) (hr1 : Kd.C k93 w A1 l1.length l1) (hc1 : l1.length ≤ c1) (hr2 : Kd.C k138 w A2 l2.length l2) (hc2 : l2.length ≤ c2)
    (hw : wf65 (⟨(⟨l0, d, c⟩ : S59), (⟨l1, h⟩ : S62), l2, a, b⟩ : S65)) (hwt : (Lit.int .i64 at_).wf = true) :
    Calls Try.prog 11 #[.agg #[.slice A0 l0.length c0, .int .i64 d, .int .i64 c, .slice A1 l1.length c1, .int .i64 h, .slice A2 l2.length c2, .int .i64 a, .int .i64 b], .int .i64 at_] w fun e w' => e = .returned (.bool true) ∧ Below w.heap.size w w' := by
  have H0 := Aside0.mk hr0
  have H1 := Aside0.mk hr1
  have H2 := Aside0.mk hr2
  have C0 := Aside0.mk hc0
  have C1 := Aside0.mk hc1
  have C2 := Aside0.mk hc2
  have HW := Aside0.mk hw
  have HT0 := Aside0.mk (text_cvAccount hw.1.1.2)
  have HT1 := Aside0.mk (text_cvEntry hw.2.1.1.2)
  have HB := Aside0.mk (below_alloc (Below.refl w.heap.size w) (.cells #[.slice A0 l0.length c0, .int .i64 d, .int .i64 c, .slice A1 l1.length c1, .int .i64 h, .slice A2 l2.length c2, .int .i64 a, .int .i64 b] 65))
  clear hr0 hr1 hr2 hw hc0 hc1 hc2 hwt
  go_enter Try.func11, Try.ntmps11
  go_wp2_with fail
  refine (laws_szBooks.calls A0 c0 l0 d c A1 c1 l1 h A2 c2 l2 a b 1048576 _ (Kd.C_below H0.out HB.out) (Kd.C_below H1.out HB.out) (Kd.C_below H2.out HB.out) (by omega) (by omega) HW.out).mono ?_
  rintro x w2 ⟨r, rfl, q1, q2, q3, hb⟩
  have f0 : w2.cell? ⟨w.heap.size, 0, none⟩ = some (.slice A0 l0.length c0) := pw_cell_below hb (by go_simp)
  have f1 : w2.cell? ⟨w.heap.size, 1, none⟩ = some (.int .i64 d) := pw_cell_below hb (by go_simp)
  have f2 : w2.cell? ⟨w.heap.size, 2, none⟩ = some (.int .i64 c) := pw_cell_below hb (by go_simp)
  have f3 : w2.cell? ⟨w.heap.size, 3, none⟩ = some (.slice A1 l1.length c1) := pw_cell_below hb (by go_simp)
  have f4 : w2.cell? ⟨w.heap.size, 4, none⟩ = some (.int .i64 h) := pw_cell_below hb (by go_simp)
  have f5 : w2.cell? ⟨w.heap.size, 5, none⟩ = some (.slice A2 l2.length c2) := pw_cell_below hb (by go_simp)
  have f6 : w2.cell? ⟨w.heap.size, 6, none⟩ = some (.int .i64 a) := pw_cell_below hb (by go_simp)
  have f7 : w2.cell? ⟨w.heap.size, 7, none⟩ = some (.int .i64 b) := pw_cell_below hb (by go_simp)
  replace HB := Aside0.mk (below_into (w := w) hb HB.out)
  have HS := Aside0.mk q3
  have z_f0 := World.block_lt_of_cell? _ _ f0
  clear hb q3
  by_cases hr : r < 0
  case pos =>
    go_wp2_with fail
    go_ret
    exact ⟨rfl, HB.out⟩
  have SM := Aside0.mk (HS.out (by omega))
  have TB := Aside0.mk (laws_toBooks_is l0 d c l1 h l2 a b kBig SM.out kBig_le)
  have ML0 := Aside0.mk (show (l0.map cvAccount).length ≤ 1048576 by rw [List.length_map]; exact SM.out.1)
  have ML1 := Aside0.mk (show (l1.map cvEntry).length ≤ 1048576 ∧ ∀ x ∈ l1.map cvEntry, x.f3.length ≤ 1048576 from ⟨by rw [List.length_map]; exact SM.out.2.1.1, fun x hx => by
    obtain ⟨y, hy, rfl⟩ := List.mem_map.1 hx
    show (y.f3.map cvLine).length ≤ 1048576
    rw [List.length_map]
    exact SM.out.2.1.2 y hy⟩)
  have ML2 := Aside0.mk (show (l2.map cvPeriod).length ≤ 1048576 by rw [List.length_map]; exact SM.out.2.2)
  clear HS SM
  generalize l0.map cvAccount = m0 at *
  generalize l1.map cvEntry = m1 at *
  generalize l2.map cvPeriod = m2 at *
  go_wp2_with fail
  refine (laws_toBooks.calls kBig A0 c0 l0 d c A1 c1 l1 h A2 c2 l2 a b m0 d c m1 h m2 a b _ (Kd.C_below H0.out HB.out) C0.out (Kd.C_below H1.out HB.out) C1.out (Kd.C_below H2.out HB.out) C2.out TB.out).mono ?_
  rintro x w3 ⟨v0, v3, v5, rfl, hR0, hR3, hR5, hb⟩
  obtain ⟨B0, e0, rfl, n0, g0⟩ := Kd.R_reads hR0
  obtain ⟨B1, e1, rfl, n1, g1⟩ := Kd.S_reads hR3
  obtain ⟨B2, e2, rfl, n2, g2⟩ := Kd.R_reads hR5
  have G0 := Aside0.mk g0
  have G1 := Aside0.mk g1
  have G2 := Aside0.mk g2
  have N1 := Aside0.mk n1
  replace f0 := pw_cell_below hb f0
  replace f1 := pw_cell_below hb f1
  replace f2 := pw_cell_below hb f2
  replace f3 := pw_cell_below hb f3
  replace f4 := pw_cell_below hb f4
  replace f5 := pw_cell_below hb f5
  replace f6 := pw_cell_below hb f6
  replace f7 := pw_cell_below hb f7
  replace HB := Aside0.mk (below_into (w := w) hb HB.out)
  have s_w3 := hb.size
  clear hb hR0 hR3 hR5 g0 g1 g2 n0 n1 n2
  go_wp2_with fail
  refine (spec_Moves.to B0 e0 m0 d c B1 e1 m1 h B2 e2 m2 a b at_ _ G0.out HT0.out G1.out N1.out HT1.out G2.out ML2.out).mono ?_
  rintro x w4 ⟨v0, v1, v2, rfl, hR0, hR1, hR2, hb⟩
  obtain ⟨mr, hmr⟩ : ∃ m, m = movesR m0 d c m1 h m2 a b at_ := ⟨_, rfl⟩
  rw [← hmr] at hR0 hR1 hR2
  have HMR := Aside0.mk hmr
  have MRL := Aside0.mk (show mr.1.length ≤ 1048576 ∧ mr.2.1.length ≤ 1048576 ∧ mr.2.2.length ≤ 1048576 by
    rw [hmr]
    unfold movesR
    have := ML0.out
    split
    · simp only [mapN_len]; exact ⟨this, this, this⟩
    · exact ⟨by simp, by simp, by simp⟩)
  obtain ⟨s0, s1, s2⟩ := mr
  simp only at hR0 hR1 hR2 MRL
  obtain ⟨D0, i0, rfl, k0, _⟩ := Kd.R_reads hR0
  obtain ⟨D1, i1, rfl, k1, _⟩ := Kd.R_reads hR1
  obtain ⟨D2, i2, rfl, k2, _⟩ := Kd.R_reads hR2
  have RS0 := Aside0.mk (R_iv hR0)
  have RS1 := Aside0.mk (R_iv hR1)
  have RS2 := Aside0.mk (R_iv hR2)
  have NS0 := Aside0.mk k0
  have NS1 := Aside0.mk k1
  have NS2 := Aside0.mk k2
  replace f0 := pw_cell_below hb f0
  replace f1 := pw_cell_below hb f1
  replace f2 := pw_cell_below hb f2
  replace f3 := pw_cell_below hb f3
  replace f4 := pw_cell_below hb f4
  replace f5 := pw_cell_below hb f5
  replace f6 := pw_cell_below hb f6
  replace f7 := pw_cell_below hb f7
  replace HB := Aside0.mk (below_into (w := w) hb HB.out)
  have s_w4 := hb.size
  clear hb hR0 hR1 hR2 k0 k1 k2 hmr G0 G1 G2 N1
  have HBW := HB
  go_wp2_with fail
  refine (laws_toBooks.calls kBig A0 c0 l0 d c A1 c1 l1 h A2 c2 l2 a b m0 d c m1 h m2 a b _ (Kd.C_below H0.out HB.out) C0.out (Kd.C_below H1.out HB.out) C1.out (Kd.C_below H2.out HB.out) C2.out TB.out).mono ?_
  rintro x w5 ⟨v0, v3, v5, rfl, hR0, hR3, hR5, hb⟩
  obtain ⟨X0, e0, rfl, n0, _⟩ := Kd.R_reads hR0
  obtain ⟨X1, e1, rfl, n1, _⟩ := Kd.S_reads hR3
  obtain ⟨X2, e2, rfl, n2, _⟩ := Kd.R_reads hR5
  have RX0 := Aside0.mk (R_iv hR0)
  have RX1 := Aside0.mk (S_iv hR3)
  have RX2 := Aside0.mk (R_iv hR5)
  have N1 := Aside0.mk n1
  have B3 := Aside0.mk (Below.refl w4.heap.size w4)
  replace f0 := pw_cell_below hb f0
  replace f1 := pw_cell_below hb f1
  replace f2 := pw_cell_below hb f2
  replace f3 := pw_cell_below hb f3
  replace f4 := pw_cell_below hb f4
  replace f5 := pw_cell_below hb f5
  replace f6 := pw_cell_below hb f6
  replace f7 := pw_cell_below hb f7
  replace RS0 := Aside0.mk (Kd.R_below RS0.out hb)
  replace RS1 := Aside0.mk (Kd.R_below RS1.out hb)
  replace RS2 := Aside0.mk (Kd.R_below RS2.out hb)
  replace HB := Aside0.mk (below_into (w := w) hb HB.out)
  replace B3 := Aside0.mk (below_into (w := w4) hb B3.out)
  have s_w5 := hb.size
  clear hb hR0 hR3 hR5 n0 n1 n2
  have zz_f0 := World.block_lt_of_cell? _ _ f0
  go_wp2_with fail
  have y0 : (w5.alloc (.cells #[.slice X0 m0.length e0, .int .i64 d, .int .i64 c, .slice X1 m1.length e1, .int .i64 h, .slice X2 m2.length e2, .int .i64 a, .int .i64 b] 50)).cell? ⟨w5.heap.size, 0, none⟩ = some (.slice X0 m0.length e0) := by go_simp
  have y1 : (w5.alloc (.cells #[.slice X0 m0.length e0, .int .i64 d, .int .i64 c, .slice X1 m1.length e1, .int .i64 h, .slice X2 m2.length e2, .int .i64 a, .int .i64 b] 50)).cell? ⟨w5.heap.size, 1, none⟩ = some (.int .i64 d) := by go_simp
  have y2 : (w5.alloc (.cells #[.slice X0 m0.length e0, .int .i64 d, .int .i64 c, .slice X1 m1.length e1, .int .i64 h, .slice X2 m2.length e2, .int .i64 a, .int .i64 b] 50)).cell? ⟨w5.heap.size, 2, none⟩ = some (.int .i64 c) := by go_simp
  have y3 : (w5.alloc (.cells #[.slice X0 m0.length e0, .int .i64 d, .int .i64 c, .slice X1 m1.length e1, .int .i64 h, .slice X2 m2.length e2, .int .i64 a, .int .i64 b] 50)).cell? ⟨w5.heap.size, 3, none⟩ = some (.slice X1 m1.length e1) := by go_simp
  have y4 : (w5.alloc (.cells #[.slice X0 m0.length e0, .int .i64 d, .int .i64 c, .slice X1 m1.length e1, .int .i64 h, .slice X2 m2.length e2, .int .i64 a, .int .i64 b] 50)).cell? ⟨w5.heap.size, 4, none⟩ = some (.int .i64 h) := by go_simp
  have y5 : (w5.alloc (.cells #[.slice X0 m0.length e0, .int .i64 d, .int .i64 c, .slice X1 m1.length e1, .int .i64 h, .slice X2 m2.length e2, .int .i64 a, .int .i64 b] 50)).cell? ⟨w5.heap.size, 5, none⟩ = some (.slice X2 m2.length e2) := by go_simp
  have y6 : (w5.alloc (.cells #[.slice X0 m0.length e0, .int .i64 d, .int .i64 c, .slice X1 m1.length e1, .int .i64 h, .slice X2 m2.length e2, .int .i64 a, .int .i64 b] 50)).cell? ⟨w5.heap.size, 6, none⟩ = some (.int .i64 a) := by go_simp
  have y7 : (w5.alloc (.cells #[.slice X0 m0.length e0, .int .i64 d, .int .i64 c, .slice X1 m1.length e1, .int .i64 h, .slice X2 m2.length e2, .int .i64 a, .int .i64 b] 50)).cell? ⟨w5.heap.size, 7, none⟩ = some (.int .i64 b) := by go_simp
  have hb := below_alloc (Below.refl w5.heap.size w5) (.cells #[.slice X0 m0.length e0, .int .i64 d, .int .i64 c, .slice X1 m1.length e1, .int .i64 h, .slice X2 m2.length e2, .int .i64 a, .int .i64 b] 50)
  replace f0 := pw_cell_below hb f0
  replace f1 := pw_cell_below hb f1
  replace f2 := pw_cell_below hb f2
  replace f3 := pw_cell_below hb f3
  replace f4 := pw_cell_below hb f4
  replace f5 := pw_cell_below hb f5
  replace f6 := pw_cell_below hb f6
  replace f7 := pw_cell_below hb f7
  replace RS0 := Aside0.mk (Kd.R_below RS0.out hb)
  replace RS1 := Aside0.mk (Kd.R_below RS1.out hb)
  replace RS2 := Aside0.mk (Kd.R_below RS2.out hb)
  replace RX0 := Aside0.mk (Kd.R_below RX0.out hb)
  replace RX1 := Aside0.mk (Kd.S_below RX1.out hb)
  replace RX2 := Aside0.mk (Kd.R_below RX2.out hb)
  replace HB := Aside0.mk (below_into (w := w) hb HB.out)
  replace B3 := Aside0.mk (below_into (w := w4) hb B3.out)
  have s_w6 : w5.heap.size < (w5.alloc (.cells #[.slice X0 m0.length e0, .int .i64 d, .int .i64 c, .slice X1 m1.length e1, .int .i64 h, .slice X2 m2.length e2, .int .i64 a, .int .i64 b] 50)).heap.size := by simp
  clear hb
  generalize w5.alloc (.cells #[.slice X0 m0.length e0, .int .i64 d, .int .i64 c, .slice X1 m1.length e1, .int .i64 h, .slice X2 m2.length e2, .int .i64 a, .int .i64 b] 50) = w6 at *
  have z_y0 := World.block_lt_of_cell? _ _ y0
  refine (impl_Moves.to X0 e0 m0 d c X1 e1 m1 h X2 e2 m2 a b at_ _ ((Kd.R_reads' RX0.out).2.2) HT0.out ((Kd.S_reads' RX1.out).2.2) HT1.out ((Kd.R_reads' RX2.out).2.2)).mono ?_
  rintro x w7 ⟨v0, v1, v2, rfl, hth, hb⟩
  rw [← HMR.out] at hth
  obtain ⟨p0, p1, p2, p3, p4, p5, g0, g1, g2, g3, g4, g5, g6, hR0, hR1, hR2⟩ := hth
  simp only at hR0 hR1 hR2
  obtain ⟨G0, j0, rfl, k0, _⟩ := Kd.R_reads hR0
  obtain ⟨G1, j1, rfl, k1, _⟩ := Kd.R_reads hR1
  obtain ⟨G2, j2, rfl, k2, _⟩ := Kd.R_reads hR2
  have RG0 := Aside0.mk (show Kd.R (Kd.int .i64) 3 w7 w4.heap.size (Iv p0 p1) _ _ from Kd.R_lower hR0 (by omega))
  have RG1 := Aside0.mk (show Kd.R (Kd.int .i64) 3 w7 w4.heap.size (Iv p2 p3) _ _ from Kd.R_lower hR1 (by omega))
  have RG2 := Aside0.mk (show Kd.R (Kd.int .i64) 3 w7 w4.heap.size (Iv p4 p5) _ _ from Kd.R_lower hR2 (by omega))
  have NG0 := Aside0.mk k0
  have NG1 := Aside0.mk k1
  have NG2 := Aside0.mk k2
  replace f0 := pw_cell_below hb f0
  replace f1 := pw_cell_below hb f1
  replace f2 := pw_cell_below hb f2
  replace f3 := pw_cell_below hb f3
  replace f4 := pw_cell_below hb f4
  replace f5 := pw_cell_below hb f5
  replace f6 := pw_cell_below hb f6
  replace f7 := pw_cell_below hb f7
  replace y0 := pw_cell_below hb y0
  replace y1 := pw_cell_below hb y1
  replace y2 := pw_cell_below hb y2
  replace y3 := pw_cell_below hb y3
  replace y4 := pw_cell_below hb y4
  replace y5 := pw_cell_below hb y5
  replace y6 := pw_cell_below hb y6
  replace y7 := pw_cell_below hb y7
  replace RS0 := Aside0.mk (Kd.R_below RS0.out hb)
  replace RS1 := Aside0.mk (Kd.R_below RS1.out hb)
  replace RS2 := Aside0.mk (Kd.R_below RS2.out hb)
  replace RX0 := Aside0.mk (Kd.R_below RX0.out hb)
  replace RX1 := Aside0.mk (Kd.S_below RX1.out hb)
  replace RX2 := Aside0.mk (Kd.R_below RX2.out hb)
  replace HB := Aside0.mk (below_into (w := w) hb HB.out)
  replace B3 := Aside0.mk (below_into (w := w4) hb B3.out)
  have s_w7 := hb.size
  clear hb hR0 hR1 hR2 k0 k1 k2
  go_wp2_with fail
  refine (laws_eqIntS.calls kBig G0 j0 s0 D0 i0 s0 true _ ((Kd.R_reads' RG0.out).2.2) NG0.out ((Kd.R_reads' RS0.out).2.2) NS0.out (laws_eqIntS_same s0 MRL.out.1 kBig (Nat.lt_of_le_of_lt MRL.out.1 (Nat.lt_of_lt_of_le (by omega) kBig_le)))).mono ?_
  rintro x w8 ⟨rfl, hd⟩
  have hb := hd.below
  replace f0 := pw_cell_below hb f0
  replace f1 := pw_cell_below hb f1
  replace f2 := pw_cell_below hb f2
  replace f3 := pw_cell_below hb f3
  replace f4 := pw_cell_below hb f4
  replace f5 := pw_cell_below hb f5
  replace f6 := pw_cell_below hb f6
  replace f7 := pw_cell_below hb f7
  replace y0 := pw_cell_below hb y0
  replace y1 := pw_cell_below hb y1
  replace y2 := pw_cell_below hb y2
  replace y3 := pw_cell_below hb y3
  replace y4 := pw_cell_below hb y4
  replace y5 := pw_cell_below hb y5
  replace y6 := pw_cell_below hb y6
  replace y7 := pw_cell_below hb y7
  replace RS0 := Aside0.mk (Kd.R_below RS0.out hb)
  replace RS1 := Aside0.mk (Kd.R_below RS1.out hb)
  replace RS2 := Aside0.mk (Kd.R_below RS2.out hb)
  replace RX0 := Aside0.mk (Kd.R_below RX0.out hb)
  replace RX1 := Aside0.mk (Kd.S_below RX1.out hb)
  replace RX2 := Aside0.mk (Kd.R_below RX2.out hb)
  replace RG0 := Aside0.mk (Kd.R_below RG0.out hb)
  replace RG1 := Aside0.mk (Kd.R_below RG1.out hb)
  replace RG2 := Aside0.mk (Kd.R_below RG2.out hb)
  replace HB := Aside0.mk (below_into (w := w) hb HB.out)
  replace B3 := Aside0.mk (below_into (w := w4) hb B3.out)
  have s_w8 := hb.size
  clear hd hb
  go_wp2_with fail
  refine (laws_eqIntS.calls kBig G1 j1 s1 D1 i1 s1 true _ ((Kd.R_reads' RG1.out).2.2) NG1.out ((Kd.R_reads' RS1.out).2.2) NS1.out (laws_eqIntS_same s1 MRL.out.2.1 kBig (Nat.lt_of_le_of_lt MRL.out.2.1 (Nat.lt_of_lt_of_le (by omega) kBig_le)))).mono ?_
  rintro x w9 ⟨rfl, hd⟩
  have hb := hd.below
  replace f0 := pw_cell_below hb f0
  replace f1 := pw_cell_below hb f1
  replace f2 := pw_cell_below hb f2
  replace f3 := pw_cell_below hb f3
  replace f4 := pw_cell_below hb f4
  replace f5 := pw_cell_below hb f5
  replace f6 := pw_cell_below hb f6
  replace f7 := pw_cell_below hb f7
  replace y0 := pw_cell_below hb y0
  replace y1 := pw_cell_below hb y1
  replace y2 := pw_cell_below hb y2
  replace y3 := pw_cell_below hb y3
  replace y4 := pw_cell_below hb y4
  replace y5 := pw_cell_below hb y5
  replace y6 := pw_cell_below hb y6
  replace y7 := pw_cell_below hb y7
  replace RS0 := Aside0.mk (Kd.R_below RS0.out hb)
  replace RS1 := Aside0.mk (Kd.R_below RS1.out hb)
  replace RS2 := Aside0.mk (Kd.R_below RS2.out hb)
  replace RX0 := Aside0.mk (Kd.R_below RX0.out hb)
  replace RX1 := Aside0.mk (Kd.S_below RX1.out hb)
  replace RX2 := Aside0.mk (Kd.R_below RX2.out hb)
  replace RG0 := Aside0.mk (Kd.R_below RG0.out hb)
  replace RG1 := Aside0.mk (Kd.R_below RG1.out hb)
  replace RG2 := Aside0.mk (Kd.R_below RG2.out hb)
  replace HB := Aside0.mk (below_into (w := w) hb HB.out)
  replace B3 := Aside0.mk (below_into (w := w4) hb B3.out)
  have s_w9 := hb.size
  clear hd hb
  go_wp2_with fail
  refine (laws_eqIntS.calls kBig G2 j2 s2 D2 i2 s2 true _ ((Kd.R_reads' RG2.out).2.2) NG2.out ((Kd.R_reads' RS2.out).2.2) NS2.out (laws_eqIntS_same s2 MRL.out.2.2 kBig (Nat.lt_of_le_of_lt MRL.out.2.2 (Nat.lt_of_lt_of_le (by omega) kBig_le)))).mono ?_
  rintro x w10 ⟨rfl, hd⟩
  have hb := hd.below
  replace f0 := pw_cell_below hb f0
  replace f1 := pw_cell_below hb f1
  replace f2 := pw_cell_below hb f2
  replace f3 := pw_cell_below hb f3
  replace f4 := pw_cell_below hb f4
  replace f5 := pw_cell_below hb f5
  replace f6 := pw_cell_below hb f6
  replace f7 := pw_cell_below hb f7
  replace y0 := pw_cell_below hb y0
  replace y1 := pw_cell_below hb y1
  replace y2 := pw_cell_below hb y2
  replace y3 := pw_cell_below hb y3
  replace y4 := pw_cell_below hb y4
  replace y5 := pw_cell_below hb y5
  replace y6 := pw_cell_below hb y6
  replace y7 := pw_cell_below hb y7
  replace RS0 := Aside0.mk (Kd.R_below RS0.out hb)
  replace RS1 := Aside0.mk (Kd.R_below RS1.out hb)
  replace RS2 := Aside0.mk (Kd.R_below RS2.out hb)
  replace RX0 := Aside0.mk (Kd.R_below RX0.out hb)
  replace RX1 := Aside0.mk (Kd.S_below RX1.out hb)
  replace RX2 := Aside0.mk (Kd.R_below RX2.out hb)
  replace RG0 := Aside0.mk (Kd.R_below RG0.out hb)
  replace RG1 := Aside0.mk (Kd.R_below RG1.out hb)
  replace RG2 := Aside0.mk (Kd.R_below RG2.out hb)
  replace HB := Aside0.mk (below_into (w := w) hb HB.out)
  replace B3 := Aside0.mk (below_into (w := w4) hb B3.out)
  have s_w10 := hb.size
  clear hd hb
  go_wp2_with fail
  have HV := Aside0.mk (Below.refl w10.heap.size w10)
  go_region_held3 (fun w' => w'.cell? ⟨w.heap.size, 0, none⟩ = some (.slice A0 l0.length c0) ∧ w'.cell? ⟨w.heap.size, 1, none⟩ = some (.int .i64 d) ∧ w'.cell? ⟨w.heap.size, 2, none⟩ = some (.int .i64 c) ∧ w'.cell? ⟨w.heap.size, 3, none⟩ = some (.slice A1 l1.length c1) ∧ w'.cell? ⟨w.heap.size, 4, none⟩ = some (.int .i64 h) ∧ w'.cell? ⟨w.heap.size, 5, none⟩ = some (.slice A2 l2.length c2) ∧ w'.cell? ⟨w.heap.size, 6, none⟩ = some (.int .i64 a) ∧ w'.cell? ⟨w.heap.size, 7, none⟩ = some (.int .i64 b) ∧ w'.cell? ⟨w5.heap.size, 0, none⟩ = some (.slice X0 m0.length e0) ∧ w'.cell? ⟨w5.heap.size, 1, none⟩ = some (.int .i64 d) ∧ w'.cell? ⟨w5.heap.size, 2, none⟩ = some (.int .i64 c) ∧ w'.cell? ⟨w5.heap.size, 3, none⟩ = some (.slice X1 m1.length e1) ∧ w'.cell? ⟨w5.heap.size, 4, none⟩ = some (.int .i64 h) ∧ w'.cell? ⟨w5.heap.size, 5, none⟩ = some (.slice X2 m2.length e2) ∧ w'.cell? ⟨w5.heap.size, 6, none⟩ = some (.int .i64 a) ∧ w'.cell? ⟨w5.heap.size, 7, none⟩ = some (.int .i64 b)) ((first | go_keep | exact ⟨pw_cell_below hb (by assumption), pw_cell_below hb (by assumption), pw_cell_below hb (by assumption), pw_cell_below hb (by assumption), pw_cell_below hb (by assumption), pw_cell_below hb (by assumption), pw_cell_below hb (by assumption), pw_cell_below hb (by assumption), pw_cell_below hb (by assumption), pw_cell_below hb (by assumption), pw_cell_below hb (by assumption), pw_cell_below hb (by assumption), pw_cell_below hb (by assumption), pw_cell_below hb (by assumption), pw_cell_below hb (by assumption), pw_cell_below hb (by assumption)⟩ | (have hH := ‹_ ∧ _›; obtain ⟨t0, t1, t2, t3, t4, t5, t6, t7, t8, t9, t10, t11, t12, t13, t14, t15⟩ := hH; exact ⟨pw_cell_below hb t0, pw_cell_below hb t1, pw_cell_below hb t2, pw_cell_below hb t3, pw_cell_below hb t4, pw_cell_below hb t5, pw_cell_below hb t6, pw_cell_below hb t7, pw_cell_below hb t8, pw_cell_below hb t9, pw_cell_below hb t10, pw_cell_below hb t11, pw_cell_below hb t12, pw_cell_below hb t13, pw_cell_below hb t14, pw_cell_below hb t15⟩)))
    ((first | (go_at_call 31; refine (laws_toBooks.calls kBig A0 c0 l0 d c A1 c1 l1 h A2 c2 l2 a b m0 d c m1 h m2 a b _ (Kd.C_below H0.out (by repeat (first | exact HB.out | refine below_drew1 ?_ | refine pw_below_drewN ?_ _))) C0.out (Kd.C_below H1.out (by repeat (first | exact HB.out | refine below_drew1 ?_ | refine pw_below_drewN ?_ _))) C1.out (Kd.C_below H2.out (by repeat (first | exact HB.out | refine below_drew1 ?_ | refine pw_below_drewN ?_ _))) C2.out TB.out).mono ?_; rintro x wA ⟨v0, v3, v5, rfl, hR0, hR3, hR5, hb⟩; obtain ⟨P0, q0, rfl, n0, t0⟩ := Kd.R_reads hR0; obtain ⟨P1, q1, rfl, n1, t1⟩ := Kd.S_reads hR3; obtain ⟨P2, q2, rfl, n2, t2⟩ := Kd.R_reads hR5; have K0a := Aside0.mk t0; have K1a := Aside0.mk t1; have K2a := Aside0.mk t2; have HVAa := Aside0.mk (below_into (w := w10) hb (by repeat (first | exact HV.out | refine below_drew1 ?_ | refine pw_below_drewN ?_ _))); clear hR0 hR3 hR5 n0 n1 n2 t0 t1 t2) | (go_at_call 33; refine (laws_eqBooks.calls X0 e0 m0 d c X1 e1 m1 h X2 e2 m2 a b P0 q0 m0 d c P1 q1 m1 h P2 q2 m2 a b _ (Kd.C_below ((Kd.R_reads' RX0.out).2.2) (by repeat (first | exact HV.out | exact HVAa.out | refine below_drew1 ?_ | refine pw_below_drewN ?_ _))) (Kd.C_below ((Kd.S_reads' RX1.out).2.2) (by repeat (first | exact HV.out | exact HVAa.out | refine below_drew1 ?_ | refine pw_below_drewN ?_ _))) (Kd.C_below ((Kd.R_reads' RX2.out).2.2) (by repeat (first | exact HV.out | exact HVAa.out | refine below_drew1 ?_ | refine pw_below_drewN ?_ _))) (Kd.C_below K0a.out (by repeat (first | exact Below.refl _ _ | refine below_drew1 ?_ | refine pw_below_drewN ?_ _))) (Kd.C_below K1a.out (by repeat (first | exact Below.refl _ _ | refine below_drew1 ?_ | refine pw_below_drewN ?_ _))) (Kd.C_below K2a.out (by repeat (first | exact Below.refl _ _ | refine below_drew1 ?_ | refine pw_below_drewN ?_ _)))).mono ?_; rintro x w11 ⟨rfl, hb⟩; have HVE1 := Aside0.mk (below_into (w := w10) hb (by repeat (first | exact HV.out | exact HVAa.out | refine below_drew1 ?_ | refine pw_below_drewN ?_ _))))))
  clear f0 f1 f2 f3 f4 f5 f6 f7 y0 y1 y2 y3 y4 y5 y6 y7
  have hH := ‹_ ∧ _›
  obtain ⟨f0, f1, f2, f3, f4, f5, f6, f7, y0, y1, y2, y3, y4, y5, y6, y7⟩ := hH
  have hb := HVE1.out
  replace RS0 := Aside0.mk (Kd.R_below RS0.out hb)
  replace RS1 := Aside0.mk (Kd.R_below RS1.out hb)
  replace RS2 := Aside0.mk (Kd.R_below RS2.out hb)
  replace RX0 := Aside0.mk (Kd.R_below RX0.out hb)
  replace RX1 := Aside0.mk (Kd.S_below RX1.out hb)
  replace RX2 := Aside0.mk (Kd.R_below RX2.out hb)
  replace RG0 := Aside0.mk (Kd.R_below RG0.out hb)
  replace RG1 := Aside0.mk (Kd.R_below RG1.out hb)
  replace RG2 := Aside0.mk (Kd.R_below RG2.out hb)
  replace HB := Aside0.mk (below_into (w := w) hb HB.out)
  replace B3 := Aside0.mk (below_into (w := w4) hb B3.out)
  have s_w11 := hb.size
  clear hb HV
  rw [← same_true rfl]
  go_wp2_with fail
  refine (laws_markBooks.to w4.heap.size w5.heap.size X0 e0 m0 d c X1 e1 m1 h X2 e2 m2 a b 1 w4 _ B3.out RX0.out RX1.out RX2.out (by omega) (by omega) (by omega) ML0.out ML1.out.1 ML1.out.2 ML2.out).mono ?_
  rintro x w12 ⟨⟨K1, rfl, hK0, hK1⟩, hB3, hK⟩
  replace f0 := cell_iv_kept f0 hK (by first | exact Or.inl (show w.heap.size < w4.heap.size by omega) | exact Or.inr (show w5.heap.size ≤ w.heap.size by omega))
  replace f1 := cell_iv_kept f1 hK (by first | exact Or.inl (show w.heap.size < w4.heap.size by omega) | exact Or.inr (show w5.heap.size ≤ w.heap.size by omega))
  replace f2 := cell_iv_kept f2 hK (by first | exact Or.inl (show w.heap.size < w4.heap.size by omega) | exact Or.inr (show w5.heap.size ≤ w.heap.size by omega))
  replace f3 := cell_iv_kept f3 hK (by first | exact Or.inl (show w.heap.size < w4.heap.size by omega) | exact Or.inr (show w5.heap.size ≤ w.heap.size by omega))
  replace f4 := cell_iv_kept f4 hK (by first | exact Or.inl (show w.heap.size < w4.heap.size by omega) | exact Or.inr (show w5.heap.size ≤ w.heap.size by omega))
  replace f5 := cell_iv_kept f5 hK (by first | exact Or.inl (show w.heap.size < w4.heap.size by omega) | exact Or.inr (show w5.heap.size ≤ w.heap.size by omega))
  replace f6 := cell_iv_kept f6 hK (by first | exact Or.inl (show w.heap.size < w4.heap.size by omega) | exact Or.inr (show w5.heap.size ≤ w.heap.size by omega))
  replace f7 := cell_iv_kept f7 hK (by first | exact Or.inl (show w.heap.size < w4.heap.size by omega) | exact Or.inr (show w5.heap.size ≤ w.heap.size by omega))
  replace y0 := cell_iv_kept y0 hK (by first | exact Or.inl (show w5.heap.size < w4.heap.size by omega) | exact Or.inr (show w5.heap.size ≤ w5.heap.size by omega))
  replace y1 := cell_iv_kept y1 hK (by first | exact Or.inl (show w5.heap.size < w4.heap.size by omega) | exact Or.inr (show w5.heap.size ≤ w5.heap.size by omega))
  replace y2 := cell_iv_kept y2 hK (by first | exact Or.inl (show w5.heap.size < w4.heap.size by omega) | exact Or.inr (show w5.heap.size ≤ w5.heap.size by omega))
  replace y3 := cell_iv_kept y3 hK (by first | exact Or.inl (show w5.heap.size < w4.heap.size by omega) | exact Or.inr (show w5.heap.size ≤ w5.heap.size by omega))
  replace y4 := cell_iv_kept y4 hK (by first | exact Or.inl (show w5.heap.size < w4.heap.size by omega) | exact Or.inr (show w5.heap.size ≤ w5.heap.size by omega))
  replace y5 := cell_iv_kept y5 hK (by first | exact Or.inl (show w5.heap.size < w4.heap.size by omega) | exact Or.inr (show w5.heap.size ≤ w5.heap.size by omega))
  replace y6 := cell_iv_kept y6 hK (by first | exact Or.inl (show w5.heap.size < w4.heap.size by omega) | exact Or.inr (show w5.heap.size ≤ w5.heap.size by omega))
  replace y7 := cell_iv_kept y7 hK (by first | exact Or.inl (show w5.heap.size < w4.heap.size by omega) | exact Or.inr (show w5.heap.size ≤ w5.heap.size by omega))
  replace RS0 := Aside0.mk (R_iv_kept RS0.out hK (by omega))
  replace RS1 := Aside0.mk (R_iv_kept RS1.out hK (by omega))
  replace RS2 := Aside0.mk (R_iv_kept RS2.out hK (by omega))
  replace RG0 := Aside0.mk (R_iv_kept RG0.out hK (by omega))
  replace RG1 := Aside0.mk (R_iv_kept RG1.out hK (by omega))
  replace RG2 := Aside0.mk (R_iv_kept RG2.out hK (by omega))
  replace B3 := Aside0.mk hB3
  replace HB := Aside0.mk (below_into (w := w) hB3 HBW.out)
  have s_w12 := hK.1
  clear hB3 hK RX0 RX1 RX2
  have nb2 : decide (K1 < 0) = false := decide_eq_false (by omega)
  go_wp2_with fail
  refine (laws_eqIntS.calls kBig G0 j0 s0 D0 i0 s0 true _ ((Kd.R_reads' RG0.out).2.2) NG0.out ((Kd.R_reads' RS0.out).2.2) NS0.out (laws_eqIntS_same s0 MRL.out.1 kBig (Nat.lt_of_le_of_lt MRL.out.1 (Nat.lt_of_lt_of_le (by omega) kBig_le)))).mono ?_
  rintro x w13 ⟨rfl, hd⟩
  have hb := hd.below
  replace f0 := pw_cell_below hb f0
  replace f1 := pw_cell_below hb f1
  replace f2 := pw_cell_below hb f2
  replace f3 := pw_cell_below hb f3
  replace f4 := pw_cell_below hb f4
  replace f5 := pw_cell_below hb f5
  replace f6 := pw_cell_below hb f6
  replace f7 := pw_cell_below hb f7
  replace y0 := pw_cell_below hb y0
  replace y1 := pw_cell_below hb y1
  replace y2 := pw_cell_below hb y2
  replace y3 := pw_cell_below hb y3
  replace y4 := pw_cell_below hb y4
  replace y5 := pw_cell_below hb y5
  replace y6 := pw_cell_below hb y6
  replace y7 := pw_cell_below hb y7
  replace RS0 := Aside0.mk (Kd.R_below RS0.out hb)
  replace RS1 := Aside0.mk (Kd.R_below RS1.out hb)
  replace RS2 := Aside0.mk (Kd.R_below RS2.out hb)
  replace RG0 := Aside0.mk (Kd.R_below RG0.out hb)
  replace RG1 := Aside0.mk (Kd.R_below RG1.out hb)
  replace RG2 := Aside0.mk (Kd.R_below RG2.out hb)
  replace HB := Aside0.mk (below_into (w := w) hb HB.out)
  replace B3 := Aside0.mk (below_into (w := w4) hb B3.out)
  have s_w13 := hb.size
  clear hd hb
  go_wp2_with fail
  refine (laws_eqIntS.calls kBig G1 j1 s1 D1 i1 s1 true _ ((Kd.R_reads' RG1.out).2.2) NG1.out ((Kd.R_reads' RS1.out).2.2) NS1.out (laws_eqIntS_same s1 MRL.out.2.1 kBig (Nat.lt_of_le_of_lt MRL.out.2.1 (Nat.lt_of_lt_of_le (by omega) kBig_le)))).mono ?_
  rintro x w14 ⟨rfl, hd⟩
  have hb := hd.below
  replace f0 := pw_cell_below hb f0
  replace f1 := pw_cell_below hb f1
  replace f2 := pw_cell_below hb f2
  replace f3 := pw_cell_below hb f3
  replace f4 := pw_cell_below hb f4
  replace f5 := pw_cell_below hb f5
  replace f6 := pw_cell_below hb f6
  replace f7 := pw_cell_below hb f7
  replace y0 := pw_cell_below hb y0
  replace y1 := pw_cell_below hb y1
  replace y2 := pw_cell_below hb y2
  replace y3 := pw_cell_below hb y3
  replace y4 := pw_cell_below hb y4
  replace y5 := pw_cell_below hb y5
  replace y6 := pw_cell_below hb y6
  replace y7 := pw_cell_below hb y7
  replace RS0 := Aside0.mk (Kd.R_below RS0.out hb)
  replace RS1 := Aside0.mk (Kd.R_below RS1.out hb)
  replace RS2 := Aside0.mk (Kd.R_below RS2.out hb)
  replace RG0 := Aside0.mk (Kd.R_below RG0.out hb)
  replace RG1 := Aside0.mk (Kd.R_below RG1.out hb)
  replace RG2 := Aside0.mk (Kd.R_below RG2.out hb)
  replace HB := Aside0.mk (below_into (w := w) hb HB.out)
  replace B3 := Aside0.mk (below_into (w := w4) hb B3.out)
  have s_w14 := hb.size
  clear hd hb
  go_wp2_with fail
  refine (laws_eqIntS.calls kBig G2 j2 s2 D2 i2 s2 true _ ((Kd.R_reads' RG2.out).2.2) NG2.out ((Kd.R_reads' RS2.out).2.2) NS2.out (laws_eqIntS_same s2 MRL.out.2.2 kBig (Nat.lt_of_le_of_lt MRL.out.2.2 (Nat.lt_of_lt_of_le (by omega) kBig_le)))).mono ?_
  rintro x w15 ⟨rfl, hd⟩
  have hb := hd.below
  replace f0 := pw_cell_below hb f0
  replace f1 := pw_cell_below hb f1
  replace f2 := pw_cell_below hb f2
  replace f3 := pw_cell_below hb f3
  replace f4 := pw_cell_below hb f4
  replace f5 := pw_cell_below hb f5
  replace f6 := pw_cell_below hb f6
  replace f7 := pw_cell_below hb f7
  replace y0 := pw_cell_below hb y0
  replace y1 := pw_cell_below hb y1
  replace y2 := pw_cell_below hb y2
  replace y3 := pw_cell_below hb y3
  replace y4 := pw_cell_below hb y4
  replace y5 := pw_cell_below hb y5
  replace y6 := pw_cell_below hb y6
  replace y7 := pw_cell_below hb y7
  replace RS0 := Aside0.mk (Kd.R_below RS0.out hb)
  replace RS1 := Aside0.mk (Kd.R_below RS1.out hb)
  replace RS2 := Aside0.mk (Kd.R_below RS2.out hb)
  replace RG0 := Aside0.mk (Kd.R_below RG0.out hb)
  replace RG1 := Aside0.mk (Kd.R_below RG1.out hb)
  replace RG2 := Aside0.mk (Kd.R_below RG2.out hb)
  replace HB := Aside0.mk (below_into (w := w) hb HB.out)
  replace B3 := Aside0.mk (below_into (w := w4) hb B3.out)
  have s_w15 := hb.size
  clear hd hb
  clear nb2
  go_wp2_with fail
  refine (laws_markIntS.calls kBig (Iv p0 p1) (.slice G0 s0.length j0) s0 1 _ _ w4 _ B3.out RG0.out (laws_markIntS_is s0 kBig 1 (Nat.lt_of_le_of_lt MRL.out.1 (Nat.lt_of_lt_of_le (by omega) kBig_le)) MRL.out.1 (by omega) (by omega))).mono ?_
  rintro x w16 ⟨rfl, hR, hB3, hK⟩
  have RM0 := Aside0.mk (R_iv_mark rfl RG0.out hR)
  replace f0 := cell_iv_kept f0 hK (by first | exact Or.inl (show w.heap.size < p0 by omega) | exact Or.inr (show p1 ≤ w.heap.size by omega))
  replace f1 := cell_iv_kept f1 hK (by first | exact Or.inl (show w.heap.size < p0 by omega) | exact Or.inr (show p1 ≤ w.heap.size by omega))
  replace f2 := cell_iv_kept f2 hK (by first | exact Or.inl (show w.heap.size < p0 by omega) | exact Or.inr (show p1 ≤ w.heap.size by omega))
  replace f3 := cell_iv_kept f3 hK (by first | exact Or.inl (show w.heap.size < p0 by omega) | exact Or.inr (show p1 ≤ w.heap.size by omega))
  replace f4 := cell_iv_kept f4 hK (by first | exact Or.inl (show w.heap.size < p0 by omega) | exact Or.inr (show p1 ≤ w.heap.size by omega))
  replace f5 := cell_iv_kept f5 hK (by first | exact Or.inl (show w.heap.size < p0 by omega) | exact Or.inr (show p1 ≤ w.heap.size by omega))
  replace f6 := cell_iv_kept f6 hK (by first | exact Or.inl (show w.heap.size < p0 by omega) | exact Or.inr (show p1 ≤ w.heap.size by omega))
  replace f7 := cell_iv_kept f7 hK (by first | exact Or.inl (show w.heap.size < p0 by omega) | exact Or.inr (show p1 ≤ w.heap.size by omega))
  replace y0 := cell_iv_kept y0 hK (by first | exact Or.inl (show w5.heap.size < p0 by omega) | exact Or.inr (show p1 ≤ w5.heap.size by omega))
  replace y1 := cell_iv_kept y1 hK (by first | exact Or.inl (show w5.heap.size < p0 by omega) | exact Or.inr (show p1 ≤ w5.heap.size by omega))
  replace y2 := cell_iv_kept y2 hK (by first | exact Or.inl (show w5.heap.size < p0 by omega) | exact Or.inr (show p1 ≤ w5.heap.size by omega))
  replace y3 := cell_iv_kept y3 hK (by first | exact Or.inl (show w5.heap.size < p0 by omega) | exact Or.inr (show p1 ≤ w5.heap.size by omega))
  replace y4 := cell_iv_kept y4 hK (by first | exact Or.inl (show w5.heap.size < p0 by omega) | exact Or.inr (show p1 ≤ w5.heap.size by omega))
  replace y5 := cell_iv_kept y5 hK (by first | exact Or.inl (show w5.heap.size < p0 by omega) | exact Or.inr (show p1 ≤ w5.heap.size by omega))
  replace y6 := cell_iv_kept y6 hK (by first | exact Or.inl (show w5.heap.size < p0 by omega) | exact Or.inr (show p1 ≤ w5.heap.size by omega))
  replace y7 := cell_iv_kept y7 hK (by first | exact Or.inl (show w5.heap.size < p0 by omega) | exact Or.inr (show p1 ≤ w5.heap.size by omega))
  replace RS0 := Aside0.mk (R_iv_kept RS0.out hK (by omega))
  replace RS1 := Aside0.mk (R_iv_kept RS1.out hK (by omega))
  replace RS2 := Aside0.mk (R_iv_kept RS2.out hK (by omega))
  replace RG1 := Aside0.mk (R_iv_kept RG1.out hK (by omega))
  replace RG2 := Aside0.mk (R_iv_kept RG2.out hK (by omega))
  replace B3 := Aside0.mk hB3
  replace HB := Aside0.mk (below_into (w := w) hB3 HBW.out)
  have s_w16 := hK.1
  clear hR hB3 hK RG0
  have nn0 := nNum_b s0 1
  have nl0 := MRL.out.1
  have HLD0 := Aside0.mk (fun W (hW : Kd.C (Kd.int .i64) W G0 s0.length (mAll mNum nNum 1 s0)) => heldIntS_from G0 j0 s0 1 W hW NG0.out MRL.out.1 (by omega) (by omega))
  generalize nAll nNum 1 s0 = Q0 at *
  go_wp2_with fail
  refine (laws_markIntS.calls kBig (Iv p2 p3) (.slice G1 s1.length j1) s1 Q0 _ _ w4 _ B3.out RG1.out (laws_markIntS_is s1 kBig Q0 (Nat.lt_of_le_of_lt MRL.out.2.1 (Nat.lt_of_lt_of_le (by omega) kBig_le)) MRL.out.2.1 (by omega) (by omega))).mono ?_
  rintro x w17 ⟨rfl, hR, hB3, hK⟩
  have RM1 := Aside0.mk (R_iv_mark rfl RG1.out hR)
  replace f0 := cell_iv_kept f0 hK (by first | exact Or.inl (show w.heap.size < p2 by omega) | exact Or.inr (show p3 ≤ w.heap.size by omega))
  replace f1 := cell_iv_kept f1 hK (by first | exact Or.inl (show w.heap.size < p2 by omega) | exact Or.inr (show p3 ≤ w.heap.size by omega))
  replace f2 := cell_iv_kept f2 hK (by first | exact Or.inl (show w.heap.size < p2 by omega) | exact Or.inr (show p3 ≤ w.heap.size by omega))
  replace f3 := cell_iv_kept f3 hK (by first | exact Or.inl (show w.heap.size < p2 by omega) | exact Or.inr (show p3 ≤ w.heap.size by omega))
  replace f4 := cell_iv_kept f4 hK (by first | exact Or.inl (show w.heap.size < p2 by omega) | exact Or.inr (show p3 ≤ w.heap.size by omega))
  replace f5 := cell_iv_kept f5 hK (by first | exact Or.inl (show w.heap.size < p2 by omega) | exact Or.inr (show p3 ≤ w.heap.size by omega))
  replace f6 := cell_iv_kept f6 hK (by first | exact Or.inl (show w.heap.size < p2 by omega) | exact Or.inr (show p3 ≤ w.heap.size by omega))
  replace f7 := cell_iv_kept f7 hK (by first | exact Or.inl (show w.heap.size < p2 by omega) | exact Or.inr (show p3 ≤ w.heap.size by omega))
  replace y0 := cell_iv_kept y0 hK (by first | exact Or.inl (show w5.heap.size < p2 by omega) | exact Or.inr (show p3 ≤ w5.heap.size by omega))
  replace y1 := cell_iv_kept y1 hK (by first | exact Or.inl (show w5.heap.size < p2 by omega) | exact Or.inr (show p3 ≤ w5.heap.size by omega))
  replace y2 := cell_iv_kept y2 hK (by first | exact Or.inl (show w5.heap.size < p2 by omega) | exact Or.inr (show p3 ≤ w5.heap.size by omega))
  replace y3 := cell_iv_kept y3 hK (by first | exact Or.inl (show w5.heap.size < p2 by omega) | exact Or.inr (show p3 ≤ w5.heap.size by omega))
  replace y4 := cell_iv_kept y4 hK (by first | exact Or.inl (show w5.heap.size < p2 by omega) | exact Or.inr (show p3 ≤ w5.heap.size by omega))
  replace y5 := cell_iv_kept y5 hK (by first | exact Or.inl (show w5.heap.size < p2 by omega) | exact Or.inr (show p3 ≤ w5.heap.size by omega))
  replace y6 := cell_iv_kept y6 hK (by first | exact Or.inl (show w5.heap.size < p2 by omega) | exact Or.inr (show p3 ≤ w5.heap.size by omega))
  replace y7 := cell_iv_kept y7 hK (by first | exact Or.inl (show w5.heap.size < p2 by omega) | exact Or.inr (show p3 ≤ w5.heap.size by omega))
  replace RS0 := Aside0.mk (R_iv_kept RS0.out hK (by omega))
  replace RS1 := Aside0.mk (R_iv_kept RS1.out hK (by omega))
  replace RS2 := Aside0.mk (R_iv_kept RS2.out hK (by omega))
  replace RG2 := Aside0.mk (R_iv_kept RG2.out hK (by omega))
  replace RM0 := Aside0.mk (R_iv_kept RM0.out hK (by omega))
  replace B3 := Aside0.mk hB3
  replace HB := Aside0.mk (below_into (w := w) hB3 HBW.out)
  have s_w17 := hK.1
  clear hR hB3 hK RG1
  have nn1 := nNum_b s1 Q0
  have nl1 := MRL.out.2.1
  have HLD1 := Aside0.mk (fun W (hW : Kd.C (Kd.int .i64) W G1 s1.length (mAll mNum nNum Q0 s1)) => heldIntS_from G1 j1 s1 Q0 W hW NG1.out MRL.out.2.1 (by omega) (by omega))
  generalize nAll nNum Q0 s1 = Q1 at *
  go_wp2_with fail
  refine (laws_markIntS.calls kBig (Iv p4 p5) (.slice G2 s2.length j2) s2 Q1 _ _ w4 _ B3.out RG2.out (laws_markIntS_is s2 kBig Q1 (Nat.lt_of_le_of_lt MRL.out.2.2 (Nat.lt_of_lt_of_le (by omega) kBig_le)) MRL.out.2.2 (by omega) (by omega))).mono ?_
  rintro x w18 ⟨rfl, hR, hB3, hK⟩
  have RM2 := Aside0.mk (R_iv_mark rfl RG2.out hR)
  replace f0 := cell_iv_kept f0 hK (by first | exact Or.inl (show w.heap.size < p4 by omega) | exact Or.inr (show p5 ≤ w.heap.size by omega))
  replace f1 := cell_iv_kept f1 hK (by first | exact Or.inl (show w.heap.size < p4 by omega) | exact Or.inr (show p5 ≤ w.heap.size by omega))
  replace f2 := cell_iv_kept f2 hK (by first | exact Or.inl (show w.heap.size < p4 by omega) | exact Or.inr (show p5 ≤ w.heap.size by omega))
  replace f3 := cell_iv_kept f3 hK (by first | exact Or.inl (show w.heap.size < p4 by omega) | exact Or.inr (show p5 ≤ w.heap.size by omega))
  replace f4 := cell_iv_kept f4 hK (by first | exact Or.inl (show w.heap.size < p4 by omega) | exact Or.inr (show p5 ≤ w.heap.size by omega))
  replace f5 := cell_iv_kept f5 hK (by first | exact Or.inl (show w.heap.size < p4 by omega) | exact Or.inr (show p5 ≤ w.heap.size by omega))
  replace f6 := cell_iv_kept f6 hK (by first | exact Or.inl (show w.heap.size < p4 by omega) | exact Or.inr (show p5 ≤ w.heap.size by omega))
  replace f7 := cell_iv_kept f7 hK (by first | exact Or.inl (show w.heap.size < p4 by omega) | exact Or.inr (show p5 ≤ w.heap.size by omega))
  replace y0 := cell_iv_kept y0 hK (by first | exact Or.inl (show w5.heap.size < p4 by omega) | exact Or.inr (show p5 ≤ w5.heap.size by omega))
  replace y1 := cell_iv_kept y1 hK (by first | exact Or.inl (show w5.heap.size < p4 by omega) | exact Or.inr (show p5 ≤ w5.heap.size by omega))
  replace y2 := cell_iv_kept y2 hK (by first | exact Or.inl (show w5.heap.size < p4 by omega) | exact Or.inr (show p5 ≤ w5.heap.size by omega))
  replace y3 := cell_iv_kept y3 hK (by first | exact Or.inl (show w5.heap.size < p4 by omega) | exact Or.inr (show p5 ≤ w5.heap.size by omega))
  replace y4 := cell_iv_kept y4 hK (by first | exact Or.inl (show w5.heap.size < p4 by omega) | exact Or.inr (show p5 ≤ w5.heap.size by omega))
  replace y5 := cell_iv_kept y5 hK (by first | exact Or.inl (show w5.heap.size < p4 by omega) | exact Or.inr (show p5 ≤ w5.heap.size by omega))
  replace y6 := cell_iv_kept y6 hK (by first | exact Or.inl (show w5.heap.size < p4 by omega) | exact Or.inr (show p5 ≤ w5.heap.size by omega))
  replace y7 := cell_iv_kept y7 hK (by first | exact Or.inl (show w5.heap.size < p4 by omega) | exact Or.inr (show p5 ≤ w5.heap.size by omega))
  replace RS0 := Aside0.mk (R_iv_kept RS0.out hK (by omega))
  replace RS1 := Aside0.mk (R_iv_kept RS1.out hK (by omega))
  replace RS2 := Aside0.mk (R_iv_kept RS2.out hK (by omega))
  replace RM0 := Aside0.mk (R_iv_kept RM0.out hK (by omega))
  replace RM1 := Aside0.mk (R_iv_kept RM1.out hK (by omega))
  replace B3 := Aside0.mk hB3
  replace HB := Aside0.mk (below_into (w := w) hB3 HBW.out)
  have s_w18 := hK.1
  clear hR hB3 hK RG2
  have nn2 := nNum_b s2 Q1
  have nl2 := MRL.out.2.2
  have HLD2 := Aside0.mk (fun W (hW : Kd.C (Kd.int .i64) W G2 s2.length (mAll mNum nNum Q1 s2)) => heldIntS_from G2 j2 s2 Q1 W hW NG2.out MRL.out.2.2 (by omega) (by omega))
  generalize nAll nNum Q1 s2 = Q2 at *
  have nd0 : decide (Q0 < 0) = false := decide_eq_false (by omega)
  go_wp2_with fail
  refine (HLD0.out _ (by have hC := (Kd.R_reads' RM0.out).2.2; rw [mAll_length] at hC; exact hC)).mono ?_
  rintro x w19 ⟨rfl, hd⟩
  have hb := hd.below
  replace f0 := pw_cell_below hb f0
  replace f1 := pw_cell_below hb f1
  replace f2 := pw_cell_below hb f2
  replace f3 := pw_cell_below hb f3
  replace f4 := pw_cell_below hb f4
  replace f5 := pw_cell_below hb f5
  replace f6 := pw_cell_below hb f6
  replace f7 := pw_cell_below hb f7
  replace y0 := pw_cell_below hb y0
  replace y1 := pw_cell_below hb y1
  replace y2 := pw_cell_below hb y2
  replace y3 := pw_cell_below hb y3
  replace y4 := pw_cell_below hb y4
  replace y5 := pw_cell_below hb y5
  replace y6 := pw_cell_below hb y6
  replace y7 := pw_cell_below hb y7
  replace RS0 := Aside0.mk (Kd.R_below RS0.out hb)
  replace RS1 := Aside0.mk (Kd.R_below RS1.out hb)
  replace RS2 := Aside0.mk (Kd.R_below RS2.out hb)
  replace RM0 := Aside0.mk (Kd.R_below RM0.out hb)
  replace RM1 := Aside0.mk (Kd.R_below RM1.out hb)
  replace RM2 := Aside0.mk (Kd.R_below RM2.out hb)
  replace HB := Aside0.mk (below_into (w := w) hb HB.out)
  replace B3 := Aside0.mk (below_into (w := w4) hb B3.out)
  have s_w19 := hb.size
  clear hd hb
  have nd1 : decide (Q1 < 0) = false := decide_eq_false (by omega)
  go_wp2_with fail
  refine (HLD1.out _ (by have hC := (Kd.R_reads' RM1.out).2.2; rw [mAll_length] at hC; exact hC)).mono ?_
  rintro x w20 ⟨rfl, hd⟩
  have hb := hd.below
  replace f0 := pw_cell_below hb f0
  replace f1 := pw_cell_below hb f1
  replace f2 := pw_cell_below hb f2
  replace f3 := pw_cell_below hb f3
  replace f4 := pw_cell_below hb f4
  replace f5 := pw_cell_below hb f5
  replace f6 := pw_cell_below hb f6
  replace f7 := pw_cell_below hb f7
  replace y0 := pw_cell_below hb y0
  replace y1 := pw_cell_below hb y1
  replace y2 := pw_cell_below hb y2
  replace y3 := pw_cell_below hb y3
  replace y4 := pw_cell_below hb y4
  replace y5 := pw_cell_below hb y5
  replace y6 := pw_cell_below hb y6
  replace y7 := pw_cell_below hb y7
  replace RS0 := Aside0.mk (Kd.R_below RS0.out hb)
  replace RS1 := Aside0.mk (Kd.R_below RS1.out hb)
  replace RS2 := Aside0.mk (Kd.R_below RS2.out hb)
  replace RM0 := Aside0.mk (Kd.R_below RM0.out hb)
  replace RM1 := Aside0.mk (Kd.R_below RM1.out hb)
  replace RM2 := Aside0.mk (Kd.R_below RM2.out hb)
  replace HB := Aside0.mk (below_into (w := w) hb HB.out)
  replace B3 := Aside0.mk (below_into (w := w4) hb B3.out)
  have s_w20 := hb.size
  clear hd hb
  have nd2 : decide (Q2 < 0) = false := decide_eq_false (by omega)
  go_wp2_with fail
  refine (HLD2.out _ (by have hC := (Kd.R_reads' RM2.out).2.2; rw [mAll_length] at hC; exact hC)).mono ?_
  rintro x w21 ⟨rfl, hd⟩
  have hb := hd.below
  replace f0 := pw_cell_below hb f0
  replace f1 := pw_cell_below hb f1
  replace f2 := pw_cell_below hb f2
  replace f3 := pw_cell_below hb f3
  replace f4 := pw_cell_below hb f4
  replace f5 := pw_cell_below hb f5
  replace f6 := pw_cell_below hb f6
  replace f7 := pw_cell_below hb f7
  replace y0 := pw_cell_below hb y0
  replace y1 := pw_cell_below hb y1
  replace y2 := pw_cell_below hb y2
  replace y3 := pw_cell_below hb y3
  replace y4 := pw_cell_below hb y4
  replace y5 := pw_cell_below hb y5
  replace y6 := pw_cell_below hb y6
  replace y7 := pw_cell_below hb y7
  replace RS0 := Aside0.mk (Kd.R_below RS0.out hb)
  replace RS1 := Aside0.mk (Kd.R_below RS1.out hb)
  replace RS2 := Aside0.mk (Kd.R_below RS2.out hb)
  replace RM0 := Aside0.mk (Kd.R_below RM0.out hb)
  replace RM1 := Aside0.mk (Kd.R_below RM1.out hb)
  replace RM2 := Aside0.mk (Kd.R_below RM2.out hb)
  replace HB := Aside0.mk (below_into (w := w) hb HB.out)
  replace B3 := Aside0.mk (below_into (w := w4) hb B3.out)
  have s_w21 := hb.size
  clear hd hb
  go_wp2_with fail
  refine (laws_toBooks.calls kBig A0 c0 l0 d c A1 c1 l1 h A2 c2 l2 a b m0 d c m1 h m2 a b _ (Kd.C_below H0.out HB.out) C0.out (Kd.C_below H1.out HB.out) C1.out (Kd.C_below H2.out HB.out) C2.out TB.out).mono ?_
  rintro x w22 ⟨v0, v3, v5, rfl, hR0, hR3, hR5, hb⟩
  obtain ⟨P0, q0, rfl, n0, t0⟩ := Kd.R_reads hR0
  obtain ⟨P1, q1, rfl, n1, t1⟩ := Kd.S_reads hR3
  obtain ⟨P2, q2, rfl, n2, t2⟩ := Kd.R_reads hR5
  have K0 := Aside0.mk t0
  have K1' := Aside0.mk t1
  have K2 := Aside0.mk t2
  replace f0 := pw_cell_below hb f0
  replace f1 := pw_cell_below hb f1
  replace f2 := pw_cell_below hb f2
  replace f3 := pw_cell_below hb f3
  replace f4 := pw_cell_below hb f4
  replace f5 := pw_cell_below hb f5
  replace f6 := pw_cell_below hb f6
  replace f7 := pw_cell_below hb f7
  replace y0 := pw_cell_below hb y0
  replace y1 := pw_cell_below hb y1
  replace y2 := pw_cell_below hb y2
  replace y3 := pw_cell_below hb y3
  replace y4 := pw_cell_below hb y4
  replace y5 := pw_cell_below hb y5
  replace y6 := pw_cell_below hb y6
  replace y7 := pw_cell_below hb y7
  replace RS0 := Aside0.mk (Kd.R_below RS0.out hb)
  replace RS1 := Aside0.mk (Kd.R_below RS1.out hb)
  replace RS2 := Aside0.mk (Kd.R_below RS2.out hb)
  replace RM0 := Aside0.mk (Kd.R_below RM0.out hb)
  replace RM1 := Aside0.mk (Kd.R_below RM1.out hb)
  replace RM2 := Aside0.mk (Kd.R_below RM2.out hb)
  replace HB := Aside0.mk (below_into (w := w) hb HB.out)
  replace B3 := Aside0.mk (below_into (w := w4) hb B3.out)
  have s_w22 := hb.size
  clear hb hR0 hR3 hR5 n0 n1 n2 t0 t1 t2
  go_wp2_with fail
  refine (impl_Moves.to P0 q0 m0 d c P1 q1 m1 h P2 q2 m2 a b at_ _ K0.out HT0.out K1'.out HT1.out K2.out).mono ?_
  rintro x w23 ⟨v0, v1, v2, rfl, hth, hb⟩
  rw [← HMR.out] at hth
  obtain ⟨_, _, _, _, _, _, _, _, _, _, _, _, _, hR0, hR1, hR2⟩ := hth
  simp only at hR0 hR1 hR2
  obtain ⟨F0, t0, rfl, k0, u0⟩ := Kd.R_reads hR0
  obtain ⟨F1, t1, rfl, k1, u1⟩ := Kd.R_reads hR1
  obtain ⟨F2, t2, rfl, k2, u2⟩ := Kd.R_reads hR2
  have KH0 := Aside0.mk u0
  have KH1 := Aside0.mk u1
  have KH2 := Aside0.mk u2
  have NH0 := Aside0.mk k0
  have NH1 := Aside0.mk k1
  have NH2 := Aside0.mk k2
  replace f0 := pw_cell_below hb f0
  replace f1 := pw_cell_below hb f1
  replace f2 := pw_cell_below hb f2
  replace f3 := pw_cell_below hb f3
  replace f4 := pw_cell_below hb f4
  replace f5 := pw_cell_below hb f5
  replace f6 := pw_cell_below hb f6
  replace f7 := pw_cell_below hb f7
  replace y0 := pw_cell_below hb y0
  replace y1 := pw_cell_below hb y1
  replace y2 := pw_cell_below hb y2
  replace y3 := pw_cell_below hb y3
  replace y4 := pw_cell_below hb y4
  replace y5 := pw_cell_below hb y5
  replace y6 := pw_cell_below hb y6
  replace y7 := pw_cell_below hb y7
  replace RS0 := Aside0.mk (Kd.R_below RS0.out hb)
  replace RS1 := Aside0.mk (Kd.R_below RS1.out hb)
  replace RS2 := Aside0.mk (Kd.R_below RS2.out hb)
  replace RM0 := Aside0.mk (Kd.R_below RM0.out hb)
  replace RM1 := Aside0.mk (Kd.R_below RM1.out hb)
  replace RM2 := Aside0.mk (Kd.R_below RM2.out hb)
  replace HB := Aside0.mk (below_into (w := w) hb HB.out)
  replace B3 := Aside0.mk (below_into (w := w4) hb B3.out)
  have s_w23 := hb.size
  clear hb hR0 hR1 hR2 k0 k1 k2 u0 u1 u2
  go_wp2_with fail
  refine (laws_eqIntS.calls kBig F0 t0 s0 D0 i0 s0 true _ KH0.out NH0.out ((Kd.R_reads' RS0.out).2.2) NS0.out (laws_eqIntS_same s0 MRL.out.1 kBig (Nat.lt_of_le_of_lt MRL.out.1 (Nat.lt_of_lt_of_le (by omega) kBig_le)))).mono ?_
  rintro x w24 ⟨rfl, hd⟩
  have hb := hd.below
  replace f0 := pw_cell_below hb f0
  replace f1 := pw_cell_below hb f1
  replace f2 := pw_cell_below hb f2
  replace f3 := pw_cell_below hb f3
  replace f4 := pw_cell_below hb f4
  replace f5 := pw_cell_below hb f5
  replace f6 := pw_cell_below hb f6
  replace f7 := pw_cell_below hb f7
  replace y0 := pw_cell_below hb y0
  replace y1 := pw_cell_below hb y1
  replace y2 := pw_cell_below hb y2
  replace y3 := pw_cell_below hb y3
  replace y4 := pw_cell_below hb y4
  replace y5 := pw_cell_below hb y5
  replace y6 := pw_cell_below hb y6
  replace y7 := pw_cell_below hb y7
  replace RS0 := Aside0.mk (Kd.R_below RS0.out hb)
  replace RS1 := Aside0.mk (Kd.R_below RS1.out hb)
  replace RS2 := Aside0.mk (Kd.R_below RS2.out hb)
  replace RM0 := Aside0.mk (Kd.R_below RM0.out hb)
  replace RM1 := Aside0.mk (Kd.R_below RM1.out hb)
  replace RM2 := Aside0.mk (Kd.R_below RM2.out hb)
  replace HB := Aside0.mk (below_into (w := w) hb HB.out)
  replace B3 := Aside0.mk (below_into (w := w4) hb B3.out)
  replace KH1 := Aside0.mk (Kd.C_below KH1.out hb)
  replace KH2 := Aside0.mk (Kd.C_below KH2.out hb)
  clear hd hb
  go_wp2_with fail
  refine (laws_eqIntS.calls kBig F1 t1 s1 D1 i1 s1 true _ KH1.out NH1.out ((Kd.R_reads' RS1.out).2.2) NS1.out (laws_eqIntS_same s1 MRL.out.2.1 kBig (Nat.lt_of_le_of_lt MRL.out.2.1 (Nat.lt_of_lt_of_le (by omega) kBig_le)))).mono ?_
  rintro x w25 ⟨rfl, hd⟩
  have hb := hd.below
  replace f0 := pw_cell_below hb f0
  replace f1 := pw_cell_below hb f1
  replace f2 := pw_cell_below hb f2
  replace f3 := pw_cell_below hb f3
  replace f4 := pw_cell_below hb f4
  replace f5 := pw_cell_below hb f5
  replace f6 := pw_cell_below hb f6
  replace f7 := pw_cell_below hb f7
  replace y0 := pw_cell_below hb y0
  replace y1 := pw_cell_below hb y1
  replace y2 := pw_cell_below hb y2
  replace y3 := pw_cell_below hb y3
  replace y4 := pw_cell_below hb y4
  replace y5 := pw_cell_below hb y5
  replace y6 := pw_cell_below hb y6
  replace y7 := pw_cell_below hb y7
  replace RS0 := Aside0.mk (Kd.R_below RS0.out hb)
  replace RS1 := Aside0.mk (Kd.R_below RS1.out hb)
  replace RS2 := Aside0.mk (Kd.R_below RS2.out hb)
  replace RM0 := Aside0.mk (Kd.R_below RM0.out hb)
  replace RM1 := Aside0.mk (Kd.R_below RM1.out hb)
  replace RM2 := Aside0.mk (Kd.R_below RM2.out hb)
  replace HB := Aside0.mk (below_into (w := w) hb HB.out)
  replace B3 := Aside0.mk (below_into (w := w4) hb B3.out)
  replace KH2 := Aside0.mk (Kd.C_below KH2.out hb)
  clear hd hb
  go_wp2_with fail
  refine (laws_eqIntS.calls kBig F2 t2 s2 D2 i2 s2 true _ KH2.out NH2.out ((Kd.R_reads' RS2.out).2.2) NS2.out (laws_eqIntS_same s2 MRL.out.2.2 kBig (Nat.lt_of_le_of_lt MRL.out.2.2 (Nat.lt_of_lt_of_le (by omega) kBig_le)))).mono ?_
  rintro x w26 ⟨rfl, hd⟩
  have hb := hd.below
  replace f0 := pw_cell_below hb f0
  replace f1 := pw_cell_below hb f1
  replace f2 := pw_cell_below hb f2
  replace f3 := pw_cell_below hb f3
  replace f4 := pw_cell_below hb f4
  replace f5 := pw_cell_below hb f5
  replace f6 := pw_cell_below hb f6
  replace f7 := pw_cell_below hb f7
  replace y0 := pw_cell_below hb y0
  replace y1 := pw_cell_below hb y1
  replace y2 := pw_cell_below hb y2
  replace y3 := pw_cell_below hb y3
  replace y4 := pw_cell_below hb y4
  replace y5 := pw_cell_below hb y5
  replace y6 := pw_cell_below hb y6
  replace y7 := pw_cell_below hb y7
  replace RS0 := Aside0.mk (Kd.R_below RS0.out hb)
  replace RS1 := Aside0.mk (Kd.R_below RS1.out hb)
  replace RS2 := Aside0.mk (Kd.R_below RS2.out hb)
  replace RM0 := Aside0.mk (Kd.R_below RM0.out hb)
  replace RM1 := Aside0.mk (Kd.R_below RM1.out hb)
  replace RM2 := Aside0.mk (Kd.R_below RM2.out hb)
  replace HB := Aside0.mk (below_into (w := w) hb HB.out)
  replace B3 := Aside0.mk (below_into (w := w4) hb B3.out)
  clear hd hb
  have nd0 : decide (Q0 < 0) = false := decide_eq_false (by omega)
  go_wp2_with fail
  refine (HLD0.out _ (by have hC := (Kd.R_reads' RM0.out).2.2; rw [mAll_length] at hC; exact hC)).mono ?_
  rintro x w27 ⟨rfl, hd⟩
  have hb := hd.below
  replace f0 := pw_cell_below hb f0
  replace f1 := pw_cell_below hb f1
  replace f2 := pw_cell_below hb f2
  replace f3 := pw_cell_below hb f3
  replace f4 := pw_cell_below hb f4
  replace f5 := pw_cell_below hb f5
  replace f6 := pw_cell_below hb f6
  replace f7 := pw_cell_below hb f7
  replace y0 := pw_cell_below hb y0
  replace y1 := pw_cell_below hb y1
  replace y2 := pw_cell_below hb y2
  replace y3 := pw_cell_below hb y3
  replace y4 := pw_cell_below hb y4
  replace y5 := pw_cell_below hb y5
  replace y6 := pw_cell_below hb y6
  replace y7 := pw_cell_below hb y7
  replace RS0 := Aside0.mk (Kd.R_below RS0.out hb)
  replace RS1 := Aside0.mk (Kd.R_below RS1.out hb)
  replace RS2 := Aside0.mk (Kd.R_below RS2.out hb)
  replace RM0 := Aside0.mk (Kd.R_below RM0.out hb)
  replace RM1 := Aside0.mk (Kd.R_below RM1.out hb)
  replace RM2 := Aside0.mk (Kd.R_below RM2.out hb)
  replace HB := Aside0.mk (below_into (w := w) hb HB.out)
  replace B3 := Aside0.mk (below_into (w := w4) hb B3.out)
  have s_w27 := hb.size
  clear hd hb
  have nd1 : decide (Q1 < 0) = false := decide_eq_false (by omega)
  go_wp2_with fail
  refine (HLD1.out _ (by have hC := (Kd.R_reads' RM1.out).2.2; rw [mAll_length] at hC; exact hC)).mono ?_
  rintro x w28 ⟨rfl, hd⟩
  have hb := hd.below
  replace f0 := pw_cell_below hb f0
  replace f1 := pw_cell_below hb f1
  replace f2 := pw_cell_below hb f2
  replace f3 := pw_cell_below hb f3
  replace f4 := pw_cell_below hb f4
  replace f5 := pw_cell_below hb f5
  replace f6 := pw_cell_below hb f6
  replace f7 := pw_cell_below hb f7
  replace y0 := pw_cell_below hb y0
  replace y1 := pw_cell_below hb y1
  replace y2 := pw_cell_below hb y2
  replace y3 := pw_cell_below hb y3
  replace y4 := pw_cell_below hb y4
  replace y5 := pw_cell_below hb y5
  replace y6 := pw_cell_below hb y6
  replace y7 := pw_cell_below hb y7
  replace RS0 := Aside0.mk (Kd.R_below RS0.out hb)
  replace RS1 := Aside0.mk (Kd.R_below RS1.out hb)
  replace RS2 := Aside0.mk (Kd.R_below RS2.out hb)
  replace RM0 := Aside0.mk (Kd.R_below RM0.out hb)
  replace RM1 := Aside0.mk (Kd.R_below RM1.out hb)
  replace RM2 := Aside0.mk (Kd.R_below RM2.out hb)
  replace HB := Aside0.mk (below_into (w := w) hb HB.out)
  replace B3 := Aside0.mk (below_into (w := w4) hb B3.out)
  have s_w28 := hb.size
  clear hd hb
  have nd2 : decide (Q2 < 0) = false := decide_eq_false (by omega)
  go_wp2_with fail
  refine (HLD2.out _ (by have hC := (Kd.R_reads' RM2.out).2.2; rw [mAll_length] at hC; exact hC)).mono ?_
  rintro x w29 ⟨rfl, hd⟩
  have hb := hd.below
  replace f0 := pw_cell_below hb f0
  replace f1 := pw_cell_below hb f1
  replace f2 := pw_cell_below hb f2
  replace f3 := pw_cell_below hb f3
  replace f4 := pw_cell_below hb f4
  replace f5 := pw_cell_below hb f5
  replace f6 := pw_cell_below hb f6
  replace f7 := pw_cell_below hb f7
  replace y0 := pw_cell_below hb y0
  replace y1 := pw_cell_below hb y1
  replace y2 := pw_cell_below hb y2
  replace y3 := pw_cell_below hb y3
  replace y4 := pw_cell_below hb y4
  replace y5 := pw_cell_below hb y5
  replace y6 := pw_cell_below hb y6
  replace y7 := pw_cell_below hb y7
  replace RS0 := Aside0.mk (Kd.R_below RS0.out hb)
  replace RS1 := Aside0.mk (Kd.R_below RS1.out hb)
  replace RS2 := Aside0.mk (Kd.R_below RS2.out hb)
  replace RM0 := Aside0.mk (Kd.R_below RM0.out hb)
  replace RM1 := Aside0.mk (Kd.R_below RM1.out hb)
  replace RM2 := Aside0.mk (Kd.R_below RM2.out hb)
  replace HB := Aside0.mk (below_into (w := w) hb HB.out)
  replace B3 := Aside0.mk (below_into (w := w4) hb B3.out)
  have s_w29 := hb.size
  clear hd hb
  go_wp2_with fail
  go_ret
  exact ⟨rfl, HB.out⟩

end Go.Proofs.Ytphmnkcfjgallaa.Q
