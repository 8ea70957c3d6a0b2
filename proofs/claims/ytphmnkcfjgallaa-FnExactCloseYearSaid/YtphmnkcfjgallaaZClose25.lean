/- Parts of the proof: what functions of the program and of the reference answer.
   No condition. -/
import Derived.Test.YtphmnkcfjgallaaZClose1
import Derived.Test.YtphmnkcfjgallaaZClose18
import Derived.Test.YtphmnkcfjgallaaZClose10
import Derived.Test.YtphmnkcfjgallaaZClose7
import Derived.Test.YtphmnkcfjgallaaZClose19
import Derived.Test.YtphmnkcfjgallaaZClose22
import Derived.Test.YtphmnkcfjgallaaZClose23
import Derived.Test.YtphmnkcfjgallaaZClose24
import Derived.Test.YtphmnkcfjgallaaZClose20
import Derived.Test.YtphmnkcfjgallaaZClose16
import Derived.Test.YtphmnkcfjgallaaZClose21
namespace Go.Proofs.Ytphmnkcfjgallaa.Q
open Go.RowKit Go.Proofs.YtphmnkcfjgallaaW.PrintWords Go.Proofs.YtphmnkcfjgallaaW.PrintLast Go.Proofs.YtphmnkcfjgallaaW.PrintMore
set_option linter.unusedVariables false
set_option linter.unusedSimpArgs false
set_option maxHeartbeats 32000000 in
set_option maxRecDepth 100000 in
theorem laws_FnExactCloseYear.to (A0 : Option Addr) (c0 : Nat) (l0 : List S176) (d c : Int) (A1 : Option Addr) (c1 : Nat) (l1 : List S93) (h : Int) (A2 : Option Addr) (c2 : Nat) (l2 : List S138) (a b day : Int) (w : World)
    (hr0 : Kd.C k176 w A0 l0.length l0) (hc0 : l0.length ≤ c0) (hr1 : Kd.C k93 w A1 l1.length l1) (hc1 : l1.length ≤ c1) (hr2 : Kd.C k138 w A2 l2.length l2) (hc2 : l2.length ≤ c2)
    (hw : wf65 (⟨(⟨l0, d, c⟩ : S59), (⟨l1, h⟩ : S62), l2, a, b⟩ : S65)) (hwt : (Lit.int .i64 day).wf = true) :
    Calls Try.prog 12 #[.agg #[.slice A0 l0.length c0, .int .i64 d, .int .i64 c, .slice A1 l1.length c1, .int .i64 h, .slice A2 l2.length c2, .int .i64 a, .int .i64 b], .int .i64 day] w fun e w' => e = .returned (.bool true) ∧ Below w.heap.size w w' := by
  have H0 := Aside0.mk hr0
  have H1 := Aside0.mk hr1
  have H2 := Aside0.mk hr2
  have C0 := Aside0.mk hc0
  have C1 := Aside0.mk hc1
  have C2 := Aside0.mk hc2
  have HW := Aside0.mk hw
  have HT0 := Aside0.mk (text_cvAccount hw.1.1.2)
  have HT1 := Aside0.mk (text_cvEntry hw.2.1.1.2)
  have HB := Aside0.mk (below_alloc (Below.refl w.heap.size w) (.cells #[.slice A0 l0.length c0, .int .i64 d, .int .i64 c, .slice A1 l1.length c1, .int .i64 h, .slice A2 l2.length c2, .int .i64 a, .int .i64 b] 65))
  clear hr0 hr1 hr2 hw hc0 hc1 hc2 hwt
  go_enter Try.func12, Try.ntmps12
  go_wp2_with fail
  refine (laws_szBooks.calls A0 c0 l0 d c A1 c1 l1 h A2 c2 l2 a b 1048576 _ (Kd.C_below H0.out HB.out) (Kd.C_below H1.out HB.out) (Kd.C_below H2.out HB.out) (by omega) (by omega) HW.out).mono ?_
  rintro x w2 ⟨r, rfl, q1, q2, q3, hb⟩
  have f0 : w2.cell? ⟨w.heap.size, 0, none⟩ = some (.slice A0 l0.length c0) := pw_cell_below hb (by go_simp)
  have f1 : w2.cell? ⟨w.heap.size, 1, none⟩ = some (.int .i64 d) := pw_cell_below hb (by go_simp)
  have f2 : w2.cell? ⟨w.heap.size, 2, none⟩ = some (.int .i64 c) := pw_cell_below hb (by go_simp)
  have f3 : w2.cell? ⟨w.heap.size, 3, none⟩ = some (.slice A1 l1.length c1) := pw_cell_below hb (by go_simp)
  have f4 : w2.cell? ⟨w.heap.size, 4, none⟩ = some (.int .i64 h) := pw_cell_below hb (by go_simp)
  have f5 : w2.cell? ⟨w.heap.size, 5, none⟩ = some (.slice A2 l2.length c2) := pw_cell_below hb (by go_simp)
  have f6 : w2.cell? ⟨w.heap.size, 6, none⟩ = some (.int .i64 a) := pw_cell_below hb (by go_simp)
  have f7 : w2.cell? ⟨w.heap.size, 7, none⟩ = some (.int .i64 b) := pw_cell_below hb (by go_simp)
  replace HB := Aside0.mk (below_into (w := w) hb HB.out)
  have HS := Aside0.mk q3
  have z_f0 := World.block_lt_of_cell? _ _ f0
  clear hb q3
  by_cases hr : r < 0
  case pos =>
    go_wp2_with fail
    go_ret
    exact ⟨rfl, HB.out⟩
  have SM := Aside0.mk (HS.out (by omega))
  have TB := Aside0.mk (laws_toBooks_is l0 d c l1 h l2 a b kBig SM.out kBig_le)
  have ML := Aside0.mk (show smallB (l0.map cvAccount) (l1.map cvEntry) (l2.map cvPeriod) from ⟨by rw [List.length_map]; exact SM.out.1, ⟨by rw [List.length_map]; exact SM.out.2.1.1, fun x hx => by
    obtain ⟨y, hy, rfl⟩ := List.mem_map.1 hx
    show (y.f3.map cvLine).length ≤ 1048576
    rw [List.length_map]
    exact SM.out.2.1.2 y hy⟩, by rw [List.length_map]; exact SM.out.2.2⟩)
  clear HS SM
  generalize l0.map cvAccount = m0 at *
  generalize l1.map cvEntry = m1 at *
  generalize l2.map cvPeriod = m2 at *
  obtain ⟨⟨re0, re1, re2, r0, rk⟩, hres⟩ : ∃ t, t = closeR m0 d c m1 h m2 a b day := ⟨_, rfl⟩
  have ST := Aside0.mk (spec_CloseYear_is m0 d c m1 h m2 a b day HT0.out HT1.out kBig (Nat.le_trans (by omega) kBig_le))
  rw [← hres] at ST
  have IT := Aside0.mk (And.intro (And.intro HT0.out HT1.out) hres.symm)
  have MR := Aside0.mk (closeR_len hres.symm)
  clear hres
  go_wp2_with fail
  refine (laws_toBooks.calls kBig A0 c0 l0 d c A1 c1 l1 h A2 c2 l2 a b m0 d c m1 h m2 a b _ (Kd.C_below H0.out HB.out) C0.out (Kd.C_below H1.out HB.out) C1.out (Kd.C_below H2.out HB.out) C2.out TB.out).mono ?_
  rintro x w3 ⟨v0, v3, v5, rfl, hR0, hR3, hR5, hb⟩
  obtain ⟨B0, eB0, rfl, n0, g0⟩ := Kd.R_reads hR0
  have NB0 := Aside0.mk n0
  have KB0 := Aside0.mk g0
  obtain ⟨B1, eB1, rfl, n1, g1⟩ := Kd.S_reads hR3
  have NB1 := Aside0.mk n1
  have KB1 := Aside0.mk g1
  obtain ⟨B2, eB2, rfl, n2, g2⟩ := Kd.R_reads hR5
  have NB2 := Aside0.mk n2
  have KB2 := Aside0.mk g2
  replace f0 := pw_cell_below hb f0
  replace f1 := pw_cell_below hb f1
  replace f2 := pw_cell_below hb f2
  replace f3 := pw_cell_below hb f3
  replace f4 := pw_cell_below hb f4
  replace f5 := pw_cell_below hb f5
  replace f6 := pw_cell_below hb f6
  replace f7 := pw_cell_below hb f7
  replace HB := Aside0.mk (below_into (w := w) hb HB.out)
  have s_w3 := hb.size
  clear hb hR0 hR3 hR5 n0 n1 n2 g0 g1 g2
  go_wp2_with fail
  refine (spec_CloseYear.calls kBig B0 eB0 m0 d c B1 eB1 m1 h B2 eB2 m2 a b day re0 re1 re2 r0 rk _ (KB0.out) NB0.out (KB1.out) NB1.out (KB2.out) NB2.out ST.out).mono ?_
  rintro x w4 ⟨vs, rfl, hR0, hb⟩
  obtain ⟨S0, eS0, rfl, n0, _⟩ := Kd.R_reads hR0
  have NS0 := Aside0.mk n0
  have RS0 := Aside0.mk (R_iv hR0)
  replace f0 := pw_cell_below hb f0
  replace f1 := pw_cell_below hb f1
  replace f2 := pw_cell_below hb f2
  replace f3 := pw_cell_below hb f3
  replace f4 := pw_cell_below hb f4
  replace f5 := pw_cell_below hb f5
  replace f6 := pw_cell_below hb f6
  replace f7 := pw_cell_below hb f7
  replace HB := Aside0.mk (below_into (w := w) hb HB.out)
  have s_w4 := hb.size
  clear hb hR0 n0
  clear KB0 KB1 KB2 NB0 NB1 NB2
  have zz_f0 := World.block_lt_of_cell? _ _ f0
  go_wp2_with fail
  have p0 : (w4.alloc (.cells #[.int .i64 re0, .int .i64 re1, .string re2, .slice S0 r0.length eS0] 34)).cell? ⟨w4.heap.size, 0, none⟩ = some (.int .i64 re0) := by go_simp
  have p1 : (w4.alloc (.cells #[.int .i64 re0, .int .i64 re1, .string re2, .slice S0 r0.length eS0] 34)).cell? ⟨w4.heap.size, 1, none⟩ = some (.int .i64 re1) := by go_simp
  have p2 : (w4.alloc (.cells #[.int .i64 re0, .int .i64 re1, .string re2, .slice S0 r0.length eS0] 34)).cell? ⟨w4.heap.size, 2, none⟩ = some (.string re2) := by go_simp
  have p3 : (w4.alloc (.cells #[.int .i64 re0, .int .i64 re1, .string re2, .slice S0 r0.length eS0] 34)).cell? ⟨w4.heap.size, 3, none⟩ = some (.slice S0 r0.length eS0) := by go_simp
  have hb := below_alloc (Below.refl w4.heap.size w4) (.cells #[.int .i64 re0, .int .i64 re1, .string re2, .slice S0 r0.length eS0] 34)
  replace f0 := pw_cell_below hb f0
  replace f1 := pw_cell_below hb f1
  replace f2 := pw_cell_below hb f2
  replace f3 := pw_cell_below hb f3
  replace f4 := pw_cell_below hb f4
  replace f5 := pw_cell_below hb f5
  replace f6 := pw_cell_below hb f6
  replace f7 := pw_cell_below hb f7
  replace RS0 := Aside0.mk (Kd.R_below RS0.out hb)
  replace HB := Aside0.mk (below_into (w := w) hb HB.out)
  have s_w5 : w4.heap.size < (w4.alloc (.cells #[.int .i64 re0, .int .i64 re1, .string re2, .slice S0 r0.length eS0] 34)).heap.size := by simp
  clear hb
  generalize w4.alloc (.cells #[.int .i64 re0, .int .i64 re1, .string re2, .slice S0 r0.length eS0] 34) = w5 at *
  have z_p0 := World.block_lt_of_cell? _ _ p0
  have HBW := HB
  have B3 := Aside0.mk (Below.refl w5.heap.size w5)
  refine (laws_toBooks.calls kBig A0 c0 l0 d c A1 c1 l1 h A2 c2 l2 a b m0 d c m1 h m2 a b _ (Kd.C_below H0.out HB.out) C0.out (Kd.C_below H1.out HB.out) C1.out (Kd.C_below H2.out HB.out) C2.out TB.out).mono ?_
  rintro x w6 ⟨v0, v3, v5, rfl, hR0, hR3, hR5, hb⟩
  obtain ⟨X0, eX0, rfl, n0, g0⟩ := Kd.R_reads hR0
  have NX0 := Aside0.mk n0
  have RX0 := Aside0.mk (R_iv hR0)
  obtain ⟨X1, eX1, rfl, n1, g1⟩ := Kd.S_reads hR3
  have NX1 := Aside0.mk n1
  have RX1 := Aside0.mk (S_iv hR3)
  obtain ⟨X2, eX2, rfl, n2, g2⟩ := Kd.R_reads hR5
  have NX2 := Aside0.mk n2
  have RX2 := Aside0.mk (R_iv hR5)
  replace f0 := pw_cell_below hb f0
  replace f1 := pw_cell_below hb f1
  replace f2 := pw_cell_below hb f2
  replace f3 := pw_cell_below hb f3
  replace f4 := pw_cell_below hb f4
  replace f5 := pw_cell_below hb f5
  replace f6 := pw_cell_below hb f6
  replace f7 := pw_cell_below hb f7
  replace p0 := pw_cell_below hb p0
  replace p1 := pw_cell_below hb p1
  replace p2 := pw_cell_below hb p2
  replace p3 := pw_cell_below hb p3
  replace RS0 := Aside0.mk (Kd.R_below RS0.out hb)
  replace HB := Aside0.mk (below_into (w := w) hb HB.out)
  replace B3 := Aside0.mk (below_into (w := w5) hb B3.out)
  have s_w6 := hb.size
  clear hb hR0 hR3 hR5 n0 n1 n2 g0 g1 g2
  have zz_f0 := World.block_lt_of_cell? _ _ f0
  have zz_p0 := World.block_lt_of_cell? _ _ p0
  go_wp2_with fail
  have y0 : (w6.alloc (.cells #[.slice X0 m0.length eX0, .int .i64 d, .int .i64 c, .slice X1 m1.length eX1, .int .i64 h, .slice X2 m2.length eX2, .int .i64 a, .int .i64 b] 50)).cell? ⟨w6.heap.size, 0, none⟩ = some (.slice X0 m0.length eX0) := by go_simp
  have y1 : (w6.alloc (.cells #[.slice X0 m0.length eX0, .int .i64 d, .int .i64 c, .slice X1 m1.length eX1, .int .i64 h, .slice X2 m2.length eX2, .int .i64 a, .int .i64 b] 50)).cell? ⟨w6.heap.size, 1, none⟩ = some (.int .i64 d) := by go_simp
  have y2 : (w6.alloc (.cells #[.slice X0 m0.length eX0, .int .i64 d, .int .i64 c, .slice X1 m1.length eX1, .int .i64 h, .slice X2 m2.length eX2, .int .i64 a, .int .i64 b] 50)).cell? ⟨w6.heap.size, 2, none⟩ = some (.int .i64 c) := by go_simp
  have y3 : (w6.alloc (.cells #[.slice X0 m0.length eX0, .int .i64 d, .int .i64 c, .slice X1 m1.length eX1, .int .i64 h, .slice X2 m2.length eX2, .int .i64 a, .int .i64 b] 50)).cell? ⟨w6.heap.size, 3, none⟩ = some (.slice X1 m1.length eX1) := by go_simp
  have y4 : (w6.alloc (.cells #[.slice X0 m0.length eX0, .int .i64 d, .int .i64 c, .slice X1 m1.length eX1, .int .i64 h, .slice X2 m2.length eX2, .int .i64 a, .int .i64 b] 50)).cell? ⟨w6.heap.size, 4, none⟩ = some (.int .i64 h) := by go_simp
  have y5 : (w6.alloc (.cells #[.slice X0 m0.length eX0, .int .i64 d, .int .i64 c, .slice X1 m1.length eX1, .int .i64 h, .slice X2 m2.length eX2, .int .i64 a, .int .i64 b] 50)).cell? ⟨w6.heap.size, 5, none⟩ = some (.slice X2 m2.length eX2) := by go_simp
  have y6 : (w6.alloc (.cells #[.slice X0 m0.length eX0, .int .i64 d, .int .i64 c, .slice X1 m1.length eX1, .int .i64 h, .slice X2 m2.length eX2, .int .i64 a, .int .i64 b] 50)).cell? ⟨w6.heap.size, 6, none⟩ = some (.int .i64 a) := by go_simp
  have y7 : (w6.alloc (.cells #[.slice X0 m0.length eX0, .int .i64 d, .int .i64 c, .slice X1 m1.length eX1, .int .i64 h, .slice X2 m2.length eX2, .int .i64 a, .int .i64 b] 50)).cell? ⟨w6.heap.size, 7, none⟩ = some (.int .i64 b) := by go_simp
  have hb := below_alloc (Below.refl w6.heap.size w6) (.cells #[.slice X0 m0.length eX0, .int .i64 d, .int .i64 c, .slice X1 m1.length eX1, .int .i64 h, .slice X2 m2.length eX2, .int .i64 a, .int .i64 b] 50)
  replace f0 := pw_cell_below hb f0
  replace f1 := pw_cell_below hb f1
  replace f2 := pw_cell_below hb f2
  replace f3 := pw_cell_below hb f3
  replace f4 := pw_cell_below hb f4
  replace f5 := pw_cell_below hb f5
  replace f6 := pw_cell_below hb f6
  replace f7 := pw_cell_below hb f7
  replace p0 := pw_cell_below hb p0
  replace p1 := pw_cell_below hb p1
  replace p2 := pw_cell_below hb p2
  replace p3 := pw_cell_below hb p3
  replace RS0 := Aside0.mk (Kd.R_below RS0.out hb)
  replace RX0 := Aside0.mk (Kd.R_below RX0.out hb)
  replace RX1 := Aside0.mk (Kd.S_below RX1.out hb)
  replace RX2 := Aside0.mk (Kd.R_below RX2.out hb)
  replace HB := Aside0.mk (below_into (w := w) hb HB.out)
  replace B3 := Aside0.mk (below_into (w := w5) hb B3.out)
  have s_w7 : w6.heap.size < (w6.alloc (.cells #[.slice X0 m0.length eX0, .int .i64 d, .int .i64 c, .slice X1 m1.length eX1, .int .i64 h, .slice X2 m2.length eX2, .int .i64 a, .int .i64 b] 50)).heap.size := by simp
  clear hb
  generalize w6.alloc (.cells #[.slice X0 m0.length eX0, .int .i64 d, .int .i64 c, .slice X1 m1.length eX1, .int .i64 h, .slice X2 m2.length eX2, .int .i64 a, .int .i64 b] 50) = w7 at *
  have z_y0 := World.block_lt_of_cell? _ _ y0
  refine (impl_CloseYear.at X0 eX0 m0 d c X1 eX1 m1 h X2 eX2 m2 a b day re0 re1 re2 r0 rk _ ((Kd.R_reads' RX0.out).2.2) NX0.out ((Kd.S_reads' RX1.out).2.2) NX1.out ((Kd.R_reads' RX2.out).2.2) NX2.out IT.out).mono ?_
  rintro x w8 ⟨vs, rfl, hR0, hb⟩
  obtain ⟨G0, eG0, rfl, n0, _⟩ := Kd.R_reads hR0
  have NG0 := Aside0.mk n0
  have RG0 := Aside0.mk (Kd.R_lower (R_iv hR0) (show w5.heap.size ≤ _ by omega))
  replace f0 := pw_cell_below hb f0
  replace f1 := pw_cell_below hb f1
  replace f2 := pw_cell_below hb f2
  replace f3 := pw_cell_below hb f3
  replace f4 := pw_cell_below hb f4
  replace f5 := pw_cell_below hb f5
  replace f6 := pw_cell_below hb f6
  replace f7 := pw_cell_below hb f7
  replace p0 := pw_cell_below hb p0
  replace p1 := pw_cell_below hb p1
  replace p2 := pw_cell_below hb p2
  replace p3 := pw_cell_below hb p3
  replace y0 := pw_cell_below hb y0
  replace y1 := pw_cell_below hb y1
  replace y2 := pw_cell_below hb y2
  replace y3 := pw_cell_below hb y3
  replace y4 := pw_cell_below hb y4
  replace y5 := pw_cell_below hb y5
  replace y6 := pw_cell_below hb y6
  replace y7 := pw_cell_below hb y7
  replace RS0 := Aside0.mk (Kd.R_below RS0.out hb)
  replace RX0 := Aside0.mk (Kd.R_below RX0.out hb)
  replace RX1 := Aside0.mk (Kd.S_below RX1.out hb)
  replace RX2 := Aside0.mk (Kd.R_below RX2.out hb)
  replace HB := Aside0.mk (below_into (w := w) hb HB.out)
  replace B3 := Aside0.mk (below_into (w := w5) hb B3.out)
  have s_w8 := hb.size
  clear hb hR0 n0
  have zz_f0 := World.block_lt_of_cell? _ _ f0
  have zz_p0 := World.block_lt_of_cell? _ _ p0
  have zz_y0 := World.block_lt_of_cell? _ _ y0
  go_wp2_with fail
  have z0 : (w8.alloc (.cells #[.int .i64 re0, .int .i64 re1, .string re2, .slice G0 r0.length eG0] 34)).cell? ⟨w8.heap.size, 0, none⟩ = some (.int .i64 re0) := by go_simp
  have z1 : (w8.alloc (.cells #[.int .i64 re0, .int .i64 re1, .string re2, .slice G0 r0.length eG0] 34)).cell? ⟨w8.heap.size, 1, none⟩ = some (.int .i64 re1) := by go_simp
  have z2 : (w8.alloc (.cells #[.int .i64 re0, .int .i64 re1, .string re2, .slice G0 r0.length eG0] 34)).cell? ⟨w8.heap.size, 2, none⟩ = some (.string re2) := by go_simp
  have z3 : (w8.alloc (.cells #[.int .i64 re0, .int .i64 re1, .string re2, .slice G0 r0.length eG0] 34)).cell? ⟨w8.heap.size, 3, none⟩ = some (.slice G0 r0.length eG0) := by go_simp
  have hb := below_alloc (Below.refl w8.heap.size w8) (.cells #[.int .i64 re0, .int .i64 re1, .string re2, .slice G0 r0.length eG0] 34)
  replace f0 := pw_cell_below hb f0
  replace f1 := pw_cell_below hb f1
  replace f2 := pw_cell_below hb f2
  replace f3 := pw_cell_below hb f3
  replace f4 := pw_cell_below hb f4
  replace f5 := pw_cell_below hb f5
  replace f6 := pw_cell_below hb f6
  replace f7 := pw_cell_below hb f7
  replace p0 := pw_cell_below hb p0
  replace p1 := pw_cell_below hb p1
  replace p2 := pw_cell_below hb p2
  replace p3 := pw_cell_below hb p3
  replace y0 := pw_cell_below hb y0
  replace y1 := pw_cell_below hb y1
  replace y2 := pw_cell_below hb y2
  replace y3 := pw_cell_below hb y3
  replace y4 := pw_cell_below hb y4
  replace y5 := pw_cell_below hb y5
  replace y6 := pw_cell_below hb y6
  replace y7 := pw_cell_below hb y7
  replace RS0 := Aside0.mk (Kd.R_below RS0.out hb)
  replace RX0 := Aside0.mk (Kd.R_below RX0.out hb)
  replace RX1 := Aside0.mk (Kd.S_below RX1.out hb)
  replace RX2 := Aside0.mk (Kd.R_below RX2.out hb)
  replace RG0 := Aside0.mk (Kd.R_below RG0.out hb)
  replace HB := Aside0.mk (below_into (w := w) hb HB.out)
  replace B3 := Aside0.mk (below_into (w := w5) hb B3.out)
  have s_w9 : w8.heap.size < (w8.alloc (.cells #[.int .i64 re0, .int .i64 re1, .string re2, .slice G0 r0.length eG0] 34)).heap.size := by simp
  clear hb
  generalize w8.alloc (.cells #[.int .i64 re0, .int .i64 re1, .string re2, .slice G0 r0.length eG0] 34) = w9 at *
  have z_z0 := World.block_lt_of_cell? _ _ z0
  refine (laws_eqEntry.calls re0 re1 re2 G0 eG0 r0 re0 re1 re2 S0 eS0 r0 _ ((Kd.R_reads' RG0.out).2.2) ((Kd.R_reads' RS0.out).2.2)).mono ?_
  rintro x w10 ⟨rfl, hb⟩
  replace f0 := pw_cell_below hb f0
  replace f1 := pw_cell_below hb f1
  replace f2 := pw_cell_below hb f2
  replace f3 := pw_cell_below hb f3
  replace f4 := pw_cell_below hb f4
  replace f5 := pw_cell_below hb f5
  replace f6 := pw_cell_below hb f6
  replace f7 := pw_cell_below hb f7
  replace p0 := pw_cell_below hb p0
  replace p1 := pw_cell_below hb p1
  replace p2 := pw_cell_below hb p2
  replace p3 := pw_cell_below hb p3
  replace y0 := pw_cell_below hb y0
  replace y1 := pw_cell_below hb y1
  replace y2 := pw_cell_below hb y2
  replace y3 := pw_cell_below hb y3
  replace y4 := pw_cell_below hb y4
  replace y5 := pw_cell_below hb y5
  replace y6 := pw_cell_below hb y6
  replace y7 := pw_cell_below hb y7
  replace z0 := pw_cell_below hb z0
  replace z1 := pw_cell_below hb z1
  replace z2 := pw_cell_below hb z2
  replace z3 := pw_cell_below hb z3
  replace RS0 := Aside0.mk (Kd.R_below RS0.out hb)
  replace RX0 := Aside0.mk (Kd.R_below RX0.out hb)
  replace RX1 := Aside0.mk (Kd.S_below RX1.out hb)
  replace RX2 := Aside0.mk (Kd.R_below RX2.out hb)
  replace RG0 := Aside0.mk (Kd.R_below RG0.out hb)
  replace HB := Aside0.mk (below_into (w := w) hb HB.out)
  replace B3 := Aside0.mk (below_into (w := w5) hb B3.out)
  have s_w10 := hb.size
  clear hb
  rw [← same_true rfl]
  go_wp2_with fail
  have HV := Aside0.mk (Below.refl w10.heap.size w10)
  go_region_held3 (fun w' => w'.cell? ⟨w.heap.size, 0, none⟩ = some (.slice A0 l0.length c0) ∧ w'.cell? ⟨w.heap.size, 1, none⟩ = some (.int .i64 d) ∧ w'.cell? ⟨w.heap.size, 2, none⟩ = some (.int .i64 c) ∧ w'.cell? ⟨w.heap.size, 3, none⟩ = some (.slice A1 l1.length c1) ∧ w'.cell? ⟨w.heap.size, 4, none⟩ = some (.int .i64 h) ∧ w'.cell? ⟨w.heap.size, 5, none⟩ = some (.slice A2 l2.length c2) ∧ w'.cell? ⟨w.heap.size, 6, none⟩ = some (.int .i64 a) ∧ w'.cell? ⟨w.heap.size, 7, none⟩ = some (.int .i64 b) ∧ w'.cell? ⟨w4.heap.size, 0, none⟩ = some (.int .i64 re0) ∧ w'.cell? ⟨w4.heap.size, 1, none⟩ = some (.int .i64 re1) ∧ w'.cell? ⟨w4.heap.size, 2, none⟩ = some (.string re2) ∧ w'.cell? ⟨w4.heap.size, 3, none⟩ = some (.slice S0 r0.length eS0) ∧ w'.cell? ⟨w6.heap.size, 0, none⟩ = some (.slice X0 m0.length eX0) ∧ w'.cell? ⟨w6.heap.size, 1, none⟩ = some (.int .i64 d) ∧ w'.cell? ⟨w6.heap.size, 2, none⟩ = some (.int .i64 c) ∧ w'.cell? ⟨w6.heap.size, 3, none⟩ = some (.slice X1 m1.length eX1) ∧ w'.cell? ⟨w6.heap.size, 4, none⟩ = some (.int .i64 h) ∧ w'.cell? ⟨w6.heap.size, 5, none⟩ = some (.slice X2 m2.length eX2) ∧ w'.cell? ⟨w6.heap.size, 6, none⟩ = some (.int .i64 a) ∧ w'.cell? ⟨w6.heap.size, 7, none⟩ = some (.int .i64 b) ∧ w'.cell? ⟨w8.heap.size, 0, none⟩ = some (.int .i64 re0) ∧ w'.cell? ⟨w8.heap.size, 1, none⟩ = some (.int .i64 re1) ∧ w'.cell? ⟨w8.heap.size, 2, none⟩ = some (.string re2) ∧ w'.cell? ⟨w8.heap.size, 3, none⟩ = some (.slice G0 r0.length eG0)) ((first | go_keep | exact ⟨pw_cell_below hb (by assumption), pw_cell_below hb (by assumption), pw_cell_below hb (by assumption), pw_cell_below hb (by assumption), pw_cell_below hb (by assumption), pw_cell_below hb (by assumption), pw_cell_below hb (by assumption), pw_cell_below hb (by assumption), pw_cell_below hb (by assumption), pw_cell_below hb (by assumption), pw_cell_below hb (by assumption), pw_cell_below hb (by assumption), pw_cell_below hb (by assumption), pw_cell_below hb (by assumption), pw_cell_below hb (by assumption), pw_cell_below hb (by assumption), pw_cell_below hb (by assumption), pw_cell_below hb (by assumption), pw_cell_below hb (by assumption), pw_cell_below hb (by assumption), pw_cell_below hb (by assumption), pw_cell_below hb (by assumption), pw_cell_below hb (by assumption), pw_cell_below hb (by assumption)⟩ | (have hH := ‹_ ∧ _›; obtain ⟨t0, t1, t2, t3, t4, t5, t6, t7, t8, t9, t10, t11, t12, t13, t14, t15, t16, t17, t18, t19, t20, t21, t22, t23⟩ := hH; exact ⟨pw_cell_below hb t0, pw_cell_below hb t1, pw_cell_below hb t2, pw_cell_below hb t3, pw_cell_below hb t4, pw_cell_below hb t5, pw_cell_below hb t6, pw_cell_below hb t7, pw_cell_below hb t8, pw_cell_below hb t9, pw_cell_below hb t10, pw_cell_below hb t11, pw_cell_below hb t12, pw_cell_below hb t13, pw_cell_below hb t14, pw_cell_below hb t15, pw_cell_below hb t16, pw_cell_below hb t17, pw_cell_below hb t18, pw_cell_below hb t19, pw_cell_below hb t20, pw_cell_below hb t21, pw_cell_below hb t22, pw_cell_below hb t23⟩)))
    ((first | (go_at_call 31; refine (laws_toBooks.calls kBig A0 c0 l0 d c A1 c1 l1 h A2 c2 l2 a b m0 d c m1 h m2 a b _ (Kd.C_below H0.out (by repeat (first | exact HB.out | refine below_drew1 ?_ | refine pw_below_drewN ?_ _))) C0.out (Kd.C_below H1.out (by repeat (first | exact HB.out | refine below_drew1 ?_ | refine pw_below_drewN ?_ _))) C1.out (Kd.C_below H2.out (by repeat (first | exact HB.out | refine below_drew1 ?_ | refine pw_below_drewN ?_ _))) C2.out TB.out).mono ?_; rintro x wA ⟨v0, v3, v5, rfl, hR0, hR3, hR5, hb⟩; obtain ⟨P0, q0, rfl, n0, t0⟩ := Kd.R_reads hR0; obtain ⟨P1, q1, rfl, n1, t1⟩ := Kd.S_reads hR3; obtain ⟨P2, q2, rfl, n2, t2⟩ := Kd.R_reads hR5; have K0a := Aside0.mk t0; have K1a := Aside0.mk t1; have K2a := Aside0.mk t2; have HVAa := Aside0.mk (below_into (w := w10) hb (by repeat (first | exact HV.out | refine below_drew1 ?_ | refine pw_below_drewN ?_ _))); clear hR0 hR3 hR5 n0 n1 n2 t0 t1 t2) | (go_at_call 33; refine (laws_eqBooks.calls X0 eX0 m0 d c X1 eX1 m1 h X2 eX2 m2 a b P0 q0 m0 d c P1 q1 m1 h P2 q2 m2 a b _ (Kd.C_below ((Kd.R_reads' RX0.out).2.2) (by repeat (first | exact HV.out | exact HVAa.out | refine below_drew1 ?_ | refine pw_below_drewN ?_ _))) (Kd.C_below ((Kd.S_reads' RX1.out).2.2) (by repeat (first | exact HV.out | exact HVAa.out | refine below_drew1 ?_ | refine pw_below_drewN ?_ _))) (Kd.C_below ((Kd.R_reads' RX2.out).2.2) (by repeat (first | exact HV.out | exact HVAa.out | refine below_drew1 ?_ | refine pw_below_drewN ?_ _))) (Kd.C_below K0a.out (by repeat (first | exact Below.refl _ _ | refine below_drew1 ?_ | refine pw_below_drewN ?_ _))) (Kd.C_below K1a.out (by repeat (first | exact Below.refl _ _ | refine below_drew1 ?_ | refine pw_below_drewN ?_ _))) (Kd.C_below K2a.out (by repeat (first | exact Below.refl _ _ | refine below_drew1 ?_ | refine pw_below_drewN ?_ _)))).mono ?_; rintro x w11 ⟨rfl, hb⟩; have HVE1 := Aside0.mk (below_into (w := w10) hb (by repeat (first | exact HV.out | exact HVAa.out | refine below_drew1 ?_ | refine pw_below_drewN ?_ _))))))
  clear f0 f1 f2 f3 f4 f5 f6 f7 p0 p1 p2 p3 y0 y1 y2 y3 y4 y5 y6 y7 z0 z1 z2 z3
  have hH := ‹_ ∧ _›
  obtain ⟨f0, f1, f2, f3, f4, f5, f6, f7, p0, p1, p2, p3, y0, y1, y2, y3, y4, y5, y6, y7, z0, z1, z2, z3⟩ := hH
  have hb := HVE1.out
  replace RS0 := Aside0.mk (Kd.R_below RS0.out hb)
  replace RX0 := Aside0.mk (Kd.R_below RX0.out hb)
  replace RX1 := Aside0.mk (Kd.S_below RX1.out hb)
  replace RX2 := Aside0.mk (Kd.R_below RX2.out hb)
  replace RG0 := Aside0.mk (Kd.R_below RG0.out hb)
  replace HB := Aside0.mk (below_into (w := w) hb HB.out)
  replace B3 := Aside0.mk (below_into (w := w5) hb B3.out)
  have s_w11 := hb.size
  clear hb HV
  rw [← same_true rfl]
  go_wp2_with fail
  refine (laws_markBooks.to2 w5.heap.size w6.heap.size X0 eX0 m0 d c X1 eX1 m1 h X2 eX2 m2 a b 1 w5 _ B3.out RX0.out RX1.out RX2.out (by omega) (by omega) (by omega) ML.out).mono ?_
  rintro x w12 ⟨rfl, hB3, hK, _, _, _⟩
  replace f0 := cell_iv_kept f0 hK (by first | exact Or.inl (show w.heap.size < w5.heap.size by omega) | exact Or.inr (show w6.heap.size ≤ w.heap.size by omega))
  replace f1 := cell_iv_kept f1 hK (by first | exact Or.inl (show w.heap.size < w5.heap.size by omega) | exact Or.inr (show w6.heap.size ≤ w.heap.size by omega))
  replace f2 := cell_iv_kept f2 hK (by first | exact Or.inl (show w.heap.size < w5.heap.size by omega) | exact Or.inr (show w6.heap.size ≤ w.heap.size by omega))
  replace f3 := cell_iv_kept f3 hK (by first | exact Or.inl (show w.heap.size < w5.heap.size by omega) | exact Or.inr (show w6.heap.size ≤ w.heap.size by omega))
  replace f4 := cell_iv_kept f4 hK (by first | exact Or.inl (show w.heap.size < w5.heap.size by omega) | exact Or.inr (show w6.heap.size ≤ w.heap.size by omega))
  replace f5 := cell_iv_kept f5 hK (by first | exact Or.inl (show w.heap.size < w5.heap.size by omega) | exact Or.inr (show w6.heap.size ≤ w.heap.size by omega))
  replace f6 := cell_iv_kept f6 hK (by first | exact Or.inl (show w.heap.size < w5.heap.size by omega) | exact Or.inr (show w6.heap.size ≤ w.heap.size by omega))
  replace f7 := cell_iv_kept f7 hK (by first | exact Or.inl (show w.heap.size < w5.heap.size by omega) | exact Or.inr (show w6.heap.size ≤ w.heap.size by omega))
  replace p0 := cell_iv_kept p0 hK (by first | exact Or.inl (show w4.heap.size < w5.heap.size by omega) | exact Or.inr (show w6.heap.size ≤ w4.heap.size by omega))
  replace p1 := cell_iv_kept p1 hK (by first | exact Or.inl (show w4.heap.size < w5.heap.size by omega) | exact Or.inr (show w6.heap.size ≤ w4.heap.size by omega))
  replace p2 := cell_iv_kept p2 hK (by first | exact Or.inl (show w4.heap.size < w5.heap.size by omega) | exact Or.inr (show w6.heap.size ≤ w4.heap.size by omega))
  replace p3 := cell_iv_kept p3 hK (by first | exact Or.inl (show w4.heap.size < w5.heap.size by omega) | exact Or.inr (show w6.heap.size ≤ w4.heap.size by omega))
  replace y0 := cell_iv_kept y0 hK (by first | exact Or.inl (show w6.heap.size < w5.heap.size by omega) | exact Or.inr (show w6.heap.size ≤ w6.heap.size by omega))
  replace y1 := cell_iv_kept y1 hK (by first | exact Or.inl (show w6.heap.size < w5.heap.size by omega) | exact Or.inr (show w6.heap.size ≤ w6.heap.size by omega))
  replace y2 := cell_iv_kept y2 hK (by first | exact Or.inl (show w6.heap.size < w5.heap.size by omega) | exact Or.inr (show w6.heap.size ≤ w6.heap.size by omega))
  replace y3 := cell_iv_kept y3 hK (by first | exact Or.inl (show w6.heap.size < w5.heap.size by omega) | exact Or.inr (show w6.heap.size ≤ w6.heap.size by omega))
  replace y4 := cell_iv_kept y4 hK (by first | exact Or.inl (show w6.heap.size < w5.heap.size by omega) | exact Or.inr (show w6.heap.size ≤ w6.heap.size by omega))
  replace y5 := cell_iv_kept y5 hK (by first | exact Or.inl (show w6.heap.size < w5.heap.size by omega) | exact Or.inr (show w6.heap.size ≤ w6.heap.size by omega))
  replace y6 := cell_iv_kept y6 hK (by first | exact Or.inl (show w6.heap.size < w5.heap.size by omega) | exact Or.inr (show w6.heap.size ≤ w6.heap.size by omega))
  replace y7 := cell_iv_kept y7 hK (by first | exact Or.inl (show w6.heap.size < w5.heap.size by omega) | exact Or.inr (show w6.heap.size ≤ w6.heap.size by omega))
  replace z0 := cell_iv_kept z0 hK (by first | exact Or.inl (show w8.heap.size < w5.heap.size by omega) | exact Or.inr (show w6.heap.size ≤ w8.heap.size by omega))
  replace z1 := cell_iv_kept z1 hK (by first | exact Or.inl (show w8.heap.size < w5.heap.size by omega) | exact Or.inr (show w6.heap.size ≤ w8.heap.size by omega))
  replace z2 := cell_iv_kept z2 hK (by first | exact Or.inl (show w8.heap.size < w5.heap.size by omega) | exact Or.inr (show w6.heap.size ≤ w8.heap.size by omega))
  replace z3 := cell_iv_kept z3 hK (by first | exact Or.inl (show w8.heap.size < w5.heap.size by omega) | exact Or.inr (show w6.heap.size ≤ w8.heap.size by omega))
  replace RS0 := Aside0.mk (R_iv_kept RS0.out hK (by omega))
  replace RG0 := Aside0.mk (R_iv_kept RG0.out hK (by omega))
  replace B3 := Aside0.mk hB3
  replace HB := Aside0.mk (below_into (w := w) hB3 HBW.out)
  have s_w12 := hK.1
  clear hB3 hK RX0 RX1 RX2
  have mb := (mkB_b (k := 1) ML.out).2.2
  generalize mkB 1 m0 m1 m2 = K1 at *
  have nb2 : decide (K1 < 0) = false := decide_eq_false (by omega)
  go_wp2_with fail
  refine (laws_eqEntry.calls re0 re1 re2 G0 eG0 r0 re0 re1 re2 S0 eS0 r0 _ ((Kd.R_reads' RG0.out).2.2) ((Kd.R_reads' RS0.out).2.2)).mono ?_
  rintro x w13 ⟨rfl, hb⟩
  replace f0 := pw_cell_below hb f0
  replace f1 := pw_cell_below hb f1
  replace f2 := pw_cell_below hb f2
  replace f3 := pw_cell_below hb f3
  replace f4 := pw_cell_below hb f4
  replace f5 := pw_cell_below hb f5
  replace f6 := pw_cell_below hb f6
  replace f7 := pw_cell_below hb f7
  replace p0 := pw_cell_below hb p0
  replace p1 := pw_cell_below hb p1
  replace p2 := pw_cell_below hb p2
  replace p3 := pw_cell_below hb p3
  replace y0 := pw_cell_below hb y0
  replace y1 := pw_cell_below hb y1
  replace y2 := pw_cell_below hb y2
  replace y3 := pw_cell_below hb y3
  replace y4 := pw_cell_below hb y4
  replace y5 := pw_cell_below hb y5
  replace y6 := pw_cell_below hb y6
  replace y7 := pw_cell_below hb y7
  replace z0 := pw_cell_below hb z0
  replace z1 := pw_cell_below hb z1
  replace z2 := pw_cell_below hb z2
  replace z3 := pw_cell_below hb z3
  replace RS0 := Aside0.mk (Kd.R_below RS0.out hb)
  replace RG0 := Aside0.mk (Kd.R_below RG0.out hb)
  replace HB := Aside0.mk (below_into (w := w) hb HB.out)
  replace B3 := Aside0.mk (below_into (w := w5) hb B3.out)
  have s_w13 := hb.size
  clear hb
  rw [← same_true rfl]
  clear nb2 mb
  go_wp2_with fail
  refine (laws_markEntry.calls kBig re0 re1 re2 (Iv w7.heap.size w8.heap.size) (.slice G0 r0.length eG0) r0 1 _ _ w5 _ B3.out RG0.out (laws_markEntry_is re0 re1 re2 r0 kBig 1 (Nat.lt_of_lt_of_le (by have := MR.out; omega) kBig_le) MR.out (by omega) (by omega))).mono ?_
  rintro x w14 ⟨rfl, hR, hB3, hK⟩
  have RM0 := Aside0.mk (R_iv_mark rfl RG0.out hR)
  replace f0 := cell_iv_kept f0 hK (by first | exact Or.inl (show w.heap.size < w7.heap.size by omega) | exact Or.inr (show w8.heap.size ≤ w.heap.size by omega))
  replace f1 := cell_iv_kept f1 hK (by first | exact Or.inl (show w.heap.size < w7.heap.size by omega) | exact Or.inr (show w8.heap.size ≤ w.heap.size by omega))
  replace f2 := cell_iv_kept f2 hK (by first | exact Or.inl (show w.heap.size < w7.heap.size by omega) | exact Or.inr (show w8.heap.size ≤ w.heap.size by omega))
  replace f3 := cell_iv_kept f3 hK (by first | exact Or.inl (show w.heap.size < w7.heap.size by omega) | exact Or.inr (show w8.heap.size ≤ w.heap.size by omega))
  replace f4 := cell_iv_kept f4 hK (by first | exact Or.inl (show w.heap.size < w7.heap.size by omega) | exact Or.inr (show w8.heap.size ≤ w.heap.size by omega))
  replace f5 := cell_iv_kept f5 hK (by first | exact Or.inl (show w.heap.size < w7.heap.size by omega) | exact Or.inr (show w8.heap.size ≤ w.heap.size by omega))
  replace f6 := cell_iv_kept f6 hK (by first | exact Or.inl (show w.heap.size < w7.heap.size by omega) | exact Or.inr (show w8.heap.size ≤ w.heap.size by omega))
  replace f7 := cell_iv_kept f7 hK (by first | exact Or.inl (show w.heap.size < w7.heap.size by omega) | exact Or.inr (show w8.heap.size ≤ w.heap.size by omega))
  replace p0 := cell_iv_kept p0 hK (by first | exact Or.inl (show w4.heap.size < w7.heap.size by omega) | exact Or.inr (show w8.heap.size ≤ w4.heap.size by omega))
  replace p1 := cell_iv_kept p1 hK (by first | exact Or.inl (show w4.heap.size < w7.heap.size by omega) | exact Or.inr (show w8.heap.size ≤ w4.heap.size by omega))
  replace p2 := cell_iv_kept p2 hK (by first | exact Or.inl (show w4.heap.size < w7.heap.size by omega) | exact Or.inr (show w8.heap.size ≤ w4.heap.size by omega))
  replace p3 := cell_iv_kept p3 hK (by first | exact Or.inl (show w4.heap.size < w7.heap.size by omega) | exact Or.inr (show w8.heap.size ≤ w4.heap.size by omega))
  replace y0 := cell_iv_kept y0 hK (by first | exact Or.inl (show w6.heap.size < w7.heap.size by omega) | exact Or.inr (show w8.heap.size ≤ w6.heap.size by omega))
  replace y1 := cell_iv_kept y1 hK (by first | exact Or.inl (show w6.heap.size < w7.heap.size by omega) | exact Or.inr (show w8.heap.size ≤ w6.heap.size by omega))
  replace y2 := cell_iv_kept y2 hK (by first | exact Or.inl (show w6.heap.size < w7.heap.size by omega) | exact Or.inr (show w8.heap.size ≤ w6.heap.size by omega))
  replace y3 := cell_iv_kept y3 hK (by first | exact Or.inl (show w6.heap.size < w7.heap.size by omega) | exact Or.inr (show w8.heap.size ≤ w6.heap.size by omega))
  replace y4 := cell_iv_kept y4 hK (by first | exact Or.inl (show w6.heap.size < w7.heap.size by omega) | exact Or.inr (show w8.heap.size ≤ w6.heap.size by omega))
  replace y5 := cell_iv_kept y5 hK (by first | exact Or.inl (show w6.heap.size < w7.heap.size by omega) | exact Or.inr (show w8.heap.size ≤ w6.heap.size by omega))
  replace y6 := cell_iv_kept y6 hK (by first | exact Or.inl (show w6.heap.size < w7.heap.size by omega) | exact Or.inr (show w8.heap.size ≤ w6.heap.size by omega))
  replace y7 := cell_iv_kept y7 hK (by first | exact Or.inl (show w6.heap.size < w7.heap.size by omega) | exact Or.inr (show w8.heap.size ≤ w6.heap.size by omega))
  replace z0 := cell_iv_kept z0 hK (by first | exact Or.inl (show w8.heap.size < w7.heap.size by omega) | exact Or.inr (show w8.heap.size ≤ w8.heap.size by omega))
  replace z1 := cell_iv_kept z1 hK (by first | exact Or.inl (show w8.heap.size < w7.heap.size by omega) | exact Or.inr (show w8.heap.size ≤ w8.heap.size by omega))
  replace z2 := cell_iv_kept z2 hK (by first | exact Or.inl (show w8.heap.size < w7.heap.size by omega) | exact Or.inr (show w8.heap.size ≤ w8.heap.size by omega))
  replace z3 := cell_iv_kept z3 hK (by first | exact Or.inl (show w8.heap.size < w7.heap.size by omega) | exact Or.inr (show w8.heap.size ≤ w8.heap.size by omega))
  replace RS0 := Aside0.mk (R_iv_kept RS0.out hK (by omega))
  replace B3 := Aside0.mk hB3
  replace HB := Aside0.mk (below_into (w := w) hB3 HBW.out)
  have s_w14 := hK.1
  clear hR hB3 hK RG0
  have nb := nLine_b r0 1
  have nl := MR.out
  have HLD := Aside0.mk (fun (W : World) (hC : Kd.C k112 W G0 r0.length (mAll mLine nLine 1 r0)) => heldEntry_from re0 re1 re2 G0 eG0 r0 1 W hC NG0.out MR.out (by omega) (by omega))
  have NM := Aside0.mk (mAll_length mLine nLine r0 1)
  generalize nAll nLine 1 r0 = Q at *
  generalize mAll mLine nLine 1 r0 = M0 at *
  have nq : decide (Q < 0) = false := decide_eq_false (by omega)
  clear nl nb
  go_wp2_with fail
  refine (HLD.out _ (by have hC := (Kd.R_reads' RM0.out).2.2; rw [NM.out] at hC; exact hC)).mono ?_
  rintro x w15 ⟨rfl, hb⟩
  replace f0 := pw_cell_below hb f0
  replace f1 := pw_cell_below hb f1
  replace f2 := pw_cell_below hb f2
  replace f3 := pw_cell_below hb f3
  replace f4 := pw_cell_below hb f4
  replace f5 := pw_cell_below hb f5
  replace f6 := pw_cell_below hb f6
  replace f7 := pw_cell_below hb f7
  replace p0 := pw_cell_below hb p0
  replace p1 := pw_cell_below hb p1
  replace p2 := pw_cell_below hb p2
  replace p3 := pw_cell_below hb p3
  replace y0 := pw_cell_below hb y0
  replace y1 := pw_cell_below hb y1
  replace y2 := pw_cell_below hb y2
  replace y3 := pw_cell_below hb y3
  replace y4 := pw_cell_below hb y4
  replace y5 := pw_cell_below hb y5
  replace y6 := pw_cell_below hb y6
  replace y7 := pw_cell_below hb y7
  replace z0 := pw_cell_below hb z0
  replace z1 := pw_cell_below hb z1
  replace z2 := pw_cell_below hb z2
  replace z3 := pw_cell_below hb z3
  replace RS0 := Aside0.mk (Kd.R_below RS0.out hb)
  replace RM0 := Aside0.mk (Kd.R_below RM0.out hb)
  replace HB := Aside0.mk (below_into (w := w) hb HB.out)
  replace B3 := Aside0.mk (below_into (w := w5) hb B3.out)
  have s_w15 := hb.size
  clear hb
  go_wp2_with fail
  refine (laws_toBooks.calls kBig A0 c0 l0 d c A1 c1 l1 h A2 c2 l2 a b m0 d c m1 h m2 a b _ (Kd.C_below H0.out HB.out) C0.out (Kd.C_below H1.out HB.out) C1.out (Kd.C_below H2.out HB.out) C2.out TB.out).mono ?_
  rintro x w16 ⟨v0, v3, v5, rfl, hR0, hR3, hR5, hb⟩
  obtain ⟨P0, eP0, rfl, n0, g0⟩ := Kd.R_reads hR0
  have NP0 := Aside0.mk n0
  have KP0 := Aside0.mk g0
  obtain ⟨P1, eP1, rfl, n1, g1⟩ := Kd.S_reads hR3
  have NP1 := Aside0.mk n1
  have KP1 := Aside0.mk g1
  obtain ⟨P2, eP2, rfl, n2, g2⟩ := Kd.R_reads hR5
  have NP2 := Aside0.mk n2
  have KP2 := Aside0.mk g2
  replace f0 := pw_cell_below hb f0
  replace f1 := pw_cell_below hb f1
  replace f2 := pw_cell_below hb f2
  replace f3 := pw_cell_below hb f3
  replace f4 := pw_cell_below hb f4
  replace f5 := pw_cell_below hb f5
  replace f6 := pw_cell_below hb f6
  replace f7 := pw_cell_below hb f7
  replace p0 := pw_cell_below hb p0
  replace p1 := pw_cell_below hb p1
  replace p2 := pw_cell_below hb p2
  replace p3 := pw_cell_below hb p3
  replace y0 := pw_cell_below hb y0
  replace y1 := pw_cell_below hb y1
  replace y2 := pw_cell_below hb y2
  replace y3 := pw_cell_below hb y3
  replace y4 := pw_cell_below hb y4
  replace y5 := pw_cell_below hb y5
  replace y6 := pw_cell_below hb y6
  replace y7 := pw_cell_below hb y7
  replace z0 := pw_cell_below hb z0
  replace z1 := pw_cell_below hb z1
  replace z2 := pw_cell_below hb z2
  replace z3 := pw_cell_below hb z3
  replace RS0 := Aside0.mk (Kd.R_below RS0.out hb)
  replace RM0 := Aside0.mk (Kd.R_below RM0.out hb)
  replace HB := Aside0.mk (below_into (w := w) hb HB.out)
  replace B3 := Aside0.mk (below_into (w := w5) hb B3.out)
  have s_w16 := hb.size
  clear hb hR0 hR3 hR5 n0 n1 n2 g0 g1 g2
  go_wp2_with fail
  refine (impl_CloseYear.at P0 eP0 m0 d c P1 eP1 m1 h P2 eP2 m2 a b day re0 re1 re2 r0 rk _ (KP0.out) NP0.out (KP1.out) NP1.out (KP2.out) NP2.out IT.out).mono ?_
  rintro x w17 ⟨vs, rfl, hR0, hb⟩
  obtain ⟨F0, eF0, rfl, n0, _⟩ := Kd.R_reads hR0
  have NF0 := Aside0.mk n0
  have RF0 := Aside0.mk (R_iv hR0)
  replace f0 := pw_cell_below hb f0
  replace f1 := pw_cell_below hb f1
  replace f2 := pw_cell_below hb f2
  replace f3 := pw_cell_below hb f3
  replace f4 := pw_cell_below hb f4
  replace f5 := pw_cell_below hb f5
  replace f6 := pw_cell_below hb f6
  replace f7 := pw_cell_below hb f7
  replace p0 := pw_cell_below hb p0
  replace p1 := pw_cell_below hb p1
  replace p2 := pw_cell_below hb p2
  replace p3 := pw_cell_below hb p3
  replace y0 := pw_cell_below hb y0
  replace y1 := pw_cell_below hb y1
  replace y2 := pw_cell_below hb y2
  replace y3 := pw_cell_below hb y3
  replace y4 := pw_cell_below hb y4
  replace y5 := pw_cell_below hb y5
  replace y6 := pw_cell_below hb y6
  replace y7 := pw_cell_below hb y7
  replace z0 := pw_cell_below hb z0
  replace z1 := pw_cell_below hb z1
  replace z2 := pw_cell_below hb z2
  replace z3 := pw_cell_below hb z3
  replace RS0 := Aside0.mk (Kd.R_below RS0.out hb)
  replace RM0 := Aside0.mk (Kd.R_below RM0.out hb)
  replace HB := Aside0.mk (below_into (w := w) hb HB.out)
  replace B3 := Aside0.mk (below_into (w := w5) hb B3.out)
  have s_w17 := hb.size
  clear hb hR0 n0
  clear KP0 KP1 KP2 NP0 NP1 NP2
  have zz_f0 := World.block_lt_of_cell? _ _ f0
  have zz_p0 := World.block_lt_of_cell? _ _ p0
  have zz_y0 := World.block_lt_of_cell? _ _ y0
  have zz_z0 := World.block_lt_of_cell? _ _ z0
  go_wp2_with fail
  have u0 : (w17.alloc (.cells #[.int .i64 re0, .int .i64 re1, .string re2, .slice F0 r0.length eF0] 34)).cell? ⟨w17.heap.size, 0, none⟩ = some (.int .i64 re0) := by go_simp
  have u1 : (w17.alloc (.cells #[.int .i64 re0, .int .i64 re1, .string re2, .slice F0 r0.length eF0] 34)).cell? ⟨w17.heap.size, 1, none⟩ = some (.int .i64 re1) := by go_simp
  have u2 : (w17.alloc (.cells #[.int .i64 re0, .int .i64 re1, .string re2, .slice F0 r0.length eF0] 34)).cell? ⟨w17.heap.size, 2, none⟩ = some (.string re2) := by go_simp
  have u3 : (w17.alloc (.cells #[.int .i64 re0, .int .i64 re1, .string re2, .slice F0 r0.length eF0] 34)).cell? ⟨w17.heap.size, 3, none⟩ = some (.slice F0 r0.length eF0) := by go_simp
  have hb := below_alloc (Below.refl w17.heap.size w17) (.cells #[.int .i64 re0, .int .i64 re1, .string re2, .slice F0 r0.length eF0] 34)
  replace f0 := pw_cell_below hb f0
  replace f1 := pw_cell_below hb f1
  replace f2 := pw_cell_below hb f2
  replace f3 := pw_cell_below hb f3
  replace f4 := pw_cell_below hb f4
  replace f5 := pw_cell_below hb f5
  replace f6 := pw_cell_below hb f6
  replace f7 := pw_cell_below hb f7
  replace p0 := pw_cell_below hb p0
  replace p1 := pw_cell_below hb p1
  replace p2 := pw_cell_below hb p2
  replace p3 := pw_cell_below hb p3
  replace y0 := pw_cell_below hb y0
  replace y1 := pw_cell_below hb y1
  replace y2 := pw_cell_below hb y2
  replace y3 := pw_cell_below hb y3
  replace y4 := pw_cell_below hb y4
  replace y5 := pw_cell_below hb y5
  replace y6 := pw_cell_below hb y6
  replace y7 := pw_cell_below hb y7
  replace z0 := pw_cell_below hb z0
  replace z1 := pw_cell_below hb z1
  replace z2 := pw_cell_below hb z2
  replace z3 := pw_cell_below hb z3
  replace RS0 := Aside0.mk (Kd.R_below RS0.out hb)
  replace RM0 := Aside0.mk (Kd.R_below RM0.out hb)
  replace RF0 := Aside0.mk (Kd.R_below RF0.out hb)
  replace HB := Aside0.mk (below_into (w := w) hb HB.out)
  replace B3 := Aside0.mk (below_into (w := w5) hb B3.out)
  have s_w18 : w17.heap.size < (w17.alloc (.cells #[.int .i64 re0, .int .i64 re1, .string re2, .slice F0 r0.length eF0] 34)).heap.size := by simp
  clear hb
  generalize w17.alloc (.cells #[.int .i64 re0, .int .i64 re1, .string re2, .slice F0 r0.length eF0] 34) = w18 at *
  have z_u0 := World.block_lt_of_cell? _ _ u0
  refine (laws_eqEntry.calls re0 re1 re2 F0 eF0 r0 re0 re1 re2 S0 eS0 r0 _ ((Kd.R_reads' RF0.out).2.2) ((Kd.R_reads' RS0.out).2.2)).mono ?_
  rintro x w19 ⟨rfl, hb⟩
  replace f0 := pw_cell_below hb f0
  replace f1 := pw_cell_below hb f1
  replace f2 := pw_cell_below hb f2
  replace f3 := pw_cell_below hb f3
  replace f4 := pw_cell_below hb f4
  replace f5 := pw_cell_below hb f5
  replace f6 := pw_cell_below hb f6
  replace f7 := pw_cell_below hb f7
  replace p0 := pw_cell_below hb p0
  replace p1 := pw_cell_below hb p1
  replace p2 := pw_cell_below hb p2
  replace p3 := pw_cell_below hb p3
  replace y0 := pw_cell_below hb y0
  replace y1 := pw_cell_below hb y1
  replace y2 := pw_cell_below hb y2
  replace y3 := pw_cell_below hb y3
  replace y4 := pw_cell_below hb y4
  replace y5 := pw_cell_below hb y5
  replace y6 := pw_cell_below hb y6
  replace y7 := pw_cell_below hb y7
  replace z0 := pw_cell_below hb z0
  replace z1 := pw_cell_below hb z1
  replace z2 := pw_cell_below hb z2
  replace z3 := pw_cell_below hb z3
  replace u0 := pw_cell_below hb u0
  replace u1 := pw_cell_below hb u1
  replace u2 := pw_cell_below hb u2
  replace u3 := pw_cell_below hb u3
  replace RS0 := Aside0.mk (Kd.R_below RS0.out hb)
  replace RM0 := Aside0.mk (Kd.R_below RM0.out hb)
  replace RF0 := Aside0.mk (Kd.R_below RF0.out hb)
  replace HB := Aside0.mk (below_into (w := w) hb HB.out)
  replace B3 := Aside0.mk (below_into (w := w5) hb B3.out)
  have s_w19 := hb.size
  clear hb
  rw [← same_true rfl]
  go_wp2_with fail
  refine (HLD.out _ (by have hC := (Kd.R_reads' RM0.out).2.2; rw [NM.out] at hC; exact hC)).mono ?_
  rintro x w20 ⟨rfl, hb⟩
  replace f0 := pw_cell_below hb f0
  replace f1 := pw_cell_below hb f1
  replace f2 := pw_cell_below hb f2
  replace f3 := pw_cell_below hb f3
  replace f4 := pw_cell_below hb f4
  replace f5 := pw_cell_below hb f5
  replace f6 := pw_cell_below hb f6
  replace f7 := pw_cell_below hb f7
  replace p0 := pw_cell_below hb p0
  replace p1 := pw_cell_below hb p1
  replace p2 := pw_cell_below hb p2
  replace p3 := pw_cell_below hb p3
  replace y0 := pw_cell_below hb y0
  replace y1 := pw_cell_below hb y1
  replace y2 := pw_cell_below hb y2
  replace y3 := pw_cell_below hb y3
  replace y4 := pw_cell_below hb y4
  replace y5 := pw_cell_below hb y5
  replace y6 := pw_cell_below hb y6
  replace y7 := pw_cell_below hb y7
  replace z0 := pw_cell_below hb z0
  replace z1 := pw_cell_below hb z1
  replace z2 := pw_cell_below hb z2
  replace z3 := pw_cell_below hb z3
  replace u0 := pw_cell_below hb u0
  replace u1 := pw_cell_below hb u1
  replace u2 := pw_cell_below hb u2
  replace u3 := pw_cell_below hb u3
  replace RS0 := Aside0.mk (Kd.R_below RS0.out hb)
  replace RM0 := Aside0.mk (Kd.R_below RM0.out hb)
  replace RF0 := Aside0.mk (Kd.R_below RF0.out hb)
  replace HB := Aside0.mk (below_into (w := w) hb HB.out)
  replace B3 := Aside0.mk (below_into (w := w5) hb B3.out)
  have s_w20 := hb.size
  clear hb
  go_wp2_with fail
  go_ret
  exact ⟨rfl, HB.out⟩
end Go.Proofs.Ytphmnkcfjgallaa.Q
