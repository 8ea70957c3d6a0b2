/- Parts of the proof: what functions of the program and of the reference answer.
   No condition. -/
import Derived.Test.YtphmnkcfjgallaaZShut1
import Derived.Test.YtphmnkcfjgallaaZShut2
import Derived.Test.YtphmnkcfjgallaaZShut3
import Derived.Test.YtphmnkcfjgallaaZShut7
import Derived.Test.YtphmnkcfjgallaaZShut8
import Derived.Test.YtphmnkcfjgallaaZShut14
import Derived.Test.YtphmnkcfjgallaaZShut13
import Derived.Test.YtphmnkcfjgallaaZShut25
namespace Go.Proofs.Ytphmnkcfjgallaa.Q
open Go.RowKit Go.Proofs.YtphmnkcfjgallaaW.PrintWords Go.Proofs.YtphmnkcfjgallaaW.PrintLast Go.Proofs.YtphmnkcfjgallaaW.PrintMore
set_option linter.unusedVariables false
set_option linter.unusedSimpArgs false
theorem shutR_small {x : Bk} (h : x.small) : (shutR x).1.small := by
  unfold shutR
  split
  · split
    · exact h
    · exact h
  · exact ⟨by simp [Bk.none], ⟨by simp [Bk.none], fun y hy => by simp [Bk.none] at hy⟩, by simp [Bk.none]⟩
theorem impl_Shut.at (A0 : Option Addr) (c0 : Nat) (l0 : List Acc) (d c : Int) (A1 : Option Addr) (c1 : Nat) (l1 : List Ent) (h : Int) (A2 : Option Addr) (c2 : Nat) (l2 : List Per) (a b : Int) (w : World) (r0 : List Acc) (rd rc : Int) (r1 : List Ent) (rh : Int) (r2 : List Per) (ra rb rk : Int) (hr0 : Kd.C k131 w A0 l0.length l0) (hc0 : l0.length ≤ c0) (hs : ∀ x ∈ l0, x.f0.size ≤ maxLen) (hr1 : Kd.C k34 w A1 l1.length l1) (hc1 : l1.length ≤ c1) (hm : ∀ e ∈ l1, e.f2.size ≤ maxLen) (hr2 : Kd.C k133 w A2 l2.length l2) (hc2 : l2.length ≤ c2) (hsm : smallB l0 l1 l2) (hres : shutR ⟨l0, d, c, l1, h, l2, a, b⟩ = (⟨r0, rd, rc, r1, rh, r2, ra, rb⟩, rk)) :
    Calls Try.prog 66 #[.agg #[.slice A0 l0.length c0, .int .i64 d, .int .i64 c, .slice A1 l1.length c1, .int .i64 h, .slice A2 l2.length c2, .int .i64 a, .int .i64 b]] w fun e w' => ∃ v0 v3 v5 : Value, e = .returned (.tuple #[.agg #[v0, .int .i64 rd, .int .i64 rc, v3, .int .i64 rh, v5, .int .i64 ra, .int .i64 rb], .int .i64 rk]) ∧ Kd.R k131 131 w' w.heap.size (fun _ => True) v0 r0 ∧ Kd.S k34 34 w' w.heap.size (fun _ => True) v3 r1 ∧ Kd.R k133 133 w' w.heap.size (fun _ => True) v5 r2 ∧ Below w.heap.size w w' := by
  refine (impl_Shut.to A0 c0 l0 d c A1 c1 l1 h A2 c2 l2 a b w hr0 hc0 hs hr1 hc1 hm hr2 hc2 hsm).mono ?_
  rintro e w' ⟨v0, v3, v5, he, ⟨h1, h2, h3⟩, hb⟩
  rw [hres] at he h1 h2 h3
  exact ⟨v0, v3, v5, he, h1, h2, h3, hb⟩
theorem spec_Shut.at (A0 : Option Addr) (c0 : Nat) (l0 : List Acc) (d c : Int) (A1 : Option Addr) (c1 : Nat) (l1 : List Ent) (h : Int) (A2 : Option Addr) (c2 : Nat) (l2 : List Per) (a b : Int) (w : World) (r0 : List Acc) (rd rc : Int) (r1 : List Ent) (rh : Int) (r2 : List Per) (ra rb rk : Int) (hr0 : Kd.C k131 w A0 l0.length l0) (hc0 : l0.length ≤ c0) (hs : ∀ x ∈ l0, x.f0.size ≤ maxLen) (hr1 : Kd.C k34 w A1 l1.length l1) (hc1 : l1.length ≤ c1) (hm : ∀ e ∈ l1, e.f2.size ≤ maxLen) (hr2 : Kd.C k133 w A2 l2.length l2) (hc2 : l2.length ≤ c2) (hsm : smallB l0 l1 l2) (hres : shutR ⟨l0, d, c, l1, h, l2, a, b⟩ = (⟨r0, rd, rc, r1, rh, r2, ra, rb⟩, rk)) :
    Calls Try.prog 65 #[.agg #[.slice A0 l0.length c0, .int .i64 d, .int .i64 c, .slice A1 l1.length c1, .int .i64 h, .slice A2 l2.length c2, .int .i64 a, .int .i64 b]] w fun e w' => ∃ v0 v3 v5 : Value, e = .returned (.tuple #[.agg #[v0, .int .i64 rd, .int .i64 rc, v3, .int .i64 rh, v5, .int .i64 ra, .int .i64 rb], .int .i64 rk]) ∧ Kd.R k131 131 w' w.heap.size (fun _ => True) v0 r0 ∧ Kd.S k34 34 w' w.heap.size (fun _ => True) v3 r1 ∧ Kd.R k133 133 w' w.heap.size (fun _ => True) v5 r2 ∧ Below w.heap.size w w' := by
  refine (spec_Shut.to A0 c0 l0 d c A1 c1 l1 h A2 c2 l2 a b w hr0 hc0 hs hr1 hc1 hm hr2 hc2 hsm).mono ?_
  rintro e w' ⟨v0, v3, v5, he, ⟨h1, h2, h3⟩, hb⟩
  rw [hres] at he h1 h2 h3
  exact ⟨v0, v3, v5, he, h1, h2, h3, hb⟩
set_option maxHeartbeats 32000000 in
set_option maxRecDepth 100000 in
theorem laws_FnExactShut.to (A0 : Option Addr) (c0 : Nat) (l0 : List S176) (d c : Int) (A1 : Option Addr) (c1 : Nat) (l1 : List S93) (h : Int) (A2 : Option Addr) (c2 : Nat) (l2 : List S138) (a b : Int) (w : World)
    (hr0 : Kd.C k176 w A0 l0.length l0) (hc0 : l0.length ≤ c0) (hr1 : Kd.C k93 w A1 l1.length l1) (hc1 : l1.length ≤ c1) (hr2 : Kd.C k138 w A2 l2.length l2) (hc2 : l2.length ≤ c2)
    (hw : wf65 (⟨(⟨l0, d, c⟩ : S59), (⟨l1, h⟩ : S62), l2, a, b⟩ : S65)) :
    Calls Try.prog 13 #[.agg #[.slice A0 l0.length c0, .int .i64 d, .int .i64 c, .slice A1 l1.length c1, .int .i64 h, .slice A2 l2.length c2, .int .i64 a, .int .i64 b]] w fun e w' => e = .returned (.bool true) ∧ Below w.heap.size w w' := by
  have H0 := Aside0.mk hr0
  have H1 := Aside0.mk hr1
  have H2 := Aside0.mk hr2
  have C0 := Aside0.mk hc0
  have C1 := Aside0.mk hc1
  have C2 := Aside0.mk hc2
  have HW := Aside0.mk hw
  have HT0 := Aside0.mk (text_cvAccount hw.1.1.2)
  have HT1 := Aside0.mk (text_cvEntry hw.2.1.1.2)
  have HB := Aside0.mk (below_alloc (Below.refl w.heap.size w) (.cells #[.slice A0 l0.length c0, .int .i64 d, .int .i64 c, .slice A1 l1.length c1, .int .i64 h, .slice A2 l2.length c2, .int .i64 a, .int .i64 b] 65))
  clear hr0 hr1 hr2 hw hc0 hc1 hc2
  go_enter Try.func13, Try.ntmps13
  go_wp2_with fail
  refine (laws_szBooks.calls A0 c0 l0 d c A1 c1 l1 h A2 c2 l2 a b 1048576 _ (Kd.C_below H0.out HB.out) (Kd.C_below H1.out HB.out) (Kd.C_below H2.out HB.out) (by omega) (by omega) HW.out).mono ?_
  rintro x w2 ⟨r, rfl, q1, q2, q3, hb⟩
  have f0 : w2.cell? ⟨w.heap.size, 0, none⟩ = some (.slice A0 l0.length c0) := pw_cell_below hb (by go_simp)
  have f1 : w2.cell? ⟨w.heap.size, 1, none⟩ = some (.int .i64 d) := pw_cell_below hb (by go_simp)
  have f2 : w2.cell? ⟨w.heap.size, 2, none⟩ = some (.int .i64 c) := pw_cell_below hb (by go_simp)
  have f3 : w2.cell? ⟨w.heap.size, 3, none⟩ = some (.slice A1 l1.length c1) := pw_cell_below hb (by go_simp)
  have f4 : w2.cell? ⟨w.heap.size, 4, none⟩ = some (.int .i64 h) := pw_cell_below hb (by go_simp)
  have f5 : w2.cell? ⟨w.heap.size, 5, none⟩ = some (.slice A2 l2.length c2) := pw_cell_below hb (by go_simp)
  have f6 : w2.cell? ⟨w.heap.size, 6, none⟩ = some (.int .i64 a) := pw_cell_below hb (by go_simp)
  have f7 : w2.cell? ⟨w.heap.size, 7, none⟩ = some (.int .i64 b) := pw_cell_below hb (by go_simp)
  replace HB := Aside0.mk (below_into (w := w) hb HB.out)
  have HS := Aside0.mk q3
  have z_f0 := World.block_lt_of_cell? _ _ f0
  clear hb q3
  by_cases hr : r < 0
  case pos =>
    go_wp2_with fail
    go_ret
    exact ⟨rfl, HB.out⟩
  have SM := Aside0.mk (HS.out (by omega))
  have TB := Aside0.mk (laws_toBooks_is l0 d c l1 h l2 a b kBig SM.out kBig_le)
  have ML := Aside0.mk (show smallB (l0.map cvAccount) (l1.map cvEntry) (l2.map cvPeriod) from ⟨by rw [List.length_map]; exact SM.out.1, ⟨by rw [List.length_map]; exact SM.out.2.1.1, fun x hx => by
    obtain ⟨y, hy, rfl⟩ := List.mem_map.1 hx
    show (y.f3.map cvLine).length ≤ 1048576
    rw [List.length_map]
    exact SM.out.2.1.2 y hy⟩, by rw [List.length_map]; exact SM.out.2.2⟩)
  clear HS SM
  generalize l0.map cvAccount = m0 at *
  generalize l1.map cvEntry = m1 at *
  generalize l2.map cvPeriod = m2 at *
  obtain ⟨⟨⟨r0, rd, rc, r1, rh, r2, ra, rb⟩, rk⟩, hres⟩ : ∃ t, t = shutR ⟨m0, d, c, m1, h, m2, a, b⟩ := ⟨_, rfl⟩
  have RES := Aside0.mk hres.symm
  have MR := Aside0.mk (show smallB r0 r1 r2 from by have := shutR_small (x := ⟨m0, d, c, m1, h, m2, a, b⟩) ML.out; rw [← hres] at this; exact this)
  clear hres
  go_wp2_with fail
  refine (laws_toBooks.calls kBig A0 c0 l0 d c A1 c1 l1 h A2 c2 l2 a b m0 d c m1 h m2 a b _ (Kd.C_below H0.out HB.out) C0.out (Kd.C_below H1.out HB.out) C1.out (Kd.C_below H2.out HB.out) C2.out TB.out).mono ?_
  rintro x w3 ⟨v0, v3, v5, rfl, hR0, hR3, hR5, hb⟩
  obtain ⟨B0, eB0, rfl, n0, g0⟩ := Kd.R_reads hR0
  have NB0 := Aside0.mk n0
  have KB0 := Aside0.mk g0
  obtain ⟨B1, eB1, rfl, n1, g1⟩ := Kd.S_reads hR3
  have NB1 := Aside0.mk n1
  have KB1 := Aside0.mk g1
  obtain ⟨B2, eB2, rfl, n2, g2⟩ := Kd.R_reads hR5
  have NB2 := Aside0.mk n2
  have KB2 := Aside0.mk g2
  replace f0 := pw_cell_below hb f0
  replace f1 := pw_cell_below hb f1
  replace f2 := pw_cell_below hb f2
  replace f3 := pw_cell_below hb f3
  replace f4 := pw_cell_below hb f4
  replace f5 := pw_cell_below hb f5
  replace f6 := pw_cell_below hb f6
  replace f7 := pw_cell_below hb f7
  replace HB := Aside0.mk (below_into (w := w) hb HB.out)
  have s_w3 := hb.size
  clear hb hR0 hR3 hR5 n0 n1 n2 g0 g1 g2
  go_wp2_with fail
  refine (spec_Shut.at B0 eB0 m0 d c B1 eB1 m1 h B2 eB2 m2 a b _ r0 rd rc r1 rh r2 ra rb rk (KB0.out) NB0.out HT0.out (KB1.out) NB1.out HT1.out (KB2.out) NB2.out ML.out RES.out).mono ?_
  rintro x w4 ⟨v0, v3, v5, rfl, hR0, hR3, hR5, hb⟩
  obtain ⟨S0, eS0, rfl, n0, _⟩ := Kd.R_reads hR0
  have NS0 := Aside0.mk n0
  have RS0 := Aside0.mk (R_iv hR0)
  obtain ⟨S1, eS1, rfl, n1, _⟩ := Kd.S_reads hR3
  have NS1 := Aside0.mk n1
  have RS1 := Aside0.mk (S_iv hR3)
  obtain ⟨S2, eS2, rfl, n2, _⟩ := Kd.R_reads hR5
  have NS2 := Aside0.mk n2
  have RS2 := Aside0.mk (R_iv hR5)
  replace f0 := pw_cell_below hb f0
  replace f1 := pw_cell_below hb f1
  replace f2 := pw_cell_below hb f2
  replace f3 := pw_cell_below hb f3
  replace f4 := pw_cell_below hb f4
  replace f5 := pw_cell_below hb f5
  replace f6 := pw_cell_below hb f6
  replace f7 := pw_cell_below hb f7
  replace HB := Aside0.mk (below_into (w := w) hb HB.out)
  have s_w4 := hb.size
  clear hb hR0 hR3 hR5 n0 n1 n2
  clear KB0 KB1 KB2 NB0 NB1 NB2
  have zz_f0 := World.block_lt_of_cell? _ _ f0
  go_wp2_with fail
  have p0 : (w4.alloc (.cells #[.slice S0 r0.length eS0, .int .i64 rd, .int .i64 rc, .slice S1 r1.length eS1, .int .i64 rh, .slice S2 r2.length eS2, .int .i64 ra, .int .i64 rb] 50)).cell? ⟨w4.heap.size, 0, none⟩ = some (.slice S0 r0.length eS0) := by go_simp
  have p1 : (w4.alloc (.cells #[.slice S0 r0.length eS0, .int .i64 rd, .int .i64 rc, .slice S1 r1.length eS1, .int .i64 rh, .slice S2 r2.length eS2, .int .i64 ra, .int .i64 rb] 50)).cell? ⟨w4.heap.size, 1, none⟩ = some (.int .i64 rd) := by go_simp
  have p2 : (w4.alloc (.cells #[.slice S0 r0.length eS0, .int .i64 rd, .int .i64 rc, .slice S1 r1.length eS1, .int .i64 rh, .slice S2 r2.length eS2, .int .i64 ra, .int .i64 rb] 50)).cell? ⟨w4.heap.size, 2, none⟩ = some (.int .i64 rc) := by go_simp
  have p3 : (w4.alloc (.cells #[.slice S0 r0.length eS0, .int .i64 rd, .int .i64 rc, .slice S1 r1.length eS1, .int .i64 rh, .slice S2 r2.length eS2, .int .i64 ra, .int .i64 rb] 50)).cell? ⟨w4.heap.size, 3, none⟩ = some (.slice S1 r1.length eS1) := by go_simp
  have p4 : (w4.alloc (.cells #[.slice S0 r0.length eS0, .int .i64 rd, .int .i64 rc, .slice S1 r1.length eS1, .int .i64 rh, .slice S2 r2.length eS2, .int .i64 ra, .int .i64 rb] 50)).cell? ⟨w4.heap.size, 4, none⟩ = some (.int .i64 rh) := by go_simp
  have p5 : (w4.alloc (.cells #[.slice S0 r0.length eS0, .int .i64 rd, .int .i64 rc, .slice S1 r1.length eS1, .int .i64 rh, .slice S2 r2.length eS2, .int .i64 ra, .int .i64 rb] 50)).cell? ⟨w4.heap.size, 5, none⟩ = some (.slice S2 r2.length eS2) := by go_simp
  have p6 : (w4.alloc (.cells #[.slice S0 r0.length eS0, .int .i64 rd, .int .i64 rc, .slice S1 r1.length eS1, .int .i64 rh, .slice S2 r2.length eS2, .int .i64 ra, .int .i64 rb] 50)).cell? ⟨w4.heap.size, 6, none⟩ = some (.int .i64 ra) := by go_simp
  have p7 : (w4.alloc (.cells #[.slice S0 r0.length eS0, .int .i64 rd, .int .i64 rc, .slice S1 r1.length eS1, .int .i64 rh, .slice S2 r2.length eS2, .int .i64 ra, .int .i64 rb] 50)).cell? ⟨w4.heap.size, 7, none⟩ = some (.int .i64 rb) := by go_simp
  have hb := below_alloc (Below.refl w4.heap.size w4) (.cells #[.slice S0 r0.length eS0, .int .i64 rd, .int .i64 rc, .slice S1 r1.length eS1, .int .i64 rh, .slice S2 r2.length eS2, .int .i64 ra, .int .i64 rb] 50)
  replace f0 := pw_cell_below hb f0
  replace f1 := pw_cell_below hb f1
  replace f2 := pw_cell_below hb f2
  replace f3 := pw_cell_below hb f3
  replace f4 := pw_cell_below hb f4
  replace f5 := pw_cell_below hb f5
  replace f6 := pw_cell_below hb f6
  replace f7 := pw_cell_below hb f7
  replace RS0 := Aside0.mk (Kd.R_below RS0.out hb)
  replace RS1 := Aside0.mk (Kd.S_below RS1.out hb)
  replace RS2 := Aside0.mk (Kd.R_below RS2.out hb)
  replace HB := Aside0.mk (below_into (w := w) hb HB.out)
  have s_w5 : w4.heap.size < (w4.alloc (.cells #[.slice S0 r0.length eS0, .int .i64 rd, .int .i64 rc, .slice S1 r1.length eS1, .int .i64 rh, .slice S2 r2.length eS2, .int .i64 ra, .int .i64 rb] 50)).heap.size := by simp
  clear hb
  generalize w4.alloc (.cells #[.slice S0 r0.length eS0, .int .i64 rd, .int .i64 rc, .slice S1 r1.length eS1, .int .i64 rh, .slice S2 r2.length eS2, .int .i64 ra, .int .i64 rb] 50) = w5 at *
  have z_p0 := World.block_lt_of_cell? _ _ p0
  have HBW := HB
  have B3 := Aside0.mk (Below.refl w5.heap.size w5)
  refine (laws_toBooks.calls kBig A0 c0 l0 d c A1 c1 l1 h A2 c2 l2 a b m0 d c m1 h m2 a b _ (Kd.C_below H0.out HB.out) C0.out (Kd.C_below H1.out HB.out) C1.out (Kd.C_below H2.out HB.out) C2.out TB.out).mono ?_
  rintro x w6 ⟨v0, v3, v5, rfl, hR0, hR3, hR5, hb⟩
  obtain ⟨X0, eX0, rfl, n0, g0⟩ := Kd.R_reads hR0
  have NX0 := Aside0.mk n0
  have RX0 := Aside0.mk (R_iv hR0)
  obtain ⟨X1, eX1, rfl, n1, g1⟩ := Kd.S_reads hR3
  have NX1 := Aside0.mk n1
  have RX1 := Aside0.mk (S_iv hR3)
  obtain ⟨X2, eX2, rfl, n2, g2⟩ := Kd.R_reads hR5
  have NX2 := Aside0.mk n2
  have RX2 := Aside0.mk (R_iv hR5)
  replace f0 := pw_cell_below hb f0
  replace f1 := pw_cell_below hb f1
  replace f2 := pw_cell_below hb f2
  replace f3 := pw_cell_below hb f3
  replace f4 := pw_cell_below hb f4
  replace f5 := pw_cell_below hb f5
  replace f6 := pw_cell_below hb f6
  replace f7 := pw_cell_below hb f7
  replace p0 := pw_cell_below hb p0
  replace p1 := pw_cell_below hb p1
  replace p2 := pw_cell_below hb p2
  replace p3 := pw_cell_below hb p3
  replace p4 := pw_cell_below hb p4
  replace p5 := pw_cell_below hb p5
  replace p6 := pw_cell_below hb p6
  replace p7 := pw_cell_below hb p7
  replace RS0 := Aside0.mk (Kd.R_below RS0.out hb)
  replace RS1 := Aside0.mk (Kd.S_below RS1.out hb)
  replace RS2 := Aside0.mk (Kd.R_below RS2.out hb)
  replace HB := Aside0.mk (below_into (w := w) hb HB.out)
  replace B3 := Aside0.mk (below_into (w := w5) hb B3.out)
  have s_w6 := hb.size
  clear hb hR0 hR3 hR5 n0 n1 n2 g0 g1 g2
  have zz_f0 := World.block_lt_of_cell? _ _ f0
  have zz_p0 := World.block_lt_of_cell? _ _ p0
  go_wp2_with fail
  have y0 : (w6.alloc (.cells #[.slice X0 m0.length eX0, .int .i64 d, .int .i64 c, .slice X1 m1.length eX1, .int .i64 h, .slice X2 m2.length eX2, .int .i64 a, .int .i64 b] 50)).cell? ⟨w6.heap.size, 0, none⟩ = some (.slice X0 m0.length eX0) := by go_simp
  have y1 : (w6.alloc (.cells #[.slice X0 m0.length eX0, .int .i64 d, .int .i64 c, .slice X1 m1.length eX1, .int .i64 h, .slice X2 m2.length eX2, .int .i64 a, .int .i64 b] 50)).cell? ⟨w6.heap.size, 1, none⟩ = some (.int .i64 d) := by go_simp
  have y2 : (w6.alloc (.cells #[.slice X0 m0.length eX0, .int .i64 d, .int .i64 c, .slice X1 m1.length eX1, .int .i64 h, .slice X2 m2.length eX2, .int .i64 a, .int .i64 b] 50)).cell? ⟨w6.heap.size, 2, none⟩ = some (.int .i64 c) := by go_simp
  have y3 : (w6.alloc (.cells #[.slice X0 m0.length eX0, .int .i64 d, .int .i64 c, .slice X1 m1.length eX1, .int .i64 h, .slice X2 m2.length eX2, .int .i64 a, .int .i64 b] 50)).cell? ⟨w6.heap.size, 3, none⟩ = some (.slice X1 m1.length eX1) := by go_simp
  have y4 : (w6.alloc (.cells #[.slice X0 m0.length eX0, .int .i64 d, .int .i64 c, .slice X1 m1.length eX1, .int .i64 h, .slice X2 m2.length eX2, .int .i64 a, .int .i64 b] 50)).cell? ⟨w6.heap.size, 4, none⟩ = some (.int .i64 h) := by go_simp
  have y5 : (w6.alloc (.cells #[.slice X0 m0.length eX0, .int .i64 d, .int .i64 c, .slice X1 m1.length eX1, .int .i64 h, .slice X2 m2.length eX2, .int .i64 a, .int .i64 b] 50)).cell? ⟨w6.heap.size, 5, none⟩ = some (.slice X2 m2.length eX2) := by go_simp
  have y6 : (w6.alloc (.cells #[.slice X0 m0.length eX0, .int .i64 d, .int .i64 c, .slice X1 m1.length eX1, .int .i64 h, .slice X2 m2.length eX2, .int .i64 a, .int .i64 b] 50)).cell? ⟨w6.heap.size, 6, none⟩ = some (.int .i64 a) := by go_simp
  have y7 : (w6.alloc (.cells #[.slice X0 m0.length eX0, .int .i64 d, .int .i64 c, .slice X1 m1.length eX1, .int .i64 h, .slice X2 m2.length eX2, .int .i64 a, .int .i64 b] 50)).cell? ⟨w6.heap.size, 7, none⟩ = some (.int .i64 b) := by go_simp
  have hb := below_alloc (Below.refl w6.heap.size w6) (.cells #[.slice X0 m0.length eX0, .int .i64 d, .int .i64 c, .slice X1 m1.length eX1, .int .i64 h, .slice X2 m2.length eX2, .int .i64 a, .int .i64 b] 50)
  replace f0 := pw_cell_below hb f0
  replace f1 := pw_cell_below hb f1
  replace f2 := pw_cell_below hb f2
  replace f3 := pw_cell_below hb f3
  replace f4 := pw_cell_below hb f4
  replace f5 := pw_cell_below hb f5
  replace f6 := pw_cell_below hb f6
  replace f7 := pw_cell_below hb f7
  replace p0 := pw_cell_below hb p0
  replace p1 := pw_cell_below hb p1
  replace p2 := pw_cell_below hb p2
  replace p3 := pw_cell_below hb p3
  replace p4 := pw_cell_below hb p4
  replace p5 := pw_cell_below hb p5
  replace p6 := pw_cell_below hb p6
  replace p7 := pw_cell_below hb p7
  replace RS0 := Aside0.mk (Kd.R_below RS0.out hb)
  replace RS1 := Aside0.mk (Kd.S_below RS1.out hb)
  replace RS2 := Aside0.mk (Kd.R_below RS2.out hb)
  replace RX0 := Aside0.mk (Kd.R_below RX0.out hb)
  replace RX1 := Aside0.mk (Kd.S_below RX1.out hb)
  replace RX2 := Aside0.mk (Kd.R_below RX2.out hb)
  replace HB := Aside0.mk (below_into (w := w) hb HB.out)
  replace B3 := Aside0.mk (below_into (w := w5) hb B3.out)
  have s_w7 : w6.heap.size < (w6.alloc (.cells #[.slice X0 m0.length eX0, .int .i64 d, .int .i64 c, .slice X1 m1.length eX1, .int .i64 h, .slice X2 m2.length eX2, .int .i64 a, .int .i64 b] 50)).heap.size := by simp
  clear hb
  generalize w6.alloc (.cells #[.slice X0 m0.length eX0, .int .i64 d, .int .i64 c, .slice X1 m1.length eX1, .int .i64 h, .slice X2 m2.length eX2, .int .i64 a, .int .i64 b] 50) = w7 at *
  have z_y0 := World.block_lt_of_cell? _ _ y0
  refine (impl_Shut.at X0 eX0 m0 d c X1 eX1 m1 h X2 eX2 m2 a b _ r0 rd rc r1 rh r2 ra rb rk ((Kd.R_reads' RX0.out).2.2) NX0.out HT0.out ((Kd.S_reads' RX1.out).2.2) NX1.out HT1.out ((Kd.R_reads' RX2.out).2.2) NX2.out ML.out RES.out).mono ?_
  rintro x w8 ⟨v0, v3, v5, rfl, hR0, hR3, hR5, hb⟩
  obtain ⟨G0, eG0, rfl, n0, _⟩ := Kd.R_reads hR0
  have NG0 := Aside0.mk n0
  have RG0 := Aside0.mk (Kd.R_lower (R_iv hR0) (show w5.heap.size ≤ _ by omega))
  obtain ⟨G1, eG1, rfl, n1, _⟩ := Kd.S_reads hR3
  have NG1 := Aside0.mk n1
  have RG1 := Aside0.mk (Kd.S_lower (S_iv hR3) (show w5.heap.size ≤ _ by omega))
  obtain ⟨G2, eG2, rfl, n2, _⟩ := Kd.R_reads hR5
  have NG2 := Aside0.mk n2
  have RG2 := Aside0.mk (Kd.R_lower (R_iv hR5) (show w5.heap.size ≤ _ by omega))
  replace f0 := pw_cell_below hb f0
  replace f1 := pw_cell_below hb f1
  replace f2 := pw_cell_below hb f2
  replace f3 := pw_cell_below hb f3
  replace f4 := pw_cell_below hb f4
  replace f5 := pw_cell_below hb f5
  replace f6 := pw_cell_below hb f6
  replace f7 := pw_cell_below hb f7
  replace p0 := pw_cell_below hb p0
  replace p1 := pw_cell_below hb p1
  replace p2 := pw_cell_below hb p2
  replace p3 := pw_cell_below hb p3
  replace p4 := pw_cell_below hb p4
  replace p5 := pw_cell_below hb p5
  replace p6 := pw_cell_below hb p6
  replace p7 := pw_cell_below hb p7
  replace y0 := pw_cell_below hb y0
  replace y1 := pw_cell_below hb y1
  replace y2 := pw_cell_below hb y2
  replace y3 := pw_cell_below hb y3
  replace y4 := pw_cell_below hb y4
  replace y5 := pw_cell_below hb y5
  replace y6 := pw_cell_below hb y6
  replace y7 := pw_cell_below hb y7
  replace RS0 := Aside0.mk (Kd.R_below RS0.out hb)
  replace RS1 := Aside0.mk (Kd.S_below RS1.out hb)
  replace RS2 := Aside0.mk (Kd.R_below RS2.out hb)
  replace RX0 := Aside0.mk (Kd.R_below RX0.out hb)
  replace RX1 := Aside0.mk (Kd.S_below RX1.out hb)
  replace RX2 := Aside0.mk (Kd.R_below RX2.out hb)
  replace HB := Aside0.mk (below_into (w := w) hb HB.out)
  replace B3 := Aside0.mk (below_into (w := w5) hb B3.out)
  have s_w8 := hb.size
  clear hb hR0 hR3 hR5 n0 n1 n2
  have zz_f0 := World.block_lt_of_cell? _ _ f0
  have zz_p0 := World.block_lt_of_cell? _ _ p0
  have zz_y0 := World.block_lt_of_cell? _ _ y0
  go_wp2_with fail
  have z0 : (w8.alloc (.cells #[.slice G0 r0.length eG0, .int .i64 rd, .int .i64 rc, .slice G1 r1.length eG1, .int .i64 rh, .slice G2 r2.length eG2, .int .i64 ra, .int .i64 rb] 50)).cell? ⟨w8.heap.size, 0, none⟩ = some (.slice G0 r0.length eG0) := by go_simp
  have z1 : (w8.alloc (.cells #[.slice G0 r0.length eG0, .int .i64 rd, .int .i64 rc, .slice G1 r1.length eG1, .int .i64 rh, .slice G2 r2.length eG2, .int .i64 ra, .int .i64 rb] 50)).cell? ⟨w8.heap.size, 1, none⟩ = some (.int .i64 rd) := by go_simp
  have z2 : (w8.alloc (.cells #[.slice G0 r0.length eG0, .int .i64 rd, .int .i64 rc, .slice G1 r1.length eG1, .int .i64 rh, .slice G2 r2.length eG2, .int .i64 ra, .int .i64 rb] 50)).cell? ⟨w8.heap.size, 2, none⟩ = some (.int .i64 rc) := by go_simp
  have z3 : (w8.alloc (.cells #[.slice G0 r0.length eG0, .int .i64 rd, .int .i64 rc, .slice G1 r1.length eG1, .int .i64 rh, .slice G2 r2.length eG2, .int .i64 ra, .int .i64 rb] 50)).cell? ⟨w8.heap.size, 3, none⟩ = some (.slice G1 r1.length eG1) := by go_simp
  have z4 : (w8.alloc (.cells #[.slice G0 r0.length eG0, .int .i64 rd, .int .i64 rc, .slice G1 r1.length eG1, .int .i64 rh, .slice G2 r2.length eG2, .int .i64 ra, .int .i64 rb] 50)).cell? ⟨w8.heap.size, 4, none⟩ = some (.int .i64 rh) := by go_simp
  have z5 : (w8.alloc (.cells #[.slice G0 r0.length eG0, .int .i64 rd, .int .i64 rc, .slice G1 r1.length eG1, .int .i64 rh, .slice G2 r2.length eG2, .int .i64 ra, .int .i64 rb] 50)).cell? ⟨w8.heap.size, 5, none⟩ = some (.slice G2 r2.length eG2) := by go_simp
  have z6 : (w8.alloc (.cells #[.slice G0 r0.length eG0, .int .i64 rd, .int .i64 rc, .slice G1 r1.length eG1, .int .i64 rh, .slice G2 r2.length eG2, .int .i64 ra, .int .i64 rb] 50)).cell? ⟨w8.heap.size, 6, none⟩ = some (.int .i64 ra) := by go_simp
  have z7 : (w8.alloc (.cells #[.slice G0 r0.length eG0, .int .i64 rd, .int .i64 rc, .slice G1 r1.length eG1, .int .i64 rh, .slice G2 r2.length eG2, .int .i64 ra, .int .i64 rb] 50)).cell? ⟨w8.heap.size, 7, none⟩ = some (.int .i64 rb) := by go_simp
  have hb := below_alloc (Below.refl w8.heap.size w8) (.cells #[.slice G0 r0.length eG0, .int .i64 rd, .int .i64 rc, .slice G1 r1.length eG1, .int .i64 rh, .slice G2 r2.length eG2, .int .i64 ra, .int .i64 rb] 50)
  replace f0 := pw_cell_below hb f0
  replace f1 := pw_cell_below hb f1
  replace f2 := pw_cell_below hb f2
  replace f3 := pw_cell_below hb f3
  replace f4 := pw_cell_below hb f4
  replace f5 := pw_cell_below hb f5
  replace f6 := pw_cell_below hb f6
  replace f7 := pw_cell_below hb f7
  replace p0 := pw_cell_below hb p0
  replace p1 := pw_cell_below hb p1
  replace p2 := pw_cell_below hb p2
  replace p3 := pw_cell_below hb p3
  replace p4 := pw_cell_below hb p4
  replace p5 := pw_cell_below hb p5
  replace p6 := pw_cell_below hb p6
  replace p7 := pw_cell_below hb p7
  replace y0 := pw_cell_below hb y0
  replace y1 := pw_cell_below hb y1
  replace y2 := pw_cell_below hb y2
  replace y3 := pw_cell_below hb y3
  replace y4 := pw_cell_below hb y4
  replace y5 := pw_cell_below hb y5
  replace y6 := pw_cell_below hb y6
  replace y7 := pw_cell_below hb y7
  replace RS0 := Aside0.mk (Kd.R_below RS0.out hb)
  replace RS1 := Aside0.mk (Kd.S_below RS1.out hb)
  replace RS2 := Aside0.mk (Kd.R_below RS2.out hb)
  replace RX0 := Aside0.mk (Kd.R_below RX0.out hb)
  replace RX1 := Aside0.mk (Kd.S_below RX1.out hb)
  replace RX2 := Aside0.mk (Kd.R_below RX2.out hb)
  replace RG0 := Aside0.mk (Kd.R_below RG0.out hb)
  replace RG1 := Aside0.mk (Kd.S_below RG1.out hb)
  replace RG2 := Aside0.mk (Kd.R_below RG2.out hb)
  replace HB := Aside0.mk (below_into (w := w) hb HB.out)
  replace B3 := Aside0.mk (below_into (w := w5) hb B3.out)
  have s_w9 : w8.heap.size < (w8.alloc (.cells #[.slice G0 r0.length eG0, .int .i64 rd, .int .i64 rc, .slice G1 r1.length eG1, .int .i64 rh, .slice G2 r2.length eG2, .int .i64 ra, .int .i64 rb] 50)).heap.size := by simp
  clear hb
  generalize w8.alloc (.cells #[.slice G0 r0.length eG0, .int .i64 rd, .int .i64 rc, .slice G1 r1.length eG1, .int .i64 rh, .slice G2 r2.length eG2, .int .i64 ra, .int .i64 rb] 50) = w9 at *
  have z_z0 := World.block_lt_of_cell? _ _ z0
  refine (laws_eqBooks.calls G0 eG0 r0 rd rc G1 eG1 r1 rh G2 eG2 r2 ra rb S0 eS0 r0 rd rc S1 eS1 r1 rh S2 eS2 r2 ra rb _ ((Kd.R_reads' RG0.out).2.2) ((Kd.S_reads' RG1.out).2.2) ((Kd.R_reads' RG2.out).2.2) ((Kd.R_reads' RS0.out).2.2) ((Kd.S_reads' RS1.out).2.2) ((Kd.R_reads' RS2.out).2.2)).mono ?_
  rintro x w10 ⟨rfl, hb⟩
  replace f0 := pw_cell_below hb f0
  replace f1 := pw_cell_below hb f1
  replace f2 := pw_cell_below hb f2
  replace f3 := pw_cell_below hb f3
  replace f4 := pw_cell_below hb f4
  replace f5 := pw_cell_below hb f5
  replace f6 := pw_cell_below hb f6
  replace f7 := pw_cell_below hb f7
  replace p0 := pw_cell_below hb p0
  replace p1 := pw_cell_below hb p1
  replace p2 := pw_cell_below hb p2
  replace p3 := pw_cell_below hb p3
  replace p4 := pw_cell_below hb p4
  replace p5 := pw_cell_below hb p5
  replace p6 := pw_cell_below hb p6
  replace p7 := pw_cell_below hb p7
  replace y0 := pw_cell_below hb y0
  replace y1 := pw_cell_below hb y1
  replace y2 := pw_cell_below hb y2
  replace y3 := pw_cell_below hb y3
  replace y4 := pw_cell_below hb y4
  replace y5 := pw_cell_below hb y5
  replace y6 := pw_cell_below hb y6
  replace y7 := pw_cell_below hb y7
  replace z0 := pw_cell_below hb z0
  replace z1 := pw_cell_below hb z1
  replace z2 := pw_cell_below hb z2
  replace z3 := pw_cell_below hb z3
  replace z4 := pw_cell_below hb z4
  replace z5 := pw_cell_below hb z5
  replace z6 := pw_cell_below hb z6
  replace z7 := pw_cell_below hb z7
  replace RS0 := Aside0.mk (Kd.R_below RS0.out hb)
  replace RS1 := Aside0.mk (Kd.S_below RS1.out hb)
  replace RS2 := Aside0.mk (Kd.R_below RS2.out hb)
  replace RX0 := Aside0.mk (Kd.R_below RX0.out hb)
  replace RX1 := Aside0.mk (Kd.S_below RX1.out hb)
  replace RX2 := Aside0.mk (Kd.R_below RX2.out hb)
  replace RG0 := Aside0.mk (Kd.R_below RG0.out hb)
  replace RG1 := Aside0.mk (Kd.S_below RG1.out hb)
  replace RG2 := Aside0.mk (Kd.R_below RG2.out hb)
  replace HB := Aside0.mk (below_into (w := w) hb HB.out)
  replace B3 := Aside0.mk (below_into (w := w5) hb B3.out)
  have s_w10 := hb.size
  clear hb
  rw [← same_true rfl]
  go_wp2_with fail
  have HV := Aside0.mk (Below.refl w10.heap.size w10)
  go_region_held3 (fun w' => w'.cell? ⟨w.heap.size, 0, none⟩ = some (.slice A0 l0.length c0) ∧ w'.cell? ⟨w.heap.size, 1, none⟩ = some (.int .i64 d) ∧ w'.cell? ⟨w.heap.size, 2, none⟩ = some (.int .i64 c) ∧ w'.cell? ⟨w.heap.size, 3, none⟩ = some (.slice A1 l1.length c1) ∧ w'.cell? ⟨w.heap.size, 4, none⟩ = some (.int .i64 h) ∧ w'.cell? ⟨w.heap.size, 5, none⟩ = some (.slice A2 l2.length c2) ∧ w'.cell? ⟨w.heap.size, 6, none⟩ = some (.int .i64 a) ∧ w'.cell? ⟨w.heap.size, 7, none⟩ = some (.int .i64 b) ∧ w'.cell? ⟨w4.heap.size, 0, none⟩ = some (.slice S0 r0.length eS0) ∧ w'.cell? ⟨w4.heap.size, 1, none⟩ = some (.int .i64 rd) ∧ w'.cell? ⟨w4.heap.size, 2, none⟩ = some (.int .i64 rc) ∧ w'.cell? ⟨w4.heap.size, 3, none⟩ = some (.slice S1 r1.length eS1) ∧ w'.cell? ⟨w4.heap.size, 4, none⟩ = some (.int .i64 rh) ∧ w'.cell? ⟨w4.heap.size, 5, none⟩ = some (.slice S2 r2.length eS2) ∧ w'.cell? ⟨w4.heap.size, 6, none⟩ = some (.int .i64 ra) ∧ w'.cell? ⟨w4.heap.size, 7, none⟩ = some (.int .i64 rb) ∧ w'.cell? ⟨w6.heap.size, 0, none⟩ = some (.slice X0 m0.length eX0) ∧ w'.cell? ⟨w6.heap.size, 1, none⟩ = some (.int .i64 d) ∧ w'.cell? ⟨w6.heap.size, 2, none⟩ = some (.int .i64 c) ∧ w'.cell? ⟨w6.heap.size, 3, none⟩ = some (.slice X1 m1.length eX1) ∧ w'.cell? ⟨w6.heap.size, 4, none⟩ = some (.int .i64 h) ∧ w'.cell? ⟨w6.heap.size, 5, none⟩ = some (.slice X2 m2.length eX2) ∧ w'.cell? ⟨w6.heap.size, 6, none⟩ = some (.int .i64 a) ∧ w'.cell? ⟨w6.heap.size, 7, none⟩ = some (.int .i64 b) ∧ w'.cell? ⟨w8.heap.size, 0, none⟩ = some (.slice G0 r0.length eG0) ∧ w'.cell? ⟨w8.heap.size, 1, none⟩ = some (.int .i64 rd) ∧ w'.cell? ⟨w8.heap.size, 2, none⟩ = some (.int .i64 rc) ∧ w'.cell? ⟨w8.heap.size, 3, none⟩ = some (.slice G1 r1.length eG1) ∧ w'.cell? ⟨w8.heap.size, 4, none⟩ = some (.int .i64 rh) ∧ w'.cell? ⟨w8.heap.size, 5, none⟩ = some (.slice G2 r2.length eG2) ∧ w'.cell? ⟨w8.heap.size, 6, none⟩ = some (.int .i64 ra) ∧ w'.cell? ⟨w8.heap.size, 7, none⟩ = some (.int .i64 rb)) ((first | go_keep | exact ⟨pw_cell_below hb (by assumption), pw_cell_below hb (by assumption), pw_cell_below hb (by assumption), pw_cell_below hb (by assumption), pw_cell_below hb (by assumption), pw_cell_below hb (by assumption), pw_cell_below hb (by assumption), pw_cell_below hb (by assumption), pw_cell_below hb (by assumption), pw_cell_below hb (by assumption), pw_cell_below hb (by assumption), pw_cell_below hb (by assumption), pw_cell_below hb (by assumption), pw_cell_below hb (by assumption), pw_cell_below hb (by assumption), pw_cell_below hb (by assumption), pw_cell_below hb (by assumption), pw_cell_below hb (by assumption), pw_cell_below hb (by assumption), pw_cell_below hb (by assumption), pw_cell_below hb (by assumption), pw_cell_below hb (by assumption), pw_cell_below hb (by assumption), pw_cell_below hb (by assumption), pw_cell_below hb (by assumption), pw_cell_below hb (by assumption), pw_cell_below hb (by assumption), pw_cell_below hb (by assumption), pw_cell_below hb (by assumption), pw_cell_below hb (by assumption), pw_cell_below hb (by assumption), pw_cell_below hb (by assumption)⟩ | (have hH := ‹_ ∧ _›; obtain ⟨t0, t1, t2, t3, t4, t5, t6, t7, t8, t9, t10, t11, t12, t13, t14, t15, t16, t17, t18, t19, t20, t21, t22, t23, t24, t25, t26, t27, t28, t29, t30, t31⟩ := hH; exact ⟨pw_cell_below hb t0, pw_cell_below hb t1, pw_cell_below hb t2, pw_cell_below hb t3, pw_cell_below hb t4, pw_cell_below hb t5, pw_cell_below hb t6, pw_cell_below hb t7, pw_cell_below hb t8, pw_cell_below hb t9, pw_cell_below hb t10, pw_cell_below hb t11, pw_cell_below hb t12, pw_cell_below hb t13, pw_cell_below hb t14, pw_cell_below hb t15, pw_cell_below hb t16, pw_cell_below hb t17, pw_cell_below hb t18, pw_cell_below hb t19, pw_cell_below hb t20, pw_cell_below hb t21, pw_cell_below hb t22, pw_cell_below hb t23, pw_cell_below hb t24, pw_cell_below hb t25, pw_cell_below hb t26, pw_cell_below hb t27, pw_cell_below hb t28, pw_cell_below hb t29, pw_cell_below hb t30, pw_cell_below hb t31⟩)))
    ((first | (go_at_call 31; refine (laws_toBooks.calls kBig A0 c0 l0 d c A1 c1 l1 h A2 c2 l2 a b m0 d c m1 h m2 a b _ (Kd.C_below H0.out (by repeat (first | exact HB.out | refine below_drew1 ?_ | refine pw_below_drewN ?_ _))) C0.out (Kd.C_below H1.out (by repeat (first | exact HB.out | refine below_drew1 ?_ | refine pw_below_drewN ?_ _))) C1.out (Kd.C_below H2.out (by repeat (first | exact HB.out | refine below_drew1 ?_ | refine pw_below_drewN ?_ _))) C2.out TB.out).mono ?_; rintro x wA ⟨v0, v3, v5, rfl, hR0, hR3, hR5, hb⟩; obtain ⟨P0, q0, rfl, n0, t0⟩ := Kd.R_reads hR0; obtain ⟨P1, q1, rfl, n1, t1⟩ := Kd.S_reads hR3; obtain ⟨P2, q2, rfl, n2, t2⟩ := Kd.R_reads hR5; have K0a := Aside0.mk t0; have K1a := Aside0.mk t1; have K2a := Aside0.mk t2; have HVAa := Aside0.mk (below_into (w := w10) hb (by repeat (first | exact HV.out | refine below_drew1 ?_ | refine pw_below_drewN ?_ _))); clear hR0 hR3 hR5 n0 n1 n2 t0 t1 t2) | (go_at_call 33; refine (laws_eqBooks.calls X0 eX0 m0 d c X1 eX1 m1 h X2 eX2 m2 a b P0 q0 m0 d c P1 q1 m1 h P2 q2 m2 a b _ (Kd.C_below ((Kd.R_reads' RX0.out).2.2) (by repeat (first | exact HV.out | exact HVAa.out | refine below_drew1 ?_ | refine pw_below_drewN ?_ _))) (Kd.C_below ((Kd.S_reads' RX1.out).2.2) (by repeat (first | exact HV.out | exact HVAa.out | refine below_drew1 ?_ | refine pw_below_drewN ?_ _))) (Kd.C_below ((Kd.R_reads' RX2.out).2.2) (by repeat (first | exact HV.out | exact HVAa.out | refine below_drew1 ?_ | refine pw_below_drewN ?_ _))) (Kd.C_below K0a.out (by repeat (first | exact Below.refl _ _ | refine below_drew1 ?_ | refine pw_below_drewN ?_ _))) (Kd.C_below K1a.out (by repeat (first | exact Below.refl _ _ | refine below_drew1 ?_ | refine pw_below_drewN ?_ _))) (Kd.C_below K2a.out (by repeat (first | exact Below.refl _ _ | refine below_drew1 ?_ | refine pw_below_drewN ?_ _)))).mono ?_; rintro x w11 ⟨rfl, hb⟩; have HVE1 := Aside0.mk (below_into (w := w10) hb (by repeat (first | exact HV.out | exact HVAa.out | refine below_drew1 ?_ | refine pw_below_drewN ?_ _))))))
  clear f0 f1 f2 f3 f4 f5 f6 f7 p0 p1 p2 p3 p4 p5 p6 p7 y0 y1 y2 y3 y4 y5 y6 y7 z0 z1 z2 z3 z4 z5 z6 z7
  have hH := ‹_ ∧ _›
  obtain ⟨f0, f1, f2, f3, f4, f5, f6, f7, p0, p1, p2, p3, p4, p5, p6, p7, y0, y1, y2, y3, y4, y5, y6, y7, z0, z1, z2, z3, z4, z5, z6, z7⟩ := hH
  have hb := HVE1.out
  replace RS0 := Aside0.mk (Kd.R_below RS0.out hb)
  replace RS1 := Aside0.mk (Kd.S_below RS1.out hb)
  replace RS2 := Aside0.mk (Kd.R_below RS2.out hb)
  replace RX0 := Aside0.mk (Kd.R_below RX0.out hb)
  replace RX1 := Aside0.mk (Kd.S_below RX1.out hb)
  replace RX2 := Aside0.mk (Kd.R_below RX2.out hb)
  replace RG0 := Aside0.mk (Kd.R_below RG0.out hb)
  replace RG1 := Aside0.mk (Kd.S_below RG1.out hb)
  replace RG2 := Aside0.mk (Kd.R_below RG2.out hb)
  replace HB := Aside0.mk (below_into (w := w) hb HB.out)
  replace B3 := Aside0.mk (below_into (w := w5) hb B3.out)
  have s_w11 := hb.size
  clear hb HV
  rw [← same_true rfl]
  go_wp2_with fail
  refine (laws_markBooks.to2 w5.heap.size w6.heap.size X0 eX0 m0 d c X1 eX1 m1 h X2 eX2 m2 a b 1 w5 _ B3.out RX0.out RX1.out RX2.out (by omega) (by omega) (by omega) ML.out).mono ?_
  rintro x w12 ⟨rfl, hB3, hK, _, _, _⟩
  replace f0 := cell_iv_kept f0 hK (by first | exact Or.inl (show w.heap.size < w5.heap.size by omega) | exact Or.inr (show w6.heap.size ≤ w.heap.size by omega))
  replace f1 := cell_iv_kept f1 hK (by first | exact Or.inl (show w.heap.size < w5.heap.size by omega) | exact Or.inr (show w6.heap.size ≤ w.heap.size by omega))
  replace f2 := cell_iv_kept f2 hK (by first | exact Or.inl (show w.heap.size < w5.heap.size by omega) | exact Or.inr (show w6.heap.size ≤ w.heap.size by omega))
  replace f3 := cell_iv_kept f3 hK (by first | exact Or.inl (show w.heap.size < w5.heap.size by omega) | exact Or.inr (show w6.heap.size ≤ w.heap.size by omega))
  replace f4 := cell_iv_kept f4 hK (by first | exact Or.inl (show w.heap.size < w5.heap.size by omega) | exact Or.inr (show w6.heap.size ≤ w.heap.size by omega))
  replace f5 := cell_iv_kept f5 hK (by first | exact Or.inl (show w.heap.size < w5.heap.size by omega) | exact Or.inr (show w6.heap.size ≤ w.heap.size by omega))
  replace f6 := cell_iv_kept f6 hK (by first | exact Or.inl (show w.heap.size < w5.heap.size by omega) | exact Or.inr (show w6.heap.size ≤ w.heap.size by omega))
  replace f7 := cell_iv_kept f7 hK (by first | exact Or.inl (show w.heap.size < w5.heap.size by omega) | exact Or.inr (show w6.heap.size ≤ w.heap.size by omega))
  replace p0 := cell_iv_kept p0 hK (by first | exact Or.inl (show w4.heap.size < w5.heap.size by omega) | exact Or.inr (show w6.heap.size ≤ w4.heap.size by omega))
  replace p1 := cell_iv_kept p1 hK (by first | exact Or.inl (show w4.heap.size < w5.heap.size by omega) | exact Or.inr (show w6.heap.size ≤ w4.heap.size by omega))
  replace p2 := cell_iv_kept p2 hK (by first | exact Or.inl (show w4.heap.size < w5.heap.size by omega) | exact Or.inr (show w6.heap.size ≤ w4.heap.size by omega))
  replace p3 := cell_iv_kept p3 hK (by first | exact Or.inl (show w4.heap.size < w5.heap.size by omega) | exact Or.inr (show w6.heap.size ≤ w4.heap.size by omega))
  replace p4 := cell_iv_kept p4 hK (by first | exact Or.inl (show w4.heap.size < w5.heap.size by omega) | exact Or.inr (show w6.heap.size ≤ w4.heap.size by omega))
  replace p5 := cell_iv_kept p5 hK (by first | exact Or.inl (show w4.heap.size < w5.heap.size by omega) | exact Or.inr (show w6.heap.size ≤ w4.heap.size by omega))
  replace p6 := cell_iv_kept p6 hK (by first | exact Or.inl (show w4.heap.size < w5.heap.size by omega) | exact Or.inr (show w6.heap.size ≤ w4.heap.size by omega))
  replace p7 := cell_iv_kept p7 hK (by first | exact Or.inl (show w4.heap.size < w5.heap.size by omega) | exact Or.inr (show w6.heap.size ≤ w4.heap.size by omega))
  replace y0 := cell_iv_kept y0 hK (by first | exact Or.inl (show w6.heap.size < w5.heap.size by omega) | exact Or.inr (show w6.heap.size ≤ w6.heap.size by omega))
  replace y1 := cell_iv_kept y1 hK (by first | exact Or.inl (show w6.heap.size < w5.heap.size by omega) | exact Or.inr (show w6.heap.size ≤ w6.heap.size by omega))
  replace y2 := cell_iv_kept y2 hK (by first | exact Or.inl (show w6.heap.size < w5.heap.size by omega) | exact Or.inr (show w6.heap.size ≤ w6.heap.size by omega))
  replace y3 := cell_iv_kept y3 hK (by first | exact Or.inl (show w6.heap.size < w5.heap.size by omega) | exact Or.inr (show w6.heap.size ≤ w6.heap.size by omega))
  replace y4 := cell_iv_kept y4 hK (by first | exact Or.inl (show w6.heap.size < w5.heap.size by omega) | exact Or.inr (show w6.heap.size ≤ w6.heap.size by omega))
  replace y5 := cell_iv_kept y5 hK (by first | exact Or.inl (show w6.heap.size < w5.heap.size by omega) | exact Or.inr (show w6.heap.size ≤ w6.heap.size by omega))
  replace y6 := cell_iv_kept y6 hK (by first | exact Or.inl (show w6.heap.size < w5.heap.size by omega) | exact Or.inr (show w6.heap.size ≤ w6.heap.size by omega))
  replace y7 := cell_iv_kept y7 hK (by first | exact Or.inl (show w6.heap.size < w5.heap.size by omega) | exact Or.inr (show w6.heap.size ≤ w6.heap.size by omega))
  replace z0 := cell_iv_kept z0 hK (by first | exact Or.inl (show w8.heap.size < w5.heap.size by omega) | exact Or.inr (show w6.heap.size ≤ w8.heap.size by omega))
  replace z1 := cell_iv_kept z1 hK (by first | exact Or.inl (show w8.heap.size < w5.heap.size by omega) | exact Or.inr (show w6.heap.size ≤ w8.heap.size by omega))
  replace z2 := cell_iv_kept z2 hK (by first | exact Or.inl (show w8.heap.size < w5.heap.size by omega) | exact Or.inr (show w6.heap.size ≤ w8.heap.size by omega))
  replace z3 := cell_iv_kept z3 hK (by first | exact Or.inl (show w8.heap.size < w5.heap.size by omega) | exact Or.inr (show w6.heap.size ≤ w8.heap.size by omega))
  replace z4 := cell_iv_kept z4 hK (by first | exact Or.inl (show w8.heap.size < w5.heap.size by omega) | exact Or.inr (show w6.heap.size ≤ w8.heap.size by omega))
  replace z5 := cell_iv_kept z5 hK (by first | exact Or.inl (show w8.heap.size < w5.heap.size by omega) | exact Or.inr (show w6.heap.size ≤ w8.heap.size by omega))
  replace z6 := cell_iv_kept z6 hK (by first | exact Or.inl (show w8.heap.size < w5.heap.size by omega) | exact Or.inr (show w6.heap.size ≤ w8.heap.size by omega))
  replace z7 := cell_iv_kept z7 hK (by first | exact Or.inl (show w8.heap.size < w5.heap.size by omega) | exact Or.inr (show w6.heap.size ≤ w8.heap.size by omega))
  replace RS0 := Aside0.mk (R_iv_kept RS0.out hK (by omega))
  replace RS1 := Aside0.mk (S_iv_kept RS1.out hK (by omega))
  replace RS2 := Aside0.mk (R_iv_kept RS2.out hK (by omega))
  replace RG0 := Aside0.mk (R_iv_kept RG0.out hK (by omega))
  replace RG1 := Aside0.mk (S_iv_kept RG1.out hK (by omega))
  replace RG2 := Aside0.mk (R_iv_kept RG2.out hK (by omega))
  replace B3 := Aside0.mk hB3
  replace HB := Aside0.mk (below_into (w := w) hB3 HBW.out)
  have s_w12 := hK.1
  clear hB3 hK RX0 RX1 RX2
  have mb := (mkB_b (k := 1) ML.out).2.2
  generalize mkB 1 m0 m1 m2 = K1 at *
  have nb2 : decide (K1 < 0) = false := decide_eq_false (by omega)
  go_wp2_with fail
  refine (laws_eqBooks.calls G0 eG0 r0 rd rc G1 eG1 r1 rh G2 eG2 r2 ra rb S0 eS0 r0 rd rc S1 eS1 r1 rh S2 eS2 r2 ra rb _ ((Kd.R_reads' RG0.out).2.2) ((Kd.S_reads' RG1.out).2.2) ((Kd.R_reads' RG2.out).2.2) ((Kd.R_reads' RS0.out).2.2) ((Kd.S_reads' RS1.out).2.2) ((Kd.R_reads' RS2.out).2.2)).mono ?_
  rintro x w13 ⟨rfl, hb⟩
  replace f0 := pw_cell_below hb f0
  replace f1 := pw_cell_below hb f1
  replace f2 := pw_cell_below hb f2
  replace f3 := pw_cell_below hb f3
  replace f4 := pw_cell_below hb f4
  replace f5 := pw_cell_below hb f5
  replace f6 := pw_cell_below hb f6
  replace f7 := pw_cell_below hb f7
  replace p0 := pw_cell_below hb p0
  replace p1 := pw_cell_below hb p1
  replace p2 := pw_cell_below hb p2
  replace p3 := pw_cell_below hb p3
  replace p4 := pw_cell_below hb p4
  replace p5 := pw_cell_below hb p5
  replace p6 := pw_cell_below hb p6
  replace p7 := pw_cell_below hb p7
  replace y0 := pw_cell_below hb y0
  replace y1 := pw_cell_below hb y1
  replace y2 := pw_cell_below hb y2
  replace y3 := pw_cell_below hb y3
  replace y4 := pw_cell_below hb y4
  replace y5 := pw_cell_below hb y5
  replace y6 := pw_cell_below hb y6
  replace y7 := pw_cell_below hb y7
  replace z0 := pw_cell_below hb z0
  replace z1 := pw_cell_below hb z1
  replace z2 := pw_cell_below hb z2
  replace z3 := pw_cell_below hb z3
  replace z4 := pw_cell_below hb z4
  replace z5 := pw_cell_below hb z5
  replace z6 := pw_cell_below hb z6
  replace z7 := pw_cell_below hb z7
  replace RS0 := Aside0.mk (Kd.R_below RS0.out hb)
  replace RS1 := Aside0.mk (Kd.S_below RS1.out hb)
  replace RS2 := Aside0.mk (Kd.R_below RS2.out hb)
  replace RG0 := Aside0.mk (Kd.R_below RG0.out hb)
  replace RG1 := Aside0.mk (Kd.S_below RG1.out hb)
  replace RG2 := Aside0.mk (Kd.R_below RG2.out hb)
  replace HB := Aside0.mk (below_into (w := w) hb HB.out)
  replace B3 := Aside0.mk (below_into (w := w5) hb B3.out)
  have s_w13 := hb.size
  clear hb
  rw [← same_true rfl]
  clear nb2 mb
  go_wp2_with fail
  refine (laws_markBooks.to2 w7.heap.size w8.heap.size G0 eG0 r0 rd rc G1 eG1 r1 rh G2 eG2 r2 ra rb 1 w5 _ B3.out RG0.out RG1.out RG2.out (by omega) (by omega) (by omega) MR.out).mono ?_
  rintro x w14 ⟨rfl, hB3, hK, hM0, hM1, hM2⟩
  have RM0 := Aside0.mk hM0
  have RM1 := Aside0.mk hM1
  have RM2 := Aside0.mk hM2
  replace f0 := cell_iv_kept f0 hK (by first | exact Or.inl (show w.heap.size < w7.heap.size by omega) | exact Or.inr (show w8.heap.size ≤ w.heap.size by omega))
  replace f1 := cell_iv_kept f1 hK (by first | exact Or.inl (show w.heap.size < w7.heap.size by omega) | exact Or.inr (show w8.heap.size ≤ w.heap.size by omega))
  replace f2 := cell_iv_kept f2 hK (by first | exact Or.inl (show w.heap.size < w7.heap.size by omega) | exact Or.inr (show w8.heap.size ≤ w.heap.size by omega))
  replace f3 := cell_iv_kept f3 hK (by first | exact Or.inl (show w.heap.size < w7.heap.size by omega) | exact Or.inr (show w8.heap.size ≤ w.heap.size by omega))
  replace f4 := cell_iv_kept f4 hK (by first | exact Or.inl (show w.heap.size < w7.heap.size by omega) | exact Or.inr (show w8.heap.size ≤ w.heap.size by omega))
  replace f5 := cell_iv_kept f5 hK (by first | exact Or.inl (show w.heap.size < w7.heap.size by omega) | exact Or.inr (show w8.heap.size ≤ w.heap.size by omega))
  replace f6 := cell_iv_kept f6 hK (by first | exact Or.inl (show w.heap.size < w7.heap.size by omega) | exact Or.inr (show w8.heap.size ≤ w.heap.size by omega))
  replace f7 := cell_iv_kept f7 hK (by first | exact Or.inl (show w.heap.size < w7.heap.size by omega) | exact Or.inr (show w8.heap.size ≤ w.heap.size by omega))
  replace p0 := cell_iv_kept p0 hK (by first | exact Or.inl (show w4.heap.size < w7.heap.size by omega) | exact Or.inr (show w8.heap.size ≤ w4.heap.size by omega))
  replace p1 := cell_iv_kept p1 hK (by first | exact Or.inl (show w4.heap.size < w7.heap.size by omega) | exact Or.inr (show w8.heap.size ≤ w4.heap.size by omega))
  replace p2 := cell_iv_kept p2 hK (by first | exact Or.inl (show w4.heap.size < w7.heap.size by omega) | exact Or.inr (show w8.heap.size ≤ w4.heap.size by omega))
  replace p3 := cell_iv_kept p3 hK (by first | exact Or.inl (show w4.heap.size < w7.heap.size by omega) | exact Or.inr (show w8.heap.size ≤ w4.heap.size by omega))
  replace p4 := cell_iv_kept p4 hK (by first | exact Or.inl (show w4.heap.size < w7.heap.size by omega) | exact Or.inr (show w8.heap.size ≤ w4.heap.size by omega))
  replace p5 := cell_iv_kept p5 hK (by first | exact Or.inl (show w4.heap.size < w7.heap.size by omega) | exact Or.inr (show w8.heap.size ≤ w4.heap.size by omega))
  replace p6 := cell_iv_kept p6 hK (by first | exact Or.inl (show w4.heap.size < w7.heap.size by omega) | exact Or.inr (show w8.heap.size ≤ w4.heap.size by omega))
  replace p7 := cell_iv_kept p7 hK (by first | exact Or.inl (show w4.heap.size < w7.heap.size by omega) | exact Or.inr (show w8.heap.size ≤ w4.heap.size by omega))
  replace y0 := cell_iv_kept y0 hK (by first | exact Or.inl (show w6.heap.size < w7.heap.size by omega) | exact Or.inr (show w8.heap.size ≤ w6.heap.size by omega))
  replace y1 := cell_iv_kept y1 hK (by first | exact Or.inl (show w6.heap.size < w7.heap.size by omega) | exact Or.inr (show w8.heap.size ≤ w6.heap.size by omega))
  replace y2 := cell_iv_kept y2 hK (by first | exact Or.inl (show w6.heap.size < w7.heap.size by omega) | exact Or.inr (show w8.heap.size ≤ w6.heap.size by omega))
  replace y3 := cell_iv_kept y3 hK (by first | exact Or.inl (show w6.heap.size < w7.heap.size by omega) | exact Or.inr (show w8.heap.size ≤ w6.heap.size by omega))
  replace y4 := cell_iv_kept y4 hK (by first | exact Or.inl (show w6.heap.size < w7.heap.size by omega) | exact Or.inr (show w8.heap.size ≤ w6.heap.size by omega))
  replace y5 := cell_iv_kept y5 hK (by first | exact Or.inl (show w6.heap.size < w7.heap.size by omega) | exact Or.inr (show w8.heap.size ≤ w6.heap.size by omega))
  replace y6 := cell_iv_kept y6 hK (by first | exact Or.inl (show w6.heap.size < w7.heap.size by omega) | exact Or.inr (show w8.heap.size ≤ w6.heap.size by omega))
  replace y7 := cell_iv_kept y7 hK (by first | exact Or.inl (show w6.heap.size < w7.heap.size by omega) | exact Or.inr (show w8.heap.size ≤ w6.heap.size by omega))
  replace z0 := cell_iv_kept z0 hK (by first | exact Or.inl (show w8.heap.size < w7.heap.size by omega) | exact Or.inr (show w8.heap.size ≤ w8.heap.size by omega))
  replace z1 := cell_iv_kept z1 hK (by first | exact Or.inl (show w8.heap.size < w7.heap.size by omega) | exact Or.inr (show w8.heap.size ≤ w8.heap.size by omega))
  replace z2 := cell_iv_kept z2 hK (by first | exact Or.inl (show w8.heap.size < w7.heap.size by omega) | exact Or.inr (show w8.heap.size ≤ w8.heap.size by omega))
  replace z3 := cell_iv_kept z3 hK (by first | exact Or.inl (show w8.heap.size < w7.heap.size by omega) | exact Or.inr (show w8.heap.size ≤ w8.heap.size by omega))
  replace z4 := cell_iv_kept z4 hK (by first | exact Or.inl (show w8.heap.size < w7.heap.size by omega) | exact Or.inr (show w8.heap.size ≤ w8.heap.size by omega))
  replace z5 := cell_iv_kept z5 hK (by first | exact Or.inl (show w8.heap.size < w7.heap.size by omega) | exact Or.inr (show w8.heap.size ≤ w8.heap.size by omega))
  replace z6 := cell_iv_kept z6 hK (by first | exact Or.inl (show w8.heap.size < w7.heap.size by omega) | exact Or.inr (show w8.heap.size ≤ w8.heap.size by omega))
  replace z7 := cell_iv_kept z7 hK (by first | exact Or.inl (show w8.heap.size < w7.heap.size by omega) | exact Or.inr (show w8.heap.size ≤ w8.heap.size by omega))
  replace RS0 := Aside0.mk (R_iv_kept RS0.out hK (by omega))
  replace RS1 := Aside0.mk (S_iv_kept RS1.out hK (by omega))
  replace RS2 := Aside0.mk (R_iv_kept RS2.out hK (by omega))
  replace B3 := Aside0.mk hB3
  replace HB := Aside0.mk (below_into (w := w) hB3 HBW.out)
  have s_w14 := hK.1
  clear hB3 hK RG0 RG1 RG2 hM0 hM1 hM2
  have mb := (mkB_b (k := 1) MR.out).2.2
  have HLD := Aside0.mk (fun (W : World) (hC0 : Kd.C k131 W G0 r0.length (mAll mAcc nAcc 1 r0)) (hC1 : Kd.C k34 W G1 r1.length (mAll mEnt nEnt (nAll nAcc 1 r0) r1)) (hC2 : Kd.C k133 W G2 r2.length (mAll mPer nPer (nAll nEnt (nAll nAcc 1 r0) r1) r2)) => laws_heldBooks.to G0 eG0 r0 rd rc G1 eG1 r1 rh G2 eG2 r2 ra rb 1 W hC0 hC1 hC2 NG0.out NG2.out (by omega) (by omega) MR.out)
  have NM := Aside0.mk (And.intro (mAll_length mAcc nAcc r0 1) (And.intro (mAll_length mEnt nEnt r1 (nAll nAcc 1 r0)) (mAll_length mPer nPer r2 (nAll nEnt (nAll nAcc 1 r0) r1))))
  generalize mkB 1 r0 r1 r2 = Q at *
  generalize mAll mPer nPer (nAll nEnt (nAll nAcc 1 r0) r1) r2 = M2 at *
  generalize mAll mEnt nEnt (nAll nAcc 1 r0) r1 = M1 at *
  generalize mAll mAcc nAcc 1 r0 = M0 at *
  have nq : decide (Q < 0) = false := decide_eq_false (by omega)
  go_wp2_with fail
  refine (HLD.out _ (by have hC := (Kd.R_reads' RM0.out).2.2; rw [NM.out.1] at hC; exact hC) (by have hC := (Kd.S_reads' RM1.out).2.2; rw [NM.out.2.1] at hC; exact hC) (by have hC := (Kd.R_reads' RM2.out).2.2; rw [NM.out.2.2] at hC; exact hC)).mono ?_
  rintro x w15 ⟨rfl, hb⟩
  replace f0 := pw_cell_below hb f0
  replace f1 := pw_cell_below hb f1
  replace f2 := pw_cell_below hb f2
  replace f3 := pw_cell_below hb f3
  replace f4 := pw_cell_below hb f4
  replace f5 := pw_cell_below hb f5
  replace f6 := pw_cell_below hb f6
  replace f7 := pw_cell_below hb f7
  replace p0 := pw_cell_below hb p0
  replace p1 := pw_cell_below hb p1
  replace p2 := pw_cell_below hb p2
  replace p3 := pw_cell_below hb p3
  replace p4 := pw_cell_below hb p4
  replace p5 := pw_cell_below hb p5
  replace p6 := pw_cell_below hb p6
  replace p7 := pw_cell_below hb p7
  replace y0 := pw_cell_below hb y0
  replace y1 := pw_cell_below hb y1
  replace y2 := pw_cell_below hb y2
  replace y3 := pw_cell_below hb y3
  replace y4 := pw_cell_below hb y4
  replace y5 := pw_cell_below hb y5
  replace y6 := pw_cell_below hb y6
  replace y7 := pw_cell_below hb y7
  replace z0 := pw_cell_below hb z0
  replace z1 := pw_cell_below hb z1
  replace z2 := pw_cell_below hb z2
  replace z3 := pw_cell_below hb z3
  replace z4 := pw_cell_below hb z4
  replace z5 := pw_cell_below hb z5
  replace z6 := pw_cell_below hb z6
  replace z7 := pw_cell_below hb z7
  replace RS0 := Aside0.mk (Kd.R_below RS0.out hb)
  replace RS1 := Aside0.mk (Kd.S_below RS1.out hb)
  replace RS2 := Aside0.mk (Kd.R_below RS2.out hb)
  replace RM0 := Aside0.mk (Kd.R_below RM0.out hb)
  replace RM1 := Aside0.mk (Kd.S_below RM1.out hb)
  replace RM2 := Aside0.mk (Kd.R_below RM2.out hb)
  replace HB := Aside0.mk (below_into (w := w) hb HB.out)
  replace B3 := Aside0.mk (below_into (w := w5) hb B3.out)
  have s_w15 := hb.size
  clear hb
  go_wp2_with fail
  refine (laws_toBooks.calls kBig A0 c0 l0 d c A1 c1 l1 h A2 c2 l2 a b m0 d c m1 h m2 a b _ (Kd.C_below H0.out HB.out) C0.out (Kd.C_below H1.out HB.out) C1.out (Kd.C_below H2.out HB.out) C2.out TB.out).mono ?_
  rintro x w16 ⟨v0, v3, v5, rfl, hR0, hR3, hR5, hb⟩
  obtain ⟨P0, eP0, rfl, n0, g0⟩ := Kd.R_reads hR0
  have NP0 := Aside0.mk n0
  have KP0 := Aside0.mk g0
  obtain ⟨P1, eP1, rfl, n1, g1⟩ := Kd.S_reads hR3
  have NP1 := Aside0.mk n1
  have KP1 := Aside0.mk g1
  obtain ⟨P2, eP2, rfl, n2, g2⟩ := Kd.R_reads hR5
  have NP2 := Aside0.mk n2
  have KP2 := Aside0.mk g2
  replace f0 := pw_cell_below hb f0
  replace f1 := pw_cell_below hb f1
  replace f2 := pw_cell_below hb f2
  replace f3 := pw_cell_below hb f3
  replace f4 := pw_cell_below hb f4
  replace f5 := pw_cell_below hb f5
  replace f6 := pw_cell_below hb f6
  replace f7 := pw_cell_below hb f7
  replace p0 := pw_cell_below hb p0
  replace p1 := pw_cell_below hb p1
  replace p2 := pw_cell_below hb p2
  replace p3 := pw_cell_below hb p3
  replace p4 := pw_cell_below hb p4
  replace p5 := pw_cell_below hb p5
  replace p6 := pw_cell_below hb p6
  replace p7 := pw_cell_below hb p7
  replace y0 := pw_cell_below hb y0
  replace y1 := pw_cell_below hb y1
  replace y2 := pw_cell_below hb y2
  replace y3 := pw_cell_below hb y3
  replace y4 := pw_cell_below hb y4
  replace y5 := pw_cell_below hb y5
  replace y6 := pw_cell_below hb y6
  replace y7 := pw_cell_below hb y7
  replace z0 := pw_cell_below hb z0
  replace z1 := pw_cell_below hb z1
  replace z2 := pw_cell_below hb z2
  replace z3 := pw_cell_below hb z3
  replace z4 := pw_cell_below hb z4
  replace z5 := pw_cell_below hb z5
  replace z6 := pw_cell_below hb z6
  replace z7 := pw_cell_below hb z7
  replace RS0 := Aside0.mk (Kd.R_below RS0.out hb)
  replace RS1 := Aside0.mk (Kd.S_below RS1.out hb)
  replace RS2 := Aside0.mk (Kd.R_below RS2.out hb)
  replace RM0 := Aside0.mk (Kd.R_below RM0.out hb)
  replace RM1 := Aside0.mk (Kd.S_below RM1.out hb)
  replace RM2 := Aside0.mk (Kd.R_below RM2.out hb)
  replace HB := Aside0.mk (below_into (w := w) hb HB.out)
  replace B3 := Aside0.mk (below_into (w := w5) hb B3.out)
  have s_w16 := hb.size
  clear hb hR0 hR3 hR5 n0 n1 n2 g0 g1 g2
  go_wp2_with fail
  refine (impl_Shut.at P0 eP0 m0 d c P1 eP1 m1 h P2 eP2 m2 a b _ r0 rd rc r1 rh r2 ra rb rk (KP0.out) NP0.out HT0.out (KP1.out) NP1.out HT1.out (KP2.out) NP2.out ML.out RES.out).mono ?_
  rintro x w17 ⟨v0, v3, v5, rfl, hR0, hR3, hR5, hb⟩
  obtain ⟨F0, eF0, rfl, n0, _⟩ := Kd.R_reads hR0
  have NF0 := Aside0.mk n0
  have RF0 := Aside0.mk (R_iv hR0)
  obtain ⟨F1, eF1, rfl, n1, _⟩ := Kd.S_reads hR3
  have NF1 := Aside0.mk n1
  have RF1 := Aside0.mk (S_iv hR3)
  obtain ⟨F2, eF2, rfl, n2, _⟩ := Kd.R_reads hR5
  have NF2 := Aside0.mk n2
  have RF2 := Aside0.mk (R_iv hR5)
  replace f0 := pw_cell_below hb f0
  replace f1 := pw_cell_below hb f1
  replace f2 := pw_cell_below hb f2
  replace f3 := pw_cell_below hb f3
  replace f4 := pw_cell_below hb f4
  replace f5 := pw_cell_below hb f5
  replace f6 := pw_cell_below hb f6
  replace f7 := pw_cell_below hb f7
  replace p0 := pw_cell_below hb p0
  replace p1 := pw_cell_below hb p1
  replace p2 := pw_cell_below hb p2
  replace p3 := pw_cell_below hb p3
  replace p4 := pw_cell_below hb p4
  replace p5 := pw_cell_below hb p5
  replace p6 := pw_cell_below hb p6
  replace p7 := pw_cell_below hb p7
  replace y0 := pw_cell_below hb y0
  replace y1 := pw_cell_below hb y1
  replace y2 := pw_cell_below hb y2
  replace y3 := pw_cell_below hb y3
  replace y4 := pw_cell_below hb y4
  replace y5 := pw_cell_below hb y5
  replace y6 := pw_cell_below hb y6
  replace y7 := pw_cell_below hb y7
  replace z0 := pw_cell_below hb z0
  replace z1 := pw_cell_below hb z1
  replace z2 := pw_cell_below hb z2
  replace z3 := pw_cell_below hb z3
  replace z4 := pw_cell_below hb z4
  replace z5 := pw_cell_below hb z5
  replace z6 := pw_cell_below hb z6
  replace z7 := pw_cell_below hb z7
  replace RS0 := Aside0.mk (Kd.R_below RS0.out hb)
  replace RS1 := Aside0.mk (Kd.S_below RS1.out hb)
  replace RS2 := Aside0.mk (Kd.R_below RS2.out hb)
  replace RM0 := Aside0.mk (Kd.R_below RM0.out hb)
  replace RM1 := Aside0.mk (Kd.S_below RM1.out hb)
  replace RM2 := Aside0.mk (Kd.R_below RM2.out hb)
  replace HB := Aside0.mk (below_into (w := w) hb HB.out)
  replace B3 := Aside0.mk (below_into (w := w5) hb B3.out)
  have s_w17 := hb.size
  clear hb hR0 hR3 hR5 n0 n1 n2
  clear KP0 KP1 KP2 NP0 NP1 NP2
  have zz_f0 := World.block_lt_of_cell? _ _ f0
  have zz_p0 := World.block_lt_of_cell? _ _ p0
  have zz_y0 := World.block_lt_of_cell? _ _ y0
  have zz_z0 := World.block_lt_of_cell? _ _ z0
  go_wp2_with fail
  have u0 : (w17.alloc (.cells #[.slice F0 r0.length eF0, .int .i64 rd, .int .i64 rc, .slice F1 r1.length eF1, .int .i64 rh, .slice F2 r2.length eF2, .int .i64 ra, .int .i64 rb] 50)).cell? ⟨w17.heap.size, 0, none⟩ = some (.slice F0 r0.length eF0) := by go_simp
  have u1 : (w17.alloc (.cells #[.slice F0 r0.length eF0, .int .i64 rd, .int .i64 rc, .slice F1 r1.length eF1, .int .i64 rh, .slice F2 r2.length eF2, .int .i64 ra, .int .i64 rb] 50)).cell? ⟨w17.heap.size, 1, none⟩ = some (.int .i64 rd) := by go_simp
  have u2 : (w17.alloc (.cells #[.slice F0 r0.length eF0, .int .i64 rd, .int .i64 rc, .slice F1 r1.length eF1, .int .i64 rh, .slice F2 r2.length eF2, .int .i64 ra, .int .i64 rb] 50)).cell? ⟨w17.heap.size, 2, none⟩ = some (.int .i64 rc) := by go_simp
  have u3 : (w17.alloc (.cells #[.slice F0 r0.length eF0, .int .i64 rd, .int .i64 rc, .slice F1 r1.length eF1, .int .i64 rh, .slice F2 r2.length eF2, .int .i64 ra, .int .i64 rb] 50)).cell? ⟨w17.heap.size, 3, none⟩ = some (.slice F1 r1.length eF1) := by go_simp
  have u4 : (w17.alloc (.cells #[.slice F0 r0.length eF0, .int .i64 rd, .int .i64 rc, .slice F1 r1.length eF1, .int .i64 rh, .slice F2 r2.length eF2, .int .i64 ra, .int .i64 rb] 50)).cell? ⟨w17.heap.size, 4, none⟩ = some (.int .i64 rh) := by go_simp
  have u5 : (w17.alloc (.cells #[.slice F0 r0.length eF0, .int .i64 rd, .int .i64 rc, .slice F1 r1.length eF1, .int .i64 rh, .slice F2 r2.length eF2, .int .i64 ra, .int .i64 rb] 50)).cell? ⟨w17.heap.size, 5, none⟩ = some (.slice F2 r2.length eF2) := by go_simp
  have u6 : (w17.alloc (.cells #[.slice F0 r0.length eF0, .int .i64 rd, .int .i64 rc, .slice F1 r1.length eF1, .int .i64 rh, .slice F2 r2.length eF2, .int .i64 ra, .int .i64 rb] 50)).cell? ⟨w17.heap.size, 6, none⟩ = some (.int .i64 ra) := by go_simp
  have u7 : (w17.alloc (.cells #[.slice F0 r0.length eF0, .int .i64 rd, .int .i64 rc, .slice F1 r1.length eF1, .int .i64 rh, .slice F2 r2.length eF2, .int .i64 ra, .int .i64 rb] 50)).cell? ⟨w17.heap.size, 7, none⟩ = some (.int .i64 rb) := by go_simp
  have hb := below_alloc (Below.refl w17.heap.size w17) (.cells #[.slice F0 r0.length eF0, .int .i64 rd, .int .i64 rc, .slice F1 r1.length eF1, .int .i64 rh, .slice F2 r2.length eF2, .int .i64 ra, .int .i64 rb] 50)
  replace f0 := pw_cell_below hb f0
  replace f1 := pw_cell_below hb f1
  replace f2 := pw_cell_below hb f2
  replace f3 := pw_cell_below hb f3
  replace f4 := pw_cell_below hb f4
  replace f5 := pw_cell_below hb f5
  replace f6 := pw_cell_below hb f6
  replace f7 := pw_cell_below hb f7
  replace p0 := pw_cell_below hb p0
  replace p1 := pw_cell_below hb p1
  replace p2 := pw_cell_below hb p2
  replace p3 := pw_cell_below hb p3
  replace p4 := pw_cell_below hb p4
  replace p5 := pw_cell_below hb p5
  replace p6 := pw_cell_below hb p6
  replace p7 := pw_cell_below hb p7
  replace y0 := pw_cell_below hb y0
  replace y1 := pw_cell_below hb y1
  replace y2 := pw_cell_below hb y2
  replace y3 := pw_cell_below hb y3
  replace y4 := pw_cell_below hb y4
  replace y5 := pw_cell_below hb y5
  replace y6 := pw_cell_below hb y6
  replace y7 := pw_cell_below hb y7
  replace z0 := pw_cell_below hb z0
  replace z1 := pw_cell_below hb z1
  replace z2 := pw_cell_below hb z2
  replace z3 := pw_cell_below hb z3
  replace z4 := pw_cell_below hb z4
  replace z5 := pw_cell_below hb z5
  replace z6 := pw_cell_below hb z6
  replace z7 := pw_cell_below hb z7
  replace RS0 := Aside0.mk (Kd.R_below RS0.out hb)
  replace RS1 := Aside0.mk (Kd.S_below RS1.out hb)
  replace RS2 := Aside0.mk (Kd.R_below RS2.out hb)
  replace RM0 := Aside0.mk (Kd.R_below RM0.out hb)
  replace RM1 := Aside0.mk (Kd.S_below RM1.out hb)
  replace RM2 := Aside0.mk (Kd.R_below RM2.out hb)
  replace RF0 := Aside0.mk (Kd.R_below RF0.out hb)
  replace RF1 := Aside0.mk (Kd.S_below RF1.out hb)
  replace RF2 := Aside0.mk (Kd.R_below RF2.out hb)
  replace HB := Aside0.mk (below_into (w := w) hb HB.out)
  replace B3 := Aside0.mk (below_into (w := w5) hb B3.out)
  have s_w18 : w17.heap.size < (w17.alloc (.cells #[.slice F0 r0.length eF0, .int .i64 rd, .int .i64 rc, .slice F1 r1.length eF1, .int .i64 rh, .slice F2 r2.length eF2, .int .i64 ra, .int .i64 rb] 50)).heap.size := by simp
  clear hb
  generalize w17.alloc (.cells #[.slice F0 r0.length eF0, .int .i64 rd, .int .i64 rc, .slice F1 r1.length eF1, .int .i64 rh, .slice F2 r2.length eF2, .int .i64 ra, .int .i64 rb] 50) = w18 at *
  have z_u0 := World.block_lt_of_cell? _ _ u0
  refine (laws_eqBooks.calls F0 eF0 r0 rd rc F1 eF1 r1 rh F2 eF2 r2 ra rb S0 eS0 r0 rd rc S1 eS1 r1 rh S2 eS2 r2 ra rb _ ((Kd.R_reads' RF0.out).2.2) ((Kd.S_reads' RF1.out).2.2) ((Kd.R_reads' RF2.out).2.2) ((Kd.R_reads' RS0.out).2.2) ((Kd.S_reads' RS1.out).2.2) ((Kd.R_reads' RS2.out).2.2)).mono ?_
  rintro x w19 ⟨rfl, hb⟩
  replace f0 := pw_cell_below hb f0
  replace f1 := pw_cell_below hb f1
  replace f2 := pw_cell_below hb f2
  replace f3 := pw_cell_below hb f3
  replace f4 := pw_cell_below hb f4
  replace f5 := pw_cell_below hb f5
  replace f6 := pw_cell_below hb f6
  replace f7 := pw_cell_below hb f7
  replace p0 := pw_cell_below hb p0
  replace p1 := pw_cell_below hb p1
  replace p2 := pw_cell_below hb p2
  replace p3 := pw_cell_below hb p3
  replace p4 := pw_cell_below hb p4
  replace p5 := pw_cell_below hb p5
  replace p6 := pw_cell_below hb p6
  replace p7 := pw_cell_below hb p7
  replace y0 := pw_cell_below hb y0
  replace y1 := pw_cell_below hb y1
  replace y2 := pw_cell_below hb y2
  replace y3 := pw_cell_below hb y3
  replace y4 := pw_cell_below hb y4
  replace y5 := pw_cell_below hb y5
  replace y6 := pw_cell_below hb y6
  replace y7 := pw_cell_below hb y7
  replace z0 := pw_cell_below hb z0
  replace z1 := pw_cell_below hb z1
  replace z2 := pw_cell_below hb z2
  replace z3 := pw_cell_below hb z3
  replace z4 := pw_cell_below hb z4
  replace z5 := pw_cell_below hb z5
  replace z6 := pw_cell_below hb z6
  replace z7 := pw_cell_below hb z7
  replace u0 := pw_cell_below hb u0
  replace u1 := pw_cell_below hb u1
  replace u2 := pw_cell_below hb u2
  replace u3 := pw_cell_below hb u3
  replace u4 := pw_cell_below hb u4
  replace u5 := pw_cell_below hb u5
  replace u6 := pw_cell_below hb u6
  replace u7 := pw_cell_below hb u7
  replace RS0 := Aside0.mk (Kd.R_below RS0.out hb)
  replace RS1 := Aside0.mk (Kd.S_below RS1.out hb)
  replace RS2 := Aside0.mk (Kd.R_below RS2.out hb)
  replace RM0 := Aside0.mk (Kd.R_below RM0.out hb)
  replace RM1 := Aside0.mk (Kd.S_below RM1.out hb)
  replace RM2 := Aside0.mk (Kd.R_below RM2.out hb)
  replace RF0 := Aside0.mk (Kd.R_below RF0.out hb)
  replace RF1 := Aside0.mk (Kd.S_below RF1.out hb)
  replace RF2 := Aside0.mk (Kd.R_below RF2.out hb)
  replace HB := Aside0.mk (below_into (w := w) hb HB.out)
  replace B3 := Aside0.mk (below_into (w := w5) hb B3.out)
  have s_w19 := hb.size
  clear hb
  rw [← same_true rfl]
  go_wp2_with fail
  refine (HLD.out _ (by have hC := (Kd.R_reads' RM0.out).2.2; rw [NM.out.1] at hC; exact hC) (by have hC := (Kd.S_reads' RM1.out).2.2; rw [NM.out.2.1] at hC; exact hC) (by have hC := (Kd.R_reads' RM2.out).2.2; rw [NM.out.2.2] at hC; exact hC)).mono ?_
  rintro x w20 ⟨rfl, hb⟩
  replace f0 := pw_cell_below hb f0
  replace f1 := pw_cell_below hb f1
  replace f2 := pw_cell_below hb f2
  replace f3 := pw_cell_below hb f3
  replace f4 := pw_cell_below hb f4
  replace f5 := pw_cell_below hb f5
  replace f6 := pw_cell_below hb f6
  replace f7 := pw_cell_below hb f7
  replace p0 := pw_cell_below hb p0
  replace p1 := pw_cell_below hb p1
  replace p2 := pw_cell_below hb p2
  replace p3 := pw_cell_below hb p3
  replace p4 := pw_cell_below hb p4
  replace p5 := pw_cell_below hb p5
  replace p6 := pw_cell_below hb p6
  replace p7 := pw_cell_below hb p7
  replace y0 := pw_cell_below hb y0
  replace y1 := pw_cell_below hb y1
  replace y2 := pw_cell_below hb y2
  replace y3 := pw_cell_below hb y3
  replace y4 := pw_cell_below hb y4
  replace y5 := pw_cell_below hb y5
  replace y6 := pw_cell_below hb y6
  replace y7 := pw_cell_below hb y7
  replace z0 := pw_cell_below hb z0
  replace z1 := pw_cell_below hb z1
  replace z2 := pw_cell_below hb z2
  replace z3 := pw_cell_below hb z3
  replace z4 := pw_cell_below hb z4
  replace z5 := pw_cell_below hb z5
  replace z6 := pw_cell_below hb z6
  replace z7 := pw_cell_below hb z7
  replace u0 := pw_cell_below hb u0
  replace u1 := pw_cell_below hb u1
  replace u2 := pw_cell_below hb u2
  replace u3 := pw_cell_below hb u3
  replace u4 := pw_cell_below hb u4
  replace u5 := pw_cell_below hb u5
  replace u6 := pw_cell_below hb u6
  replace u7 := pw_cell_below hb u7
  replace RS0 := Aside0.mk (Kd.R_below RS0.out hb)
  replace RS1 := Aside0.mk (Kd.S_below RS1.out hb)
  replace RS2 := Aside0.mk (Kd.R_below RS2.out hb)
  replace RM0 := Aside0.mk (Kd.R_below RM0.out hb)
  replace RM1 := Aside0.mk (Kd.S_below RM1.out hb)
  replace RM2 := Aside0.mk (Kd.R_below RM2.out hb)
  replace RF0 := Aside0.mk (Kd.R_below RF0.out hb)
  replace RF1 := Aside0.mk (Kd.S_below RF1.out hb)
  replace RF2 := Aside0.mk (Kd.R_below RF2.out hb)
  replace HB := Aside0.mk (below_into (w := w) hb HB.out)
  replace B3 := Aside0.mk (below_into (w := w5) hb B3.out)
  have s_w20 := hb.size
  clear hb
  go_wp2_with fail
  go_ret
  exact ⟨rfl, HB.out⟩
end Go.Proofs.Ytphmnkcfjgallaa.Q
