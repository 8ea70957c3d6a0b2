/- Parts of the proof: what functions of the program and of the reference answer.
   No condition. -/
import Derived.Test.YtphmnkcfjgallaaZSpread1
import Derived.Test.YtphmnkcfjgallaaZSpread6
import Derived.Test.YtphmnkcfjgallaaZSpread16
import Derived.Test.YtphmnkcfjgallaaZSpread12
import Derived.Test.YtphmnkcfjgallaaZSpread7
import Derived.Test.YtphmnkcfjgallaaZSpread5
import Derived.Test.YtphmnkcfjgallaaZSpread2
import Derived.Test.YtphmnkcfjgallaaZSpread8
import Derived.Test.YtphmnkcfjgallaaZSpread17
import Derived.Test.YtphmnkcfjgallaaZSpread3
import Derived.Test.YtphmnkcfjgallaaZSpread10
import Derived.Test.YtphmnkcfjgallaaZSpread13
import Derived.Test.YtphmnkcfjgallaaZSpread4
import Derived.Test.YtphmnkcfjgallaaZSpread15
import Derived.Test.YtphmnkcfjgallaaZSpread18
namespace Go.Proofs.Ytphmnkcfjgallaa.Q
open Go.RowKit Go.Proofs.YtphmnkcfjgallaaW.PrintWords Go.Proofs.YtphmnkcfjgallaaW.PrintLast Go.Proofs.YtphmnkcfjgallaaW.PrintMore
set_option linter.unusedVariables false
set_option linter.unusedSimpArgs false
theorem of_wf {n : Int} (h : (Lit.int .i64 n).wf = true) : -9223372036854775808 ≤ n ∧ n ≤ 9223372036854775807 := by
  simp only [Lit.wf, IntKind.min, IntKind.max, IntKind.signed, IntKind.bits, Bool.and_eq_true, decide_eq_true_eq, if_true] at h
  omega
theorem sprS_len {m0 : List Acc} {d c t fr tt dim : Int} {ps : List Per} : (sprS m0 d c t fr tt dim ps).length ≤ 1048576 ∧ ∀ x ∈ sprS m0 d c t fr tt dim ps, x.f3.length ≤ 1048576 := by
  unfold sprS
  split
  · rename_i q
    unfold sprF
    split
    · have hl := sharesR_len t (ps.map spanR)
      rw [List.length_map] at hl
      refine ⟨by rw [List.length_map, List.length_range]; omega, fun x hx => ?_⟩
      obtain ⟨i, _, rfl⟩ := List.mem_map.1 hx
      unfold sprE
      simp
    · exact ⟨by simp, fun x hx => by cases hx⟩
  · exact ⟨by simp, fun x hx => by cases hx⟩
set_option maxHeartbeats 64000000 in
set_option maxRecDepth 100000 in
theorem laws_FnExactSpread.to (A0 : Option Addr) (c0 : Nat) (l0 : List S176) (d c t fr tt dim : Int) (A1 : Option Addr) (c1 : Nat) (l1 : List S138) (w : World)
    (hr0 : Kd.C k176 w A0 l0.length l0) (hc0 : l0.length ≤ c0) (hr1 : Kd.C k138 w A1 l1.length l1) (hc1 : l1.length ≤ c1) (hw0 : wf59 (⟨l0, d, c⟩ : S59)) (hwt1 : (Lit.int .i64 t).wf = true) (hwt2 : (Lit.int .i64 fr).wf = true) (hwt3 : (Lit.int .i64 tt).wf = true) (hwt4 : (Lit.int .i64 dim).wf = true) (hw1 : l1.length ≤ maxLen ∧ ∀ y ∈ l1, wf138 y) :
    Calls Try.prog 7 #[.agg #[.slice A0 l0.length c0, .int .i64 d, .int .i64 c], .int .i64 t, .int .i64 fr, .int .i64 tt, .int .i64 dim, .slice A1 l1.length c1] w fun e w' => e = .returned (.bool true) ∧ Below w.heap.size w w' := by
  have H0 := Aside0.mk hr0
  have H1 := Aside0.mk hr1
  have C0 := Aside0.mk hc0
  have C1 := Aside0.mk hc1
  have HW0 := Aside0.mk hw0
  have HW1 := Aside0.mk hw1
  have HT0 := Aside0.mk (text_cvAccount hw0.1.2)
  have HB := Aside0.mk (below_alloc (Below.refl w.heap.size w) (.cells #[.slice A0 l0.length c0, .int .i64 d, .int .i64 c] 59))
  clear hr0 hr1 hw0 hw1 hc0 hc1 hwt1 hwt2 hwt3 hwt4
  go_enter Try.func7, Try.ntmps7
  go_wp2_with fail
  refine (laws_szFrame.calls A0 c0 l0 d c 1048576 _ (Kd.C_below H0.out HB.out) (by omega) (by omega) HW0.out).mono ?_
  rintro x w1 ⟨r, rfl, q1, q2, q3, hb⟩
  have f0 : w1.cell? ⟨w.heap.size, 0, none⟩ = some (.slice A0 l0.length c0) := pw_cell_below hb (by go_simp)
  have f1 : w1.cell? ⟨w.heap.size, 1, none⟩ = some (.int .i64 d) := pw_cell_below hb (by go_simp)
  have f2 : w1.cell? ⟨w.heap.size, 2, none⟩ = some (.int .i64 c) := pw_cell_below hb (by go_simp)
  replace HB := Aside0.mk (below_into (w := w) hb HB.out)
  have HS := Aside0.mk q3
  clear hb q3
  by_cases hr : r < 0
  case pos =>
    go_wp2_with fail
    go_ret
    exact ⟨rfl, HB.out⟩
  have HS0 := Aside0.mk (show l0.length ≤ 1048576 from HS.out (by omega))
  clear HS
  go_wp2_with fail
  refine (laws_szPeriodS.calls A1 c1 l1 r _ (Kd.C_below H1.out HB.out) (by omega) (by omega) HW1.out.2).mono ?_
  rintro x w2 ⟨r', rfl, q1', q2', q3, hb⟩
  replace f0 := pw_cell_below hb f0
  replace f1 := pw_cell_below hb f1
  replace f2 := pw_cell_below hb f2
  replace HB := Aside0.mk (below_into (w := w) hb HB.out)
  have HS := Aside0.mk q3
  clear hb q3
  by_cases hr' : r' < 0
  case pos =>
    go_wp2_with fail
    go_ret
    exact ⟨rfl, HB.out⟩
  have HS1 := Aside0.mk (show l1.length ≤ 1048576 from HS.out (by omega))
  clear HS
  have TF := Aside0.mk (laws_toFrame_is l0 d c kBig HS0.out kBig_le)
  have TL := Aside0.mk (laws_toPeriodS_is l1 kBig HS1.out (Nat.lt_of_lt_of_le (by have := HS1.out; omega) kBig_le))
  have ML0 := Aside0.mk (show (l0.map cvAccount).length ≤ 1048576 by rw [List.length_map]; exact HS0.out)
  have ML1 := Aside0.mk (show (l1.map cvPeriod).length ≤ 1048576 by rw [List.length_map]; exact HS1.out)
  have hper : ∀ p ∈ l1.map cvPeriod, (-9223372036854775808 ≤ p.f0 ∧ p.f0 ≤ 9223372036854775807) ∧ (-9223372036854775808 ≤ p.f1 ∧ p.f1 ≤ 9223372036854775807) := fun p hp => by
    obtain ⟨y, hy, rfl⟩ := List.mem_map.1 hp
    have h := HW1.out.2 y hy
    unfold wf138 at h
    exact ⟨of_wf h.1, of_wf h.2⟩
  generalize l0.map cvAccount = m0 at *
  generalize l1.map cvPeriod = m1 at *
  have IT := Aside0.mk (impl_Spread_isI m0 d c t fr tt dim m1 HT0.out kBig (Nat.le_trans (by omega) kBig_le))
  have ST := Aside0.mk (spec_Spread_isS m0 d c t fr tt dim m1 HT0.out kBig (Nat.le_trans (by omega) kBig_le))
  rw [spr_same m0 d c t fr tt dim m1 hper] at IT
  have RL := Aside0.mk (sprS_len (m0 := m0) (d := d) (c := c) (t := t) (fr := fr) (tt := tt) (dim := dim) (ps := m1))
  generalize sprS m0 d c t fr tt dim m1 = r0 at *
  clear hper HW0 HW1 HT0
  go_wp2_with fail
  refine (laws_toFrame.calls kBig A0 c0 l0 d c m0 d c _ (Kd.C_below H0.out HB.out) C0.out TF.out).mono ?_
  rintro x w3 ⟨u0, rfl, hR, hb⟩
  obtain ⟨XS, exs, rfl, n0, _⟩ := Kd.R_reads hR
  have NXS := Aside0.mk n0
  have RXS := Aside0.mk hR
  replace f0 := pw_cell_below hb f0
  replace f1 := pw_cell_below hb f1
  replace f2 := pw_cell_below hb f2
  replace HB := Aside0.mk (below_into (w := w) hb HB.out)
  have s_w3 := hb.size
  clear hb hR n0
  go_wp2_with fail
  refine (laws_toPeriodS.calls kBig A1 c1 l1 m1 _ (Kd.C_below H1.out HB.out) C1.out TL.out).mono ?_
  rintro x w4 ⟨u0, rfl, hR, hb⟩
  obtain ⟨XP, exp, rfl, n0, _⟩ := Kd.R_reads hR
  have NXP := Aside0.mk n0
  have RXP := Aside0.mk hR
  replace f0 := pw_cell_below hb f0
  replace f1 := pw_cell_below hb f1
  replace f2 := pw_cell_below hb f2
  replace RXS := Aside0.mk (Kd.R_below RXS.out hb)
  replace HB := Aside0.mk (below_into (w := w) hb HB.out)
  have s_w4 := hb.size
  clear hb hR n0
  go_wp2_with fail
  refine (spec_Spread.calls kBig XS exs m0 d c t fr tt dim XP exp m1 r0 _ ((Kd.R_reads' RXS.out).2.2) NXS.out ((Kd.R_reads' RXP.out).2.2) NXP.out ST.out).mono ?_
  rintro x w5 ⟨vs, rfl, hR, hb⟩
  obtain ⟨S0, eS0, rfl, n0, _⟩ := Kd.S_reads hR
  have NS0 := Aside0.mk n0
  have RS0 := Aside0.mk (S_iv hR)
  replace f0 := pw_cell_below hb f0
  replace f1 := pw_cell_below hb f1
  replace f2 := pw_cell_below hb f2
  replace RXS := Aside0.mk (Kd.R_below RXS.out hb)
  replace RXP := Aside0.mk (Kd.R_below RXP.out hb)
  replace HB := Aside0.mk (below_into (w := w) hb HB.out)
  have s_w5 := hb.size
  clear hb hR n0
  clear RXS RXP NXS NXP
  have HBW := HB
  have B3 := Aside0.mk (Below.refl w5.heap.size w5)
  have z_f0 := World.block_lt_of_cell? _ _ f0
  go_wp2_with fail
  refine (laws_toFrame.calls kBig A0 c0 l0 d c m0 d c _ (Kd.C_below H0.out HB.out) C0.out TF.out).mono ?_
  rintro x w6 ⟨u0, rfl, hR, hb⟩
  obtain ⟨X0, eX0, rfl, n0, _⟩ := Kd.R_reads hR
  have NX0 := Aside0.mk n0
  have RX0 := Aside0.mk (R_iv hR)
  replace f0 := pw_cell_below hb f0
  replace f1 := pw_cell_below hb f1
  replace f2 := pw_cell_below hb f2
  replace RS0 := Aside0.mk (Kd.S_below RS0.out hb)
  replace HB := Aside0.mk (below_into (w := w) hb HB.out)
  replace B3 := Aside0.mk (below_into (w := w5) hb B3.out)
  have s_w6 := hb.size
  clear hb hR n0
  have zz_f0 := World.block_lt_of_cell? _ _ f0
  go_wp2_with fail
  have y0 : (w6.alloc (.cells #[.slice X0 m0.length eX0, .int .i64 d, .int .i64 c] 26)).cell? ⟨w6.heap.size, 0, none⟩ = some (.slice X0 m0.length eX0) := by go_simp
  have y1 : (w6.alloc (.cells #[.slice X0 m0.length eX0, .int .i64 d, .int .i64 c] 26)).cell? ⟨w6.heap.size, 1, none⟩ = some (.int .i64 d) := by go_simp
  have y2 : (w6.alloc (.cells #[.slice X0 m0.length eX0, .int .i64 d, .int .i64 c] 26)).cell? ⟨w6.heap.size, 2, none⟩ = some (.int .i64 c) := by go_simp
  have hb := below_alloc (Below.refl w6.heap.size w6) (.cells #[.slice X0 m0.length eX0, .int .i64 d, .int .i64 c] 26)
  replace f0 := pw_cell_below hb f0
  replace f1 := pw_cell_below hb f1
  replace f2 := pw_cell_below hb f2
  replace RS0 := Aside0.mk (Kd.S_below RS0.out hb)
  replace RX0 := Aside0.mk (Kd.R_below RX0.out hb)
  replace HB := Aside0.mk (below_into (w := w) hb HB.out)
  replace B3 := Aside0.mk (below_into (w := w5) hb B3.out)
  have s_w7 : w6.heap.size < (w6.alloc (.cells #[.slice X0 m0.length eX0, .int .i64 d, .int .i64 c] 26)).heap.size := by simp
  clear hb
  generalize w6.alloc (.cells #[.slice X0 m0.length eX0, .int .i64 d, .int .i64 c] 26) = w7 at *
  have z_y0 := World.block_lt_of_cell? _ _ y0
  refine (laws_toPeriodS.calls kBig A1 c1 l1 m1 _ (Kd.C_below H1.out HB.out) C1.out TL.out).mono ?_
  rintro x w8 ⟨u0, rfl, hR, hb⟩
  obtain ⟨X1, eX1, rfl, n0, _⟩ := Kd.R_reads hR
  have NX1 := Aside0.mk n0
  have RX1 := Aside0.mk (Kd.R_lower (R_iv hR) (show w5.heap.size ≤ _ by omega))
  replace f0 := pw_cell_below hb f0
  replace f1 := pw_cell_below hb f1
  replace f2 := pw_cell_below hb f2
  replace y0 := pw_cell_below hb y0
  replace y1 := pw_cell_below hb y1
  replace y2 := pw_cell_below hb y2
  replace RS0 := Aside0.mk (Kd.S_below RS0.out hb)
  replace RX0 := Aside0.mk (Kd.R_below RX0.out hb)
  replace HB := Aside0.mk (below_into (w := w) hb HB.out)
  replace B3 := Aside0.mk (below_into (w := w5) hb B3.out)
  have s_w8 := hb.size
  clear hb hR n0
  go_wp2_with fail
  refine (impl_Spread.calls kBig X0 eX0 m0 d c t fr tt dim X1 eX1 m1 r0 _ ((Kd.R_reads' RX0.out).2.2) NX0.out ((Kd.R_reads' RX1.out).2.2) NX1.out IT.out).mono ?_
  rintro x w9 ⟨vs, rfl, hR, hb⟩
  obtain ⟨G0, eG0, rfl, n0, _⟩ := Kd.S_reads hR
  have NG0 := Aside0.mk n0
  have RG0 := Aside0.mk (Kd.S_lower (S_iv hR) (show w5.heap.size ≤ _ by omega))
  replace f0 := pw_cell_below hb f0
  replace f1 := pw_cell_below hb f1
  replace f2 := pw_cell_below hb f2
  replace y0 := pw_cell_below hb y0
  replace y1 := pw_cell_below hb y1
  replace y2 := pw_cell_below hb y2
  replace RS0 := Aside0.mk (Kd.S_below RS0.out hb)
  replace RX0 := Aside0.mk (Kd.R_below RX0.out hb)
  replace RX1 := Aside0.mk (Kd.R_below RX1.out hb)
  replace HB := Aside0.mk (below_into (w := w) hb HB.out)
  replace B3 := Aside0.mk (below_into (w := w5) hb B3.out)
  have s_w9 := hb.size
  clear hb hR n0
  go_wp2_with fail
  refine (laws_eqEntryS.calls G0 eG0 r0 S0 eS0 r0 _ ((Kd.S_reads' RG0.out).2.2) ((Kd.S_reads' RS0.out).2.2)).mono ?_
  rintro x w10 ⟨rfl, hb⟩
  replace f0 := pw_cell_below hb f0
  replace f1 := pw_cell_below hb f1
  replace f2 := pw_cell_below hb f2
  replace y0 := pw_cell_below hb y0
  replace y1 := pw_cell_below hb y1
  replace y2 := pw_cell_below hb y2
  replace RS0 := Aside0.mk (Kd.S_below RS0.out hb)
  replace RX0 := Aside0.mk (Kd.R_below RX0.out hb)
  replace RX1 := Aside0.mk (Kd.R_below RX1.out hb)
  replace RG0 := Aside0.mk (Kd.S_below RG0.out hb)
  replace HB := Aside0.mk (below_into (w := w) hb HB.out)
  replace B3 := Aside0.mk (below_into (w := w5) hb B3.out)
  have s_w10 := hb.size
  clear hb
  rw [← same_true rfl]
  go_wp2_with fail
  have HV := Aside0.mk (Below.refl w10.heap.size w10)
  go_region_held3 (fun w' => w'.cell? ⟨w.heap.size, 0, none⟩ = some (.slice A0 l0.length c0) ∧ w'.cell? ⟨w.heap.size, 1, none⟩ = some (.int .i64 d) ∧ w'.cell? ⟨w.heap.size, 2, none⟩ = some (.int .i64 c) ∧ w'.cell? ⟨w6.heap.size, 0, none⟩ = some (.slice X0 m0.length eX0) ∧ w'.cell? ⟨w6.heap.size, 1, none⟩ = some (.int .i64 d) ∧ w'.cell? ⟨w6.heap.size, 2, none⟩ = some (.int .i64 c)) ((first | go_keep | exact ⟨pw_cell_below hb (by assumption), pw_cell_below hb (by assumption), pw_cell_below hb (by assumption), pw_cell_below hb (by assumption), pw_cell_below hb (by assumption), pw_cell_below hb (by assumption)⟩ | (have hH := ‹_ ∧ _›; obtain ⟨t0, t1, t2, t3, t4, t5⟩ := hH; exact ⟨pw_cell_below hb t0, pw_cell_below hb t1, pw_cell_below hb t2, pw_cell_below hb t3, pw_cell_below hb t4, pw_cell_below hb t5⟩)))
    ((first | (go_at_call 37; refine (laws_toFrame.calls kBig A0 c0 l0 d c m0 d c _ (Kd.C_below H0.out (by repeat (first | exact HB.out | refine below_drew1 ?_ | refine pw_below_drewN ?_ _))) C0.out TF.out).mono ?_; rintro x wA ⟨v0, rfl, hR, hb⟩; obtain ⟨P, q, rfl, n0, g0⟩ := Kd.R_reads hR; have KKq := Aside0.mk g0; have HVAq := Aside0.mk (below_into (w := w10) hb (by repeat (first | exact HV.out | refine below_drew1 ?_ | refine pw_below_drewN ?_ _))); clear hR g0 n0) | (go_at_call 41; refine (laws_eqFrame.calls X0 eX0 m0 d c P q m0 d c _ (Kd.C_below ((Kd.R_reads' RX0.out).2.2) (by repeat (first | exact HV.out | exact HVAq.out | refine below_drew1 ?_ | refine pw_below_drewN ?_ _))) (Kd.C_below KKq.out (by repeat (first | exact Below.refl _ _ | refine below_drew1 ?_ | refine pw_below_drewN ?_ _)))).mono ?_; rintro x w11 ⟨rfl, hb⟩; have HVE := Aside0.mk (below_into (w := w10) hb (by repeat (first | exact HV.out | exact HVAq.out | refine below_drew1 ?_ | refine pw_below_drewN ?_ _))))))
  clear f0 f1 f2 y0 y1 y2
  have hH := ‹_ ∧ _›
  obtain ⟨f0, f1, f2, y0, y1, y2⟩ := hH
  have hb := HVE.out
  replace RS0 := Aside0.mk (Kd.S_below RS0.out hb)
  replace RX0 := Aside0.mk (Kd.R_below RX0.out hb)
  replace RX1 := Aside0.mk (Kd.R_below RX1.out hb)
  replace RG0 := Aside0.mk (Kd.S_below RG0.out hb)
  replace HB := Aside0.mk (below_into (w := w) hb HB.out)
  replace B3 := Aside0.mk (below_into (w := w5) hb B3.out)
  have s_w11 := hb.size
  clear hb HV
  rw [← same_true rfl]
  go_wp2_with fail
  refine (laws_toPeriodS.calls kBig A1 c1 l1 m1 _ (Kd.C_below H1.out HB.out) C1.out TL.out).mono ?_
  rintro x w12 ⟨u0, rfl, hR, hb⟩
  obtain ⟨X2, eX2, rfl, n0, _⟩ := Kd.R_reads hR
  have NX2 := Aside0.mk n0
  have RX2 := Aside0.mk hR
  replace f0 := pw_cell_below hb f0
  replace f1 := pw_cell_below hb f1
  replace f2 := pw_cell_below hb f2
  replace y0 := pw_cell_below hb y0
  replace y1 := pw_cell_below hb y1
  replace y2 := pw_cell_below hb y2
  replace RS0 := Aside0.mk (Kd.S_below RS0.out hb)
  replace RX0 := Aside0.mk (Kd.R_below RX0.out hb)
  replace RX1 := Aside0.mk (Kd.R_below RX1.out hb)
  replace RG0 := Aside0.mk (Kd.S_below RG0.out hb)
  replace HB := Aside0.mk (below_into (w := w) hb HB.out)
  replace B3 := Aside0.mk (below_into (w := w5) hb B3.out)
  have s_w12 := hb.size
  clear hb hR n0
  go_wp2_with fail
  refine (laws_eqPeriodS.calls X1 eX1 m1 X2 eX2 m1 _ ((Kd.R_reads' RX1.out).2.2) ((Kd.R_reads' RX2.out).2.2)).mono ?_
  rintro x w13 ⟨rfl, hb⟩
  replace f0 := pw_cell_below hb f0
  replace f1 := pw_cell_below hb f1
  replace f2 := pw_cell_below hb f2
  replace y0 := pw_cell_below hb y0
  replace y1 := pw_cell_below hb y1
  replace y2 := pw_cell_below hb y2
  replace RS0 := Aside0.mk (Kd.S_below RS0.out hb)
  replace RX0 := Aside0.mk (Kd.R_below RX0.out hb)
  replace RX1 := Aside0.mk (Kd.R_below RX1.out hb)
  replace RG0 := Aside0.mk (Kd.S_below RG0.out hb)
  replace HB := Aside0.mk (below_into (w := w) hb HB.out)
  replace B3 := Aside0.mk (below_into (w := w5) hb B3.out)
  have s_w13 := hb.size
  clear hb RX2 NX2
  rw [← same_true rfl]
  go_wp2_with fail
  refine (laws_markFrame.calls kBig (Iv w5.heap.size w6.heap.size) (.slice X0 m0.length eX0) m0 d c 1 _ _ w5 _ B3.out RX0.out (laws_markFrame_is m0 d c kBig 1 (Nat.lt_of_lt_of_le (by have := ML0.out; omega) kBig_le) ML0.out (by omega) (by omega))).mono ?_
  rintro x w14 ⟨rfl, hR, hB3, hK⟩
  replace f0 := cell_iv_kept f0 hK (by first | exact Or.inl (show w.heap.size < w5.heap.size by omega) | exact Or.inr (show w6.heap.size ≤ w.heap.size by omega))
  replace f1 := cell_iv_kept f1 hK (by first | exact Or.inl (show w.heap.size < w5.heap.size by omega) | exact Or.inr (show w6.heap.size ≤ w.heap.size by omega))
  replace f2 := cell_iv_kept f2 hK (by first | exact Or.inl (show w.heap.size < w5.heap.size by omega) | exact Or.inr (show w6.heap.size ≤ w.heap.size by omega))
  replace y0 := cell_iv_kept y0 hK (by first | exact Or.inl (show w6.heap.size < w5.heap.size by omega) | exact Or.inr (show w6.heap.size ≤ w6.heap.size by omega))
  replace y1 := cell_iv_kept y1 hK (by first | exact Or.inl (show w6.heap.size < w5.heap.size by omega) | exact Or.inr (show w6.heap.size ≤ w6.heap.size by omega))
  replace y2 := cell_iv_kept y2 hK (by first | exact Or.inl (show w6.heap.size < w5.heap.size by omega) | exact Or.inr (show w6.heap.size ≤ w6.heap.size by omega))
  replace RS0 := Aside0.mk (S_iv_kept RS0.out hK (by omega))
  replace RX1 := Aside0.mk (R_iv_kept RX1.out hK (by omega))
  replace RG0 := Aside0.mk (S_iv_kept RG0.out hK (by omega))
  replace B3 := Aside0.mk hB3
  replace HB := Aside0.mk (below_into (w := w) hB3 HBW.out)
  have s_w14 := hK.1
  clear hR hB3 hK RX0
  have nb0 := nAcc_b m0 1
  have nl := ML0.out
  generalize nAll nAcc 1 m0 = K0 at *
  replace nb0 : 1 ≤ K0 ∧ K0 ≤ 4000000 := by omega
  clear nl
  go_wp2_with fail
  refine (laws_markPeriodS.calls kBig (Iv w7.heap.size w8.heap.size) (.slice X1 m1.length eX1) m1 K0 _ _ w5 _ B3.out RX1.out (laws_markPeriodS_is m1 kBig K0 (Nat.lt_of_lt_of_le (by have := ML1.out; omega) kBig_le) ML1.out (by omega) (by omega))).mono ?_
  rintro x w15 ⟨rfl, hR, hB3, hK⟩
  replace f0 := cell_iv_kept f0 hK (by first | exact Or.inl (show w.heap.size < w7.heap.size by omega) | exact Or.inr (show w8.heap.size ≤ w.heap.size by omega))
  replace f1 := cell_iv_kept f1 hK (by first | exact Or.inl (show w.heap.size < w7.heap.size by omega) | exact Or.inr (show w8.heap.size ≤ w.heap.size by omega))
  replace f2 := cell_iv_kept f2 hK (by first | exact Or.inl (show w.heap.size < w7.heap.size by omega) | exact Or.inr (show w8.heap.size ≤ w.heap.size by omega))
  replace y0 := cell_iv_kept y0 hK (by first | exact Or.inl (show w6.heap.size < w7.heap.size by omega) | exact Or.inr (show w8.heap.size ≤ w6.heap.size by omega))
  replace y1 := cell_iv_kept y1 hK (by first | exact Or.inl (show w6.heap.size < w7.heap.size by omega) | exact Or.inr (show w8.heap.size ≤ w6.heap.size by omega))
  replace y2 := cell_iv_kept y2 hK (by first | exact Or.inl (show w6.heap.size < w7.heap.size by omega) | exact Or.inr (show w8.heap.size ≤ w6.heap.size by omega))
  replace RS0 := Aside0.mk (S_iv_kept RS0.out hK (by omega))
  replace RG0 := Aside0.mk (S_iv_kept RG0.out hK (by omega))
  replace B3 := Aside0.mk hB3
  replace HB := Aside0.mk (below_into (w := w) hB3 HBW.out)
  have s_w15 := hK.1
  clear hR hB3 hK RX1
  have nb1 := nPer_b m1 K0
  have nl := ML1.out
  generalize nAll nPer K0 m1 = K1 at *
  replace nb1 : 1 ≤ K1 ∧ K1 ≤ 8000000 := by omega
  clear nl
  have nb_ : decide (K1 < 0) = false := decide_eq_false (by omega)
  go_wp2_with fail
  refine (laws_eqEntryS.calls G0 eG0 r0 S0 eS0 r0 _ ((Kd.S_reads' RG0.out).2.2) ((Kd.S_reads' RS0.out).2.2)).mono ?_
  rintro x w16 ⟨rfl, hb⟩
  replace f0 := pw_cell_below hb f0
  replace f1 := pw_cell_below hb f1
  replace f2 := pw_cell_below hb f2
  replace y0 := pw_cell_below hb y0
  replace y1 := pw_cell_below hb y1
  replace y2 := pw_cell_below hb y2
  replace RS0 := Aside0.mk (Kd.S_below RS0.out hb)
  replace RG0 := Aside0.mk (Kd.S_below RG0.out hb)
  replace HB := Aside0.mk (below_into (w := w) hb HB.out)
  replace B3 := Aside0.mk (below_into (w := w5) hb B3.out)
  have s_w16 := hb.size
  clear hb
  rw [← same_true rfl]
  clear nb_
  go_wp2_with fail
  refine (laws_markEntryS.to (Iv w8.heap.size w9.heap.size) G0 eG0 r0 1 w5 _ B3.out RG0.out (by omega) (by omega) RL.out.1 RL.out.2).mono ?_
  rintro x w17 ⟨rfl, hR, hB3, hK⟩
  have RM0 := Aside0.mk hR
  replace f0 := cell_iv_kept f0 hK (by first | exact Or.inl (show w.heap.size < w8.heap.size by omega) | exact Or.inr (show w9.heap.size ≤ w.heap.size by omega))
  replace f1 := cell_iv_kept f1 hK (by first | exact Or.inl (show w.heap.size < w8.heap.size by omega) | exact Or.inr (show w9.heap.size ≤ w.heap.size by omega))
  replace f2 := cell_iv_kept f2 hK (by first | exact Or.inl (show w.heap.size < w8.heap.size by omega) | exact Or.inr (show w9.heap.size ≤ w.heap.size by omega))
  replace y0 := cell_iv_kept y0 hK (by first | exact Or.inl (show w6.heap.size < w8.heap.size by omega) | exact Or.inr (show w9.heap.size ≤ w6.heap.size by omega))
  replace y1 := cell_iv_kept y1 hK (by first | exact Or.inl (show w6.heap.size < w8.heap.size by omega) | exact Or.inr (show w9.heap.size ≤ w6.heap.size by omega))
  replace y2 := cell_iv_kept y2 hK (by first | exact Or.inl (show w6.heap.size < w8.heap.size by omega) | exact Or.inr (show w9.heap.size ≤ w6.heap.size by omega))
  replace RS0 := Aside0.mk (S_iv_kept RS0.out hK (by omega))
  replace B3 := Aside0.mk hB3
  replace HB := Aside0.mk (below_into (w := w) hB3 HBW.out)
  have s_w17 := hK.1
  clear hR hB3 hK RG0
  have nb := nEnt_b r0 RL.out.2 1
  have nl := RL.out.1
  have HLD := Aside0.mk (fun (W : World) (hC : Kd.C k34 W G0 r0.length (mAll mEnt nEnt 1 r0)) => laws_heldEntryS.to G0 eG0 r0 1 W hC (by omega) (by omega) RL.out.1 RL.out.2)
  have NM := Aside0.mk (mAll_length mEnt nEnt r0 1)
  generalize nAll nEnt 1 r0 = Q at *
  generalize mAll mEnt nEnt 1 r0 = M0 at *
  have nq : decide (Q < 0) = false := decide_eq_false (by omega)
  clear nl nb
  go_wp2_with fail
  refine (HLD.out _ (by have hC := (Kd.S_reads' RM0.out).2.2; rw [NM.out] at hC; exact hC)).mono ?_
  rintro x w18 ⟨rfl, hb⟩
  replace f0 := pw_cell_below hb f0
  replace f1 := pw_cell_below hb f1
  replace f2 := pw_cell_below hb f2
  replace y0 := pw_cell_below hb y0
  replace y1 := pw_cell_below hb y1
  replace y2 := pw_cell_below hb y2
  replace RS0 := Aside0.mk (Kd.S_below RS0.out hb)
  replace RM0 := Aside0.mk (Kd.S_below RM0.out hb)
  replace HB := Aside0.mk (below_into (w := w) hb HB.out)
  replace B3 := Aside0.mk (below_into (w := w5) hb B3.out)
  have s_w18 := hb.size
  clear hb
  go_wp2_with fail
  refine (laws_toFrame.calls kBig A0 c0 l0 d c m0 d c _ (Kd.C_below H0.out HB.out) C0.out TF.out).mono ?_
  rintro x w19 ⟨u0, rfl, hR, hb⟩
  obtain ⟨Y0, eY0, rfl, n0, _⟩ := Kd.R_reads hR
  have NY0 := Aside0.mk n0
  have RY0 := Aside0.mk hR
  replace f0 := pw_cell_below hb f0
  replace f1 := pw_cell_below hb f1
  replace f2 := pw_cell_below hb f2
  replace y0 := pw_cell_below hb y0
  replace y1 := pw_cell_below hb y1
  replace y2 := pw_cell_below hb y2
  replace RS0 := Aside0.mk (Kd.S_below RS0.out hb)
  replace RM0 := Aside0.mk (Kd.S_below RM0.out hb)
  replace HB := Aside0.mk (below_into (w := w) hb HB.out)
  replace B3 := Aside0.mk (below_into (w := w5) hb B3.out)
  have s_w19 := hb.size
  clear hb hR n0
  go_wp2_with fail
  refine (laws_toPeriodS.calls kBig A1 c1 l1 m1 _ (Kd.C_below H1.out HB.out) C1.out TL.out).mono ?_
  rintro x w20 ⟨u0, rfl, hR, hb⟩
  obtain ⟨Y1, eY1, rfl, n0, _⟩ := Kd.R_reads hR
  have NY1 := Aside0.mk n0
  have RY1 := Aside0.mk hR
  replace f0 := pw_cell_below hb f0
  replace f1 := pw_cell_below hb f1
  replace f2 := pw_cell_below hb f2
  replace y0 := pw_cell_below hb y0
  replace y1 := pw_cell_below hb y1
  replace y2 := pw_cell_below hb y2
  replace RS0 := Aside0.mk (Kd.S_below RS0.out hb)
  replace RM0 := Aside0.mk (Kd.S_below RM0.out hb)
  replace RY0 := Aside0.mk (Kd.R_below RY0.out hb)
  replace HB := Aside0.mk (below_into (w := w) hb HB.out)
  replace B3 := Aside0.mk (below_into (w := w5) hb B3.out)
  have s_w20 := hb.size
  clear hb hR n0
  go_wp2_with fail
  refine (impl_Spread.calls kBig Y0 eY0 m0 d c t fr tt dim Y1 eY1 m1 r0 _ ((Kd.R_reads' RY0.out).2.2) NY0.out ((Kd.R_reads' RY1.out).2.2) NY1.out IT.out).mono ?_
  rintro x w21 ⟨vs, rfl, hR, hb⟩
  obtain ⟨H0_, eH0_, rfl, n0, _⟩ := Kd.S_reads hR
  have NH0_ := Aside0.mk n0
  have RH0_ := Aside0.mk hR
  replace f0 := pw_cell_below hb f0
  replace f1 := pw_cell_below hb f1
  replace f2 := pw_cell_below hb f2
  replace y0 := pw_cell_below hb y0
  replace y1 := pw_cell_below hb y1
  replace y2 := pw_cell_below hb y2
  replace RS0 := Aside0.mk (Kd.S_below RS0.out hb)
  replace RM0 := Aside0.mk (Kd.S_below RM0.out hb)
  replace RY0 := Aside0.mk (Kd.R_below RY0.out hb)
  replace RY1 := Aside0.mk (Kd.R_below RY1.out hb)
  replace HB := Aside0.mk (below_into (w := w) hb HB.out)
  replace B3 := Aside0.mk (below_into (w := w5) hb B3.out)
  have s_w21 := hb.size
  clear hb hR n0
  clear RY0 RY1 NY0 NY1
  go_wp2_with fail
  refine (laws_eqEntryS.calls H0_ eH0_ r0 S0 eS0 r0 _ ((Kd.S_reads' RH0_.out).2.2) ((Kd.S_reads' RS0.out).2.2)).mono ?_
  rintro x w22 ⟨rfl, hb⟩
  replace f0 := pw_cell_below hb f0
  replace f1 := pw_cell_below hb f1
  replace f2 := pw_cell_below hb f2
  replace y0 := pw_cell_below hb y0
  replace y1 := pw_cell_below hb y1
  replace y2 := pw_cell_below hb y2
  replace RS0 := Aside0.mk (Kd.S_below RS0.out hb)
  replace RM0 := Aside0.mk (Kd.S_below RM0.out hb)
  replace RH0_ := Aside0.mk (Kd.S_below RH0_.out hb)
  replace HB := Aside0.mk (below_into (w := w) hb HB.out)
  replace B3 := Aside0.mk (below_into (w := w5) hb B3.out)
  have s_w22 := hb.size
  clear hb
  rw [← same_true rfl]
  go_wp2_with fail
  refine (HLD.out _ (by have hC := (Kd.S_reads' RM0.out).2.2; rw [NM.out] at hC; exact hC)).mono ?_
  rintro x w23 ⟨rfl, hb⟩
  replace f0 := pw_cell_below hb f0
  replace f1 := pw_cell_below hb f1
  replace f2 := pw_cell_below hb f2
  replace y0 := pw_cell_below hb y0
  replace y1 := pw_cell_below hb y1
  replace y2 := pw_cell_below hb y2
  replace RS0 := Aside0.mk (Kd.S_below RS0.out hb)
  replace RM0 := Aside0.mk (Kd.S_below RM0.out hb)
  replace RH0_ := Aside0.mk (Kd.S_below RH0_.out hb)
  replace HB := Aside0.mk (below_into (w := w) hb HB.out)
  replace B3 := Aside0.mk (below_into (w := w5) hb B3.out)
  have s_w23 := hb.size
  clear hb
  go_wp2_with fail
  go_ret
  exact ⟨rfl, HB.out⟩
end Go.Proofs.Ytphmnkcfjgallaa.Q
