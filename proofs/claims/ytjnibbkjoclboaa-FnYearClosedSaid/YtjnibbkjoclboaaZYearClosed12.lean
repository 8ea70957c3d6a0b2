/- Parts of the proof: what functions of the program and of the reference answer.
   No condition. -/
import Derived.Test.YtjnibbkjoclboaaZYearClosed1
import Derived.Test.YtjnibbkjoclboaaZYearClosed3
import Derived.Test.YtjnibbkjoclboaaZYearClosed8
import Derived.Test.YtjnibbkjoclboaaZYearClosed9
namespace Go.Proofs.Ytjnibbkjoclboaa.Q
open Go.RowKit Go.Proofs.YtjnibbkjoclboaaW.PrintWords Go.Proofs.YtjnibbkjoclboaaW.PrintLast Go.Proofs.YtjnibbkjoclboaaW.PrintMore
set_option linter.unusedVariables false
set_option linter.unusedSimpArgs false
set_option maxHeartbeats 32000000 in
set_option maxRecDepth 100000 in
theorem impl_Balance.to (A : Option Addr) (cc : Nat) (es : List Ent) (h a d c fr tt : Int) (w : World) (hr : Kd.C k37 w A es.length es) (hn : es.length ≤ 1000) (hf : ∀ e ∈ es, entFine e) :
    Calls Try.prog 9 #[.agg #[.slice A es.length cc, .int .i64 h], .int .i64 a, .int .i64 d, .int .i64 c, .int .i64 fr, .int .i64 tt] w fun e w' => e = .returned (.tuple #[.int .i64 (amtV a d c fr tt es), .int .i64 (basV a d c fr tt es)]) ∧ Below w.heap.size w w' := by
  have HR := Aside0.mk hr
  have HF := Aside0.mk hf
  obtain ⟨PT, hPT⟩ : ∃ t, t = amtV a d c fr tt es := ⟨_, rfl⟩
  obtain ⟨QT, hQT⟩ : ∃ t, t = basV a d c fr tt es := ⟨_, rfl⟩
  rw [← hPT, ← hQT]
  have HB := Aside0.mk (below_alloc (Below.refl w.heap.size w) (.cells #[.slice A es.length cc, .int .i64 h] 29))
  have HPQ := Aside0.mk (And.intro hPT hQT)
  have BPT := amtV_b a d c fr tt es hf
  have BQT := basV_b a d c fr tt es hf
  rw [← hPT] at BPT
  rw [← hQT] at BQT
  clear hr hf hPT hQT
  go_enter Try.func9, Try.ntmps9
  go_wp2_with fail
  go_loopw [27, 14, 15] (fun v vp vq wr => ∃ i p q : Int, 0 ≤ i ∧ i ≤ (es.length : Int) ∧ v = .int .i64 i ∧ vp = .int .i64 p ∧ vq = .int .i64 q ∧ Aside0 (Below w.heap.size w wr) ∧ Aside0 (p + amtV a d c fr tt (es.drop i.toNat) = PT ∧ q + basV a d c fr tt (es.drop i.toNat) = QT) ∧ Aside0 (wr.cell? ⟨w.heap.size, 0, none⟩ = some (.slice A es.length cc))) (fun v _ _ _ => (es.length - (intOf v).toNat))
  case atStart => exact ⟨0, 0, 0, by omega, by omega, rfl, rfl, rfl, HB, ⟨by rw [HPQ.out.1, HPQ.out.2]; simp⟩, ⟨by go_simp⟩⟩
  case round =>
    clear HB
    obtain ⟨i, p, q, hi0, hi1, rfl, rfl, rfl, HB, HI, HF0⟩ := hrel
    have f0 := HF0.out
    have zz := World.block_lt_of_cell? _ _ f0
    by_cases hlt : i < (es.length : Int)
    case neg =>
      go_wp2_with fail
      go_ret2
      exact ⟨ret_ii (by have := HI.out.1; rw [List.drop_of_length_le (by omega)] at this; simpa [amtV] using this) (by have := HI.out.2; rw [List.drop_of_length_le (by omega)] at this; simpa [basV] using this), HB.out⟩
    obtain ⟨ad, A3, c3, e0, x0, x1, x2, x3, x4, x5⟩ := at_T37 HR.out i hi0 hlt
    cases e0
    replace x0 := pw_cell_below HB.out x0
    replace x1 := pw_cell_below HB.out x1
    replace x2 := pw_cell_below HB.out x2
    replace x3 := pw_cell_below HB.out x3
    have X5 := Aside0.mk x5
    have hfe : entFine (rd_T37 es i) := all_at (z := z37) (p := entFine) hi0 hlt HF.out
    have hl3 : (rd_T37 es i).f3.length ≤ 60 := hfe.1
    have HLF := Aside0.mk (show ∀ x ∈ (rd_T37 es i).f3, lineFine x from hfe.2)
    have HD := Aside0.mk (drop_at (l := es) (z := z37) hi0 hlt)
    have HFD := Aside0.mk (show ∀ e ∈ es.drop (i + 1).toNat, entFine e from fun e he => HF.out e (List.mem_of_mem_drop he))
    have hdl : (es.drop (i + 1).toNat).length ≤ 1000 := by rw [List.length_drop]; omega
    have BP := Aside0.mk (And.intro (amtV_b a d c fr tt (es.drop (i + 1).toNat) HFD.out) (basV_b a d c fr tt (es.drop (i + 1).toNat) HFD.out))
    have HE := Aside0.mk (show amtV a d c fr tt (es.drop i.toNat) = (if inB (rd_T37 es i).f0 fr tt = true then amtL a d c (rd_T37 es i).f3 else 0) + amtV a d c fr tt (es.drop (i + 1).toNat) ∧ basV a d c fr tt (es.drop i.toNat) = (if inB (rd_T37 es i).f0 fr tt = true then basL a d c (rd_T37 es i).f3 else 0) + basV a d c fr tt (es.drop (i + 1).toNat) from by rw [HD.out]; exact ⟨rfl, rfl⟩)
    clear x4 x5 hfe
    generalize (rd_T37 es i).f0 = day at *
    generalize (rd_T37 es i).f3 = ls at *
    have hb := below_alloc (Below.refl wr.heap.size wr) (.cells #[.int .i64 day, .int .i64 (rd_T37 es i).f1, .string (rd_T37 es i).f2, .slice A3 ls.length c3] 37)
    have HBX := Aside0.mk (below_into (w := w) hb HB.out)
    have y0 : (wr.alloc (.cells #[.int .i64 day, .int .i64 (rd_T37 es i).f1, .string (rd_T37 es i).f2, .slice A3 ls.length c3] 37)).cell? ⟨wr.heap.size, 0, none⟩ = some (.int .i64 day) := by go_simp
    have y3 : (wr.alloc (.cells #[.int .i64 day, .int .i64 (rd_T37 es i).f1, .string (rd_T37 es i).f2, .slice A3 ls.length c3] 37)).cell? ⟨wr.heap.size, 3, none⟩ = some (.slice A3 ls.length c3) := by go_simp
    have F0 := Aside0.mk (pw_cell_below hb f0)
    have Y0 := Aside0.mk y0
    have Y3 := Aside0.mk y3
    clear hb y0 y3
    go_wp2_with fail
    go_loopw [38, 14, 15] (fun v vp vq wq => ∃ j p q : Int, 0 ≤ j ∧ j ≤ (ls.length : Int) ∧ v = .int .i64 j ∧ vp = .int .i64 p ∧ vq = .int .i64 q ∧ Aside0 (Below w.heap.size w wq) ∧ Aside0 (p + (if inB day fr tt = true then amtL a d c (ls.drop j.toNat) else 0) + amtV a d c fr tt (es.drop (i + 1).toNat) = PT ∧ q + (if inB day fr tt = true then basL a d c (ls.drop j.toNat) else 0) + basV a d c fr tt (es.drop (i + 1).toNat) = QT) ∧ Aside0 (wq.cell? ⟨w.heap.size, 0, none⟩ = some (.slice (some ad) es.length cc) ∧ wq.cell? ⟨wr.heap.size, 0, none⟩ = some (.int .i64 day) ∧ wq.cell? ⟨wr.heap.size, 3, none⟩ = some (.slice A3 ls.length c3))) (fun v _ _ _ => (ls.length - (intOf v).toNat))
    case atStart => exact ⟨0, p, q, by omega, by omega, rfl, rfl, rfl, HBX, ⟨by have h1 := HI.out.1; have h2 := HI.out.2; rw [HE.out.1] at h1; rw [HE.out.2] at h2; simp only [show (0 : Int).toNat = 0 from rfl, List.drop_zero]; exact ⟨by omega, by omega⟩⟩, ⟨F0.out, Y0.out, Y3.out⟩⟩
    case round =>
      clear HB HBX F0 Y0 Y3 f0 x0 x1 x2 x3 zz HI HF0
      obtain ⟨j, p, q, hj0, hj1, rfl, rfl, rfl, HB, HI, HC⟩ := hrel
      have f0 := HC.out.1
      have y0 := HC.out.2.1
      have y3 := HC.out.2.2
      have zz := World.block_lt_of_cell? _ _ f0
      have zy := World.block_lt_of_cell? _ _ y0
      by_cases hlj : j < (ls.length : Int)
      case neg =>
        go_wp2_with fail
        go_roundw
        case rel => exact ⟨i + 1, p, q, by omega, by omega, rfl, rfl, rfl, HB, ⟨by have h1 := HI.out.1; have h2 := HI.out.2; rw [List.drop_of_length_le (by omega)] at h1 h2; simp [amtL, basL] at h1 h2; exact ⟨by omega, by omega⟩⟩, ⟨HC.out.1⟩⟩
        case measure => simp [intOf]; omega
      obtain ⟨ae, e0, u0, u1, u2, u3, u4⟩ := at_T66 (Kd.C_below X5.out HB.out) j hj0 hlj
      cases e0
      have hfl : lineFine (rd_T66 ls j) := all_at (z := z66) (p := lineFine) hj0 hlj HLF.out
      have HLD := Aside0.mk (drop_at (l := ls) (z := z66) hj0 hlj)
      have HLE := Aside0.mk (show amtL a d c (ls.drop j.toNat) = (if selL a d c (rd_T66 ls j) = true then (rd_T66 ls j).f3 else 0) + amtL a d c (ls.drop (j + 1).toNat) ∧ basL a d c (ls.drop j.toNat) = (if selL a d c (rd_T66 ls j) = true then (rd_T66 ls j).f4 else 0) + basL a d c (ls.drop (j + 1).toNat) from by rw [HLD.out]; exact ⟨rfl, rfl⟩)
      have HLL := Aside0.mk (show ∀ x ∈ ls.drop j.toNat, lineFine x from fun x hx => HLF.out x (List.mem_of_mem_drop hx))
      have hll : (ls.drop j.toNat).length ≤ 60 := by rw [List.length_drop]; omega
      have hpb : (-100000000000000000 ≤ p ∧ p ≤ 100000000000000000) ∧ (-100000000000000000 ≤ q ∧ q ≤ 100000000000000000) := by
        have t1 := amtL_b a d c _ HLL.out
        have t2 := basL_b a d c _ HLL.out
        have t3 := BP.out.1
        have t4 := BP.out.2
        have t5 := HI.out.1
        have t6 := HI.out.2
        refine ⟨⟨?_, ?_⟩, ⟨?_, ?_⟩⟩ <;> (split at t5 <;> omega)
      obtain ⟨⟨pb0, pb1⟩, ⟨qb0, qb1⟩⟩ := hpb
      have ca : inB (rd_T66 ls j).f3 (-100000000000) 100000000000 = true := inB_of hfl.1
      have cb : inB (rd_T66 ls j).f4 (-100000000000) 100000000000 = true := inB_of hfl.2
      have CA := Aside0.mk (fun W => (ca ▸ impl_amount.to (rd_T66 ls j).f3 W : Calls Try.prog 31 #[.int .i64 (rd_T66 ls j).f3] W fun e w' => e = .returned (.bool true) ∧ w' = W))
      have CB := Aside0.mk (fun W => (cb ▸ impl_amount.to (rd_T66 ls j).f4 W : Calls Try.prog 31 #[.int .i64 (rd_T66 ls j).f4] W fun e w' => e = .returned (.bool true) ∧ w' = W))
      obtain ⟨⟨b0, b1⟩, ⟨b2, b3⟩⟩ := hfl
      have HSEL := Aside0.mk (show selL a d c (rd_T66 ls j) = ((decide (a = -1) || decide (a = (rd_T66 ls j).f0)) && (decide (d = -1) || decide (d = (rd_T66 ls j).f1)) && (decide (c = -1) || decide (c = (rd_T66 ls j).f2))) from rfl)
      have o := below_alloc HB.out (.cells #[.int .i64 (rd_T66 ls j).f0, .int .i64 (rd_T66 ls j).f1, .int .i64 (rd_T66 ls j).f2, .int .i64 (rd_T66 ls j).f3, .int .i64 (rd_T66 ls j).f4] 66)
      have hb := below_alloc (Below.refl wr.heap.size wr) (.cells #[.int .i64 (rd_T66 ls j).f0, .int .i64 (rd_T66 ls j).f1, .int .i64 (rd_T66 ls j).f2, .int .i64 (rd_T66 ls j).f3, .int .i64 (rd_T66 ls j).f4] 66)
      have HCX := Aside0.mk (And.intro (pw_cell_below hb f0) (And.intro (pw_cell_below hb y0) (pw_cell_below hb y3)))
      have HBX := Aside0.mk o
      generalize (rd_T66 ls j).f0 = g0 at *
      generalize (rd_T66 ls j).f1 = g1 at *
      generalize (rd_T66 ls j).f2 = g2 at *
      generalize (rd_T66 ls j).f3 = g3 at *
      generalize (rd_T66 ls j).f4 = g4 at *
      generalize selL a d c (rd_T66 ls j) = sl at *
      clear o hb ca cb HC
      have HNO := Aside0.mk (show inB day fr tt = false ∨ sl = false → p + (if inB day fr tt = true then amtL a d c (ls.drop (j + 1).toNat) else 0) + amtV a d c fr tt (es.drop (i + 1).toNat) = PT ∧ q + (if inB day fr tt = true then basL a d c (ls.drop (j + 1).toNat) else 0) + basV a d c fr tt (es.drop (i + 1).toNat) = QT from fun hq => by
        have t5 := HI.out.1
        have t6 := HI.out.2
        rw [HLE.out.1] at t5
        rw [HLE.out.2] at t6
        rcases hq with hq | hq
        · rw [hq] at t5 t6 ⊢
          simp at t5 t6 ⊢
          exact ⟨t5, t6⟩
        · rw [hq] at t5 t6
          simp at t5 t6 ⊢
          exact ⟨t5, t6⟩)
      have HYE := Aside0.mk (show inB day fr tt = true → sl = true → (p + g3) + (if inB day fr tt = true then amtL a d c (ls.drop (j + 1).toNat) else 0) + amtV a d c fr tt (es.drop (i + 1).toNat) = PT ∧ (q + g4) + (if inB day fr tt = true then basL a d c (ls.drop (j + 1).toNat) else 0) + basV a d c fr tt (es.drop (i + 1).toNat) = QT from fun hd hq => by
        have t5 := HI.out.1
        have t6 := HI.out.2
        rw [HLE.out.1, hd, hq] at t5
        rw [HLE.out.2, hd, hq] at t6
        rw [hd]
        simp at t5 t6 ⊢
        exact ⟨by omega, by omega⟩)
      clear HI HLE HLD HLL
      by_cases hfr : fr ≤ day
      case neg =>
        have QD := Aside0.mk (show inB day fr tt = false from inB_not (fun q => hfr q.1))
        have cfr : decide (fr ≤ day) = false := decide_eq_false hfr
        clear hfr
        go_wp2_with fail
        refine (CA.out _).mono ?_
        rintro x w' ⟨rfl, rfl⟩
        go_wp2_with fail
        refine (CB.out _).mono ?_
        rintro x w' ⟨rfl, rfl⟩
        go_wp2_with fail
        go_roundw
        case rel => exact ⟨j + 1, p, q, by omega, by omega, rfl, rfl, rfl, HBX, ⟨HNO.out (.inl QD.out)⟩, HCX⟩
        case measure => simp [intOf]; omega
      by_cases htt : day ≤ tt
      case neg =>
        have QD := Aside0.mk (show inB day fr tt = false from inB_not (fun q => htt q.2))
        have cfr : decide (fr ≤ day) = true := decide_eq_true hfr
        have ctt : decide (day ≤ tt) = false := decide_eq_false htt
        clear hfr htt
        go_wp2_with fail
        refine (CA.out _).mono ?_
        rintro x w' ⟨rfl, rfl⟩
        go_wp2_with fail
        refine (CB.out _).mono ?_
        rintro x w' ⟨rfl, rfl⟩
        go_wp2_with fail
        go_roundw
        case rel => exact ⟨j + 1, p, q, by omega, by omega, rfl, rfl, rfl, HBX, ⟨HNO.out (.inl QD.out)⟩, HCX⟩
        case measure => simp [intOf]; omega
      case pos =>
        have QD := Aside0.mk (show inB day fr tt = true from inB_of ⟨hfr, htt⟩)
        have cfr : decide (fr ≤ day) = true := decide_eq_true hfr
        have ctt : decide (day ≤ tt) = true := decide_eq_true htt
        clear hfr htt
        by_cases m0 : a = -1
        · have K0 := Aside0.mk m0
          have k0b : (a == -1) = true := by rw [m0]; rfl
          clear m0
          by_cases m1 : d = -1
          · have K1 := Aside0.mk m1
            have k1b : (d == -1) = true := by rw [m1]; rfl
            clear m1
            by_cases m2 : c = -1
            · have K2 := Aside0.mk m2
              have k2b : (c == -1) = true := by rw [m2]; rfl
              clear m2
              go_wp2_with fail
              refine (CA.out _).mono ?_
              rintro x w' ⟨rfl, rfl⟩
              go_wp2_with fail
              refine (CB.out _).mono ?_
              rintro x w' ⟨rfl, rfl⟩
              go_wp2_with fail
              go_roundw
              case rel => exact ⟨j + 1, p + g3, q + g4, by omega, by omega, rfl, rfl, rfl, HBX, ⟨HYE.out QD.out (by rw [HSEL.out]; simp [K0.out, K1.out, K2.out])⟩, HCX⟩
              case measure => simp [intOf]; omega
            · have k2b : (c == -1) = false := beq_eq_false_iff_ne.2 m2
              by_cases mm2 : c = g2
              · have K2 := Aside0.mk mm2
                have k2c : (c == g2) = true := by rw [mm2]; exact beq_self_eq_true' _
                clear mm2 m2
                go_wp2_with fail
                refine (CA.out _).mono ?_
                rintro x w' ⟨rfl, rfl⟩
                go_wp2_with fail
                refine (CB.out _).mono ?_
                rintro x w' ⟨rfl, rfl⟩
                go_wp2_with fail
                go_roundw
                case rel => exact ⟨j + 1, p + g3, q + g4, by omega, by omega, rfl, rfl, rfl, HBX, ⟨HYE.out QD.out (by rw [HSEL.out]; simp [K0.out, K1.out, K2.out])⟩, HCX⟩
                case measure => simp [intOf]; omega
              · have K2 := Aside0.mk mm2
                have KK2 := Aside0.mk m2
                have k2c : (c == g2) = false := beq_eq_false_iff_ne.2 mm2
                clear mm2 m2
                go_wp2_with fail
                refine (CA.out _).mono ?_
                rintro x w' ⟨rfl, rfl⟩
                go_wp2_with fail
                refine (CB.out _).mono ?_
                rintro x w' ⟨rfl, rfl⟩
                go_wp2_with fail
                go_roundw
                case rel => exact ⟨j + 1, p, q, by omega, by omega, rfl, rfl, rfl, HBX, ⟨HNO.out (.inr (by rw [HSEL.out]; simp [K2.out, KK2.out]))⟩, HCX⟩
                case measure => simp [intOf]; omega
          · have k1b : (d == -1) = false := beq_eq_false_iff_ne.2 m1
            by_cases mm1 : d = g1
            · have K1 := Aside0.mk mm1
              have k1c : (d == g1) = true := by rw [mm1]; exact beq_self_eq_true' _
              clear mm1 m1
              by_cases m2 : c = -1
              · have K2 := Aside0.mk m2
                have k2b : (c == -1) = true := by rw [m2]; rfl
                clear m2
                go_wp2_with fail
                refine (CA.out _).mono ?_
                rintro x w' ⟨rfl, rfl⟩
                go_wp2_with fail
                refine (CB.out _).mono ?_
                rintro x w' ⟨rfl, rfl⟩
                go_wp2_with fail
                go_roundw
                case rel => exact ⟨j + 1, p + g3, q + g4, by omega, by omega, rfl, rfl, rfl, HBX, ⟨HYE.out QD.out (by rw [HSEL.out]; simp [K0.out, K1.out, K2.out])⟩, HCX⟩
                case measure => simp [intOf]; omega
              · have k2b : (c == -1) = false := beq_eq_false_iff_ne.2 m2
                by_cases mm2 : c = g2
                · have K2 := Aside0.mk mm2
                  have k2c : (c == g2) = true := by rw [mm2]; exact beq_self_eq_true' _
                  clear mm2 m2
                  go_wp2_with fail
                  refine (CA.out _).mono ?_
                  rintro x w' ⟨rfl, rfl⟩
                  go_wp2_with fail
                  refine (CB.out _).mono ?_
                  rintro x w' ⟨rfl, rfl⟩
                  go_wp2_with fail
                  go_roundw
                  case rel => exact ⟨j + 1, p + g3, q + g4, by omega, by omega, rfl, rfl, rfl, HBX, ⟨HYE.out QD.out (by rw [HSEL.out]; simp [K0.out, K1.out, K2.out])⟩, HCX⟩
                  case measure => simp [intOf]; omega
                · have K2 := Aside0.mk mm2
                  have KK2 := Aside0.mk m2
                  have k2c : (c == g2) = false := beq_eq_false_iff_ne.2 mm2
                  clear mm2 m2
                  go_wp2_with fail
                  refine (CA.out _).mono ?_
                  rintro x w' ⟨rfl, rfl⟩
                  go_wp2_with fail
                  refine (CB.out _).mono ?_
                  rintro x w' ⟨rfl, rfl⟩
                  go_wp2_with fail
                  go_roundw
                  case rel => exact ⟨j + 1, p, q, by omega, by omega, rfl, rfl, rfl, HBX, ⟨HNO.out (.inr (by rw [HSEL.out]; simp [K2.out, KK2.out]))⟩, HCX⟩
                  case measure => simp [intOf]; omega
            · have K1 := Aside0.mk mm1
              have KK1 := Aside0.mk m1
              have k1c : (d == g1) = false := beq_eq_false_iff_ne.2 mm1
              clear mm1 m1
              go_wp2_with fail
              refine (CA.out _).mono ?_
              rintro x w' ⟨rfl, rfl⟩
              go_wp2_with fail
              refine (CB.out _).mono ?_
              rintro x w' ⟨rfl, rfl⟩
              go_wp2_with fail
              go_roundw
              case rel => exact ⟨j + 1, p, q, by omega, by omega, rfl, rfl, rfl, HBX, ⟨HNO.out (.inr (by rw [HSEL.out]; simp [K1.out, KK1.out]))⟩, HCX⟩
              case measure => simp [intOf]; omega
        · have k0b : (a == -1) = false := beq_eq_false_iff_ne.2 m0
          by_cases mm0 : a = g0
          · have K0 := Aside0.mk mm0
            have k0c : (a == g0) = true := by rw [mm0]; exact beq_self_eq_true' _
            clear mm0 m0
            by_cases m1 : d = -1
            · have K1 := Aside0.mk m1
              have k1b : (d == -1) = true := by rw [m1]; rfl
              clear m1
              by_cases m2 : c = -1
              · have K2 := Aside0.mk m2
                have k2b : (c == -1) = true := by rw [m2]; rfl
                clear m2
                go_wp2_with fail
                refine (CA.out _).mono ?_
                rintro x w' ⟨rfl, rfl⟩
                go_wp2_with fail
                refine (CB.out _).mono ?_
                rintro x w' ⟨rfl, rfl⟩
                go_wp2_with fail
                go_roundw
                case rel => exact ⟨j + 1, p + g3, q + g4, by omega, by omega, rfl, rfl, rfl, HBX, ⟨HYE.out QD.out (by rw [HSEL.out]; simp [K0.out, K1.out, K2.out])⟩, HCX⟩
                case measure => simp [intOf]; omega
              · have k2b : (c == -1) = false := beq_eq_false_iff_ne.2 m2
                by_cases mm2 : c = g2
                · have K2 := Aside0.mk mm2
                  have k2c : (c == g2) = true := by rw [mm2]; exact beq_self_eq_true' _
                  clear mm2 m2
                  go_wp2_with fail
                  refine (CA.out _).mono ?_
                  rintro x w' ⟨rfl, rfl⟩
                  go_wp2_with fail
                  refine (CB.out _).mono ?_
                  rintro x w' ⟨rfl, rfl⟩
                  go_wp2_with fail
                  go_roundw
                  case rel => exact ⟨j + 1, p + g3, q + g4, by omega, by omega, rfl, rfl, rfl, HBX, ⟨HYE.out QD.out (by rw [HSEL.out]; simp [K0.out, K1.out, K2.out])⟩, HCX⟩
                  case measure => simp [intOf]; omega
                · have K2 := Aside0.mk mm2
                  have KK2 := Aside0.mk m2
                  have k2c : (c == g2) = false := beq_eq_false_iff_ne.2 mm2
                  clear mm2 m2
                  go_wp2_with fail
                  refine (CA.out _).mono ?_
                  rintro x w' ⟨rfl, rfl⟩
                  go_wp2_with fail
                  refine (CB.out _).mono ?_
                  rintro x w' ⟨rfl, rfl⟩
                  go_wp2_with fail
                  go_roundw
                  case rel => exact ⟨j + 1, p, q, by omega, by omega, rfl, rfl, rfl, HBX, ⟨HNO.out (.inr (by rw [HSEL.out]; simp [K2.out, KK2.out]))⟩, HCX⟩
                  case measure => simp [intOf]; omega
            · have k1b : (d == -1) = false := beq_eq_false_iff_ne.2 m1
              by_cases mm1 : d = g1
              · have K1 := Aside0.mk mm1
                have k1c : (d == g1) = true := by rw [mm1]; exact beq_self_eq_true' _
                clear mm1 m1
                by_cases m2 : c = -1
                · have K2 := Aside0.mk m2
                  have k2b : (c == -1) = true := by rw [m2]; rfl
                  clear m2
                  go_wp2_with fail
                  refine (CA.out _).mono ?_
                  rintro x w' ⟨rfl, rfl⟩
                  go_wp2_with fail
                  refine (CB.out _).mono ?_
                  rintro x w' ⟨rfl, rfl⟩
                  go_wp2_with fail
                  go_roundw
                  case rel => exact ⟨j + 1, p + g3, q + g4, by omega, by omega, rfl, rfl, rfl, HBX, ⟨HYE.out QD.out (by rw [HSEL.out]; simp [K0.out, K1.out, K2.out])⟩, HCX⟩
                  case measure => simp [intOf]; omega
                · have k2b : (c == -1) = false := beq_eq_false_iff_ne.2 m2
                  by_cases mm2 : c = g2
                  · have K2 := Aside0.mk mm2
                    have k2c : (c == g2) = true := by rw [mm2]; exact beq_self_eq_true' _
                    clear mm2 m2
                    go_wp2_with fail
                    refine (CA.out _).mono ?_
                    rintro x w' ⟨rfl, rfl⟩
                    go_wp2_with fail
                    refine (CB.out _).mono ?_
                    rintro x w' ⟨rfl, rfl⟩
                    go_wp2_with fail
                    go_roundw
                    case rel => exact ⟨j + 1, p + g3, q + g4, by omega, by omega, rfl, rfl, rfl, HBX, ⟨HYE.out QD.out (by rw [HSEL.out]; simp [K0.out, K1.out, K2.out])⟩, HCX⟩
                    case measure => simp [intOf]; omega
                  · have K2 := Aside0.mk mm2
                    have KK2 := Aside0.mk m2
                    have k2c : (c == g2) = false := beq_eq_false_iff_ne.2 mm2
                    clear mm2 m2
                    go_wp2_with fail
                    refine (CA.out _).mono ?_
                    rintro x w' ⟨rfl, rfl⟩
                    go_wp2_with fail
                    refine (CB.out _).mono ?_
                    rintro x w' ⟨rfl, rfl⟩
                    go_wp2_with fail
                    go_roundw
                    case rel => exact ⟨j + 1, p, q, by omega, by omega, rfl, rfl, rfl, HBX, ⟨HNO.out (.inr (by rw [HSEL.out]; simp [K2.out, KK2.out]))⟩, HCX⟩
                    case measure => simp [intOf]; omega
              · have K1 := Aside0.mk mm1
                have KK1 := Aside0.mk m1
                have k1c : (d == g1) = false := beq_eq_false_iff_ne.2 mm1
                clear mm1 m1
                go_wp2_with fail
                refine (CA.out _).mono ?_
                rintro x w' ⟨rfl, rfl⟩
                go_wp2_with fail
                refine (CB.out _).mono ?_
                rintro x w' ⟨rfl, rfl⟩
                go_wp2_with fail
                go_roundw
                case rel => exact ⟨j + 1, p, q, by omega, by omega, rfl, rfl, rfl, HBX, ⟨HNO.out (.inr (by rw [HSEL.out]; simp [K1.out, KK1.out]))⟩, HCX⟩
                case measure => simp [intOf]; omega
          · have K0 := Aside0.mk mm0
            have KK0 := Aside0.mk m0
            have k0c : (a == g0) = false := beq_eq_false_iff_ne.2 mm0
            clear mm0 m0
            go_wp2_with fail
            refine (CA.out _).mono ?_
            rintro x w' ⟨rfl, rfl⟩
            go_wp2_with fail
            refine (CB.out _).mono ?_
            rintro x w' ⟨rfl, rfl⟩
            go_wp2_with fail
            go_roundw
            case rel => exact ⟨j + 1, p, q, by omega, by omega, rfl, rfl, rfl, HBX, ⟨HNO.out (.inr (by rw [HSEL.out]; simp [K0.out, KK0.out]))⟩, HCX⟩
            case measure => simp [intOf]; omega
end Go.Proofs.Ytjnibbkjoclboaa.Q
namespace Go.Proofs.Ytjnibbkjoclboaa.Q
open Go.RowKit Go.Proofs.YtjnibbkjoclboaaW.PrintWords Go.Proofs.YtjnibbkjoclboaaW.PrintLast Go.Proofs.YtjnibbkjoclboaaW.PrintMore
set_option linter.unusedVariables false
set_option linter.unusedSimpArgs false
section
variable {w0 w W W1 : World} {g : Nat} {c : List Int}
theorem Drew.refl (hc : Cur w0 w g c) (hb : Below w0.heap.size w0 w) : Drew w0 w w g c := ⟨hc, hb, KeepBut.refl w g none⟩
theorem Drew.size (h : Drew w0 w W g c) : w.heap.size ≤ W.heap.size := h.keep.1
theorem Drew.below (h : Drew w0 w W g c) (hb : Below W.heap.size W W1) : Drew w0 w W1 g c := ⟨h.cur.below hb, below_step h.bel hb, KeepBut.thenK h.keep (KeepBut.of_below hb g none)⟩
theorem Drew.alloc (h : Drew w0 w W g c) (o : Obj) : Drew w0 w (W.alloc o) g c := h.below (below_alloc (Below.refl _ _) o)
theorem Drew.drewN (h : Drew w0 w W g c) (m : Nat) : Drew w0 w (W.drewN m) g c := h.below (pw_below_drewN (Below.refl _ _) m)
theorem Drew.drew (h : Drew w0 w W g c) : Drew w0 w W.drew g c := h.below (below_drew (Below.refl _ _))
theorem Drew.call (h : Drew w0 w W g c) (k : Drew w0 W W1 g c) : Drew w0 w W1 g c := ⟨k.cur, k.bel, KeepBut.thenK h.keep k.keep⟩
theorem Drew.grown (h : Drew w0 w W g c) (hl : w0.heap.size ≤ w.heap.size) {row : Option Nat} (hg : W.grownBy W1 row) (hr : ∀ k, row = some k → w.heap.size ≤ k ∧ k ≠ g) : Drew w0 w W1 g c := by
  refine ⟨h.cur.grown hg (fun e => (hr g e.symm).2 rfl), pw_below_grown h.bel row h.bel.size hg (fun k hk => Nat.le_trans hl (hr k hk).1), ⟨Nat.le_trans h.keep.1 hg.size, fun i hi hne hn => ?_⟩⟩
  refine (hg.block i (Nat.lt_of_lt_of_le hi h.keep.1) (fun e => ?_)).trans (h.keep.2 i hi hne hn)
  have := (hr i e.symm).1
  omega
theorem Drew.set (h : Drew w0 w W g c) (hl : w0.heap.size ≤ w.heap.size) {p : Addr} (hp : w.heap.size ≤ p.block) (hne : p.block ≠ g) (u : Value) : Drew w0 w (W.setCell p u) g c := by
  refine ⟨h.cur.far (fun e => hne e.symm) u, h.bel.setCell (Nat.le_trans hl hp) u, ⟨by simpa using h.keep.1, fun i hi hi2 hn => ?_⟩⟩
  refine (Below.heap_setCell W p u i (by omega)).trans (h.keep.2 i hi hi2 hn)
theorem Drew.blk (h : Drew w0 w W g c) {b : Nat} {o : Obj} (hb : w.heap[b]? = some o) (hne : b ≠ g) : W.heap[b]? = some o := h.keep.blk hb hne (by simp)
theorem Drew.R {α : Type} {d : Kd α} {e base : Nat} {ok : Nat → Prop} {v : Value} {xs : List α} (h : Drew w0 w W g c) (hr : d.R e w base ok v xs) (hok : ∀ k, ok k → k ≠ g) : d.R e W base ok v xs := Kd.R_keep hr h.keep hok
end
theorem blk3 {W : World} {g t : Nat} {z0 z1 z2 : Value} (h : W.heap[g]? = some (.cells #[z0, z1, z2] t (0, 0))) (u0 u1 u2 : Value) : (((W.setCell ⟨g, 0, none⟩ u0).setCell ⟨g, 1, none⟩ u1).setCell ⟨g, 2, none⟩ u2).heap[g]? = some (.cells #[u0, u1, u2] t (0, 0)) := by
  refine blk_put (cs := #[u0, u1, z2]) ?_ 2 _ rfl
  refine blk_put (cs := #[u0, z1, z2]) ?_ 1 _ rfl
  refine blk_put (cs := #[z0, z1, z2]) ?_ 0 _ rfl
  exact h
def goodChart (l : List Acc) : Prop := l.length ≤ 10 ∧ (∀ x ∈ l, x.f0.size ≤ 100) ∧ ∀ j : Int, 0 ≤ j → j < (l.length : Int) → par l j < j
theorem goodChart_nil : goodChart [] := ⟨by simp, fun x hx => by simp at hx, fun j h0 h1 => by simp at h1; omega⟩
theorem goodChart_snoc {l : List Acc} {s : ByteArray} {p k : Int} (h : goodChart l) (hl : l.length < 10) (hs : s.size ≤ 100) (hp : p < (l.length : Int)) : goodChart (l ++ [⟨s, p, k⟩]) := by
  obtain ⟨h1, h2, h3⟩ := h
  refine ⟨by simp; omega, fun x hx => ?_, fun j j0 j1 => ?_⟩
  · rcases List.mem_append.1 hx with hx | hx
    · exact h2 x hx
    · obtain rfl := List.mem_singleton.1 hx
      exact hs
  · unfold par rd_T43
    by_cases q : j < (l.length : Int)
    · rw [List.getD_eq_getElem?_getD, List.getElem?_append_left (by omega), ← List.getD_eq_getElem?_getD]
      exact h3 j j0 q
    · simp only [List.length_append, List.length_singleton] at j1
      rw [List.getD_eq_getElem?_getD, List.getElem?_append_right (by omega), show j.toNat - l.length = 0 by omega]
      show p < j
      omega
theorem goodChart_deep {l : List Acc} (h : goodChart l) {a : Int} (ha : a < (l.length : Int)) : ∀ j : Int, 0 ≤ j → j ≤ a → par l j < j := fun j j0 j1 => h.2.2 j j0 (by omega)
end Go.Proofs.Ytjnibbkjoclboaa.Q
