/- Parts of the proof: what functions of the program and of the reference answer.
   No condition. -/
import Derived.Test.YtphmnkcfjgallaaZPosted1
import Derived.Test.YtphmnkcfjgallaaZPosted3
import Derived.Test.YtphmnkcfjgallaaZPosted8
import Derived.Test.YtphmnkcfjgallaaZPosted9
import Derived.Test.YtphmnkcfjgallaaZPosted4
namespace Go.Proofs.Ytphmnkcfjgallaa.Q
open Go.RowKit Go.Proofs.YtphmnkcfjgallaaW.PrintWords Go.Proofs.YtphmnkcfjgallaaW.PrintLast Go.Proofs.YtphmnkcfjgallaaW.PrintMore
set_option linter.unusedVariables false
set_option linter.unusedSimpArgs false
set_option maxHeartbeats 32000000 in
set_option maxRecDepth 100000 in
theorem impl_Balance.to (A : Option Addr) (cc : Nat) (es : List Ent) (h a d c fr tt : Int) (w : World) (hr : Kd.C k34 w A es.length es) (hn : es.length ≤ 1000) (hf : ∀ e ∈ es, entFine e) :
    Calls Try.prog 19 #[.agg #[.slice A es.length cc, .int .i64 h], .int .i64 a, .int .i64 d, .int .i64 c, .int .i64 fr, .int .i64 tt] w fun e w' => e = .returned (.tuple #[.int .i64 (amtV a d c fr tt es), .int .i64 (basV a d c fr tt es)]) ∧ Below w.heap.size w w' := by
  have HR := Aside0.mk hr
  have HF := Aside0.mk hf
  obtain ⟨PT, hPT⟩ : ∃ t, t = amtV a d c fr tt es := ⟨_, rfl⟩
  obtain ⟨QT, hQT⟩ : ∃ t, t = basV a d c fr tt es := ⟨_, rfl⟩
  rw [← hPT, ← hQT]
  have HB := Aside0.mk (below_alloc (Below.refl w.heap.size w) (.cells #[.slice A es.length cc, .int .i64 h] 29))
  have HPQ := Aside0.mk (And.intro hPT hQT)
  have BPT := amtV_b a d c fr tt es hf
  have BQT := basV_b a d c fr tt es hf
  rw [← hPT] at BPT
  rw [← hQT] at BQT
  clear hr hf hPT hQT
  go_enter Try.func19, Try.ntmps19
  go_wp2_with fail
  go_loopw [27, 14, 15] (fun v vp vq wr => ∃ i p q : Int, 0 ≤ i ∧ i ≤ (es.length : Int) ∧ v = .int .i64 i ∧ vp = .int .i64 p ∧ vq = .int .i64 q ∧ Aside0 (Below w.heap.size w wr) ∧ Aside0 (p + amtV a d c fr tt (es.drop i.toNat) = PT ∧ q + basV a d c fr tt (es.drop i.toNat) = QT) ∧ Aside0 (wr.cell? ⟨w.heap.size, 0, none⟩ = some (.slice A es.length cc))) (fun v _ _ _ => (es.length - (intOf v).toNat))
  case atStart => exact ⟨0, 0, 0, by omega, by omega, rfl, rfl, rfl, HB, ⟨by rw [HPQ.out.1, HPQ.out.2]; simp⟩, ⟨by go_simp⟩⟩
  case round =>
    clear HB
    obtain ⟨i, p, q, hi0, hi1, rfl, rfl, rfl, HB, HI, HF0⟩ := hrel
    have f0 := HF0.out
    have zz := World.block_lt_of_cell? _ _ f0
    by_cases hlt : i < (es.length : Int)
    case neg =>
      go_wp2_with fail
      go_ret2
      exact ⟨ret_ii (by have := HI.out.1; rw [List.drop_of_length_le (by omega)] at this; simpa [amtV] using this) (by have := HI.out.2; rw [List.drop_of_length_le (by omega)] at this; simpa [basV] using this), HB.out⟩
    obtain ⟨ad, A3, c3, e0, x0, x1, x2, x3, x4, x5⟩ := at_T34 HR.out i hi0 hlt
    cases e0
    replace x0 := pw_cell_below HB.out x0
    replace x1 := pw_cell_below HB.out x1
    replace x2 := pw_cell_below HB.out x2
    replace x3 := pw_cell_below HB.out x3
    have X5 := Aside0.mk x5
    have hfe : entFine (rd_T34 es i) := all_at (z := z34) (p := entFine) hi0 hlt HF.out
    have hl3 : (rd_T34 es i).f3.length ≤ 60 := hfe.1
    have HLF := Aside0.mk (show ∀ x ∈ (rd_T34 es i).f3, lineFine x from hfe.2)
    have HD := Aside0.mk (drop_at (l := es) (z := z34) hi0 hlt)
    have HFD := Aside0.mk (show ∀ e ∈ es.drop (i + 1).toNat, entFine e from fun e he => HF.out e (List.mem_of_mem_drop he))
    have hdl : (es.drop (i + 1).toNat).length ≤ 1000 := by rw [List.length_drop]; omega
    have BP := Aside0.mk (And.intro (amtV_b a d c fr tt (es.drop (i + 1).toNat) HFD.out) (basV_b a d c fr tt (es.drop (i + 1).toNat) HFD.out))
    have HE := Aside0.mk (show amtV a d c fr tt (es.drop i.toNat) = (if inB (rd_T34 es i).f0 fr tt = true then amtL a d c (rd_T34 es i).f3 else 0) + amtV a d c fr tt (es.drop (i + 1).toNat) ∧ basV a d c fr tt (es.drop i.toNat) = (if inB (rd_T34 es i).f0 fr tt = true then basL a d c (rd_T34 es i).f3 else 0) + basV a d c fr tt (es.drop (i + 1).toNat) from by rw [HD.out]; exact ⟨rfl, rfl⟩)
    clear x4 x5 hfe
    generalize (rd_T34 es i).f0 = day at *
    generalize (rd_T34 es i).f3 = ls at *
    have hb := below_alloc (Below.refl wr.heap.size wr) (.cells #[.int .i64 day, .int .i64 (rd_T34 es i).f1, .string (rd_T34 es i).f2, .slice A3 ls.length c3] 34)
    have HBX := Aside0.mk (below_into (w := w) hb HB.out)
    have y0 : (wr.alloc (.cells #[.int .i64 day, .int .i64 (rd_T34 es i).f1, .string (rd_T34 es i).f2, .slice A3 ls.length c3] 34)).cell? ⟨wr.heap.size, 0, none⟩ = some (.int .i64 day) := by go_simp
    have y3 : (wr.alloc (.cells #[.int .i64 day, .int .i64 (rd_T34 es i).f1, .string (rd_T34 es i).f2, .slice A3 ls.length c3] 34)).cell? ⟨wr.heap.size, 3, none⟩ = some (.slice A3 ls.length c3) := by go_simp
    have F0 := Aside0.mk (pw_cell_below hb f0)
    have Y0 := Aside0.mk y0
    have Y3 := Aside0.mk y3
    clear hb y0 y3
    go_wp2_with fail
    go_loopw [38, 14, 15] (fun v vp vq wq => ∃ j p q : Int, 0 ≤ j ∧ j ≤ (ls.length : Int) ∧ v = .int .i64 j ∧ vp = .int .i64 p ∧ vq = .int .i64 q ∧ Aside0 (Below w.heap.size w wq) ∧ Aside0 (p + (if inB day fr tt = true then amtL a d c (ls.drop j.toNat) else 0) + amtV a d c fr tt (es.drop (i + 1).toNat) = PT ∧ q + (if inB day fr tt = true then basL a d c (ls.drop j.toNat) else 0) + basV a d c fr tt (es.drop (i + 1).toNat) = QT) ∧ Aside0 (wq.cell? ⟨w.heap.size, 0, none⟩ = some (.slice (some ad) es.length cc) ∧ wq.cell? ⟨wr.heap.size, 0, none⟩ = some (.int .i64 day) ∧ wq.cell? ⟨wr.heap.size, 3, none⟩ = some (.slice A3 ls.length c3))) (fun v _ _ _ => (ls.length - (intOf v).toNat))
    case atStart => exact ⟨0, p, q, by omega, by omega, rfl, rfl, rfl, HBX, ⟨by have h1 := HI.out.1; have h2 := HI.out.2; rw [HE.out.1] at h1; rw [HE.out.2] at h2; simp only [show (0 : Int).toNat = 0 from rfl, List.drop_zero]; exact ⟨by omega, by omega⟩⟩, ⟨F0.out, Y0.out, Y3.out⟩⟩
    case round =>
      clear HB HBX F0 Y0 Y3 f0 x0 x1 x2 x3 zz HI HF0
      obtain ⟨j, p, q, hj0, hj1, rfl, rfl, rfl, HB, HI, HC⟩ := hrel
      have f0 := HC.out.1
      have y0 := HC.out.2.1
      have y3 := HC.out.2.2
      have zz := World.block_lt_of_cell? _ _ f0
      have zy := World.block_lt_of_cell? _ _ y0
      by_cases hlj : j < (ls.length : Int)
      case neg =>
        go_wp2_with fail
        go_roundw
        case rel => exact ⟨i + 1, p, q, by omega, by omega, rfl, rfl, rfl, HB, ⟨by have h1 := HI.out.1; have h2 := HI.out.2; rw [List.drop_of_length_le (by omega)] at h1 h2; simp [amtL, basL] at h1 h2; exact ⟨by omega, by omega⟩⟩, ⟨HC.out.1⟩⟩
        case measure => simp [intOf]; omega
      obtain ⟨ae, e0, u0, u1, u2, u3, u4⟩ := at_T112 (Kd.C_below X5.out HB.out) j hj0 hlj
      cases e0
      have hfl : lineFine (rd_T112 ls j) := all_at (z := z112) (p := lineFine) hj0 hlj HLF.out
      have HLD := Aside0.mk (drop_at (l := ls) (z := z112) hj0 hlj)
      have HLE := Aside0.mk (show amtL a d c (ls.drop j.toNat) = (if selL a d c (rd_T112 ls j) = true then (rd_T112 ls j).f3 else 0) + amtL a d c (ls.drop (j + 1).toNat) ∧ basL a d c (ls.drop j.toNat) = (if selL a d c (rd_T112 ls j) = true then (rd_T112 ls j).f4 else 0) + basL a d c (ls.drop (j + 1).toNat) from by rw [HLD.out]; exact ⟨rfl, rfl⟩)
      have HLL := Aside0.mk (show ∀ x ∈ ls.drop j.toNat, lineFine x from fun x hx => HLF.out x (List.mem_of_mem_drop hx))
      have hll : (ls.drop j.toNat).length ≤ 60 := by rw [List.length_drop]; omega
      have hpb : (-100000000000000000 ≤ p ∧ p ≤ 100000000000000000) ∧ (-100000000000000000 ≤ q ∧ q ≤ 100000000000000000) := by
        have t1 := amtL_b a d c _ HLL.out
        have t2 := basL_b a d c _ HLL.out
        have t3 := BP.out.1
        have t4 := BP.out.2
        have t5 := HI.out.1
        have t6 := HI.out.2
        refine ⟨⟨?_, ?_⟩, ⟨?_, ?_⟩⟩ <;> (split at t5 <;> omega)
      obtain ⟨⟨pb0, pb1⟩, ⟨qb0, qb1⟩⟩ := hpb
      have ca : inB (rd_T112 ls j).f3 (-100000000000) 100000000000 = true := inB_of hfl.1
      have cb : inB (rd_T112 ls j).f4 (-100000000000) 100000000000 = true := inB_of hfl.2
      have CA := Aside0.mk (fun W => (ca ▸ impl_amount.to (rd_T112 ls j).f3 W : Calls Try.prog 87 #[.int .i64 (rd_T112 ls j).f3] W fun e w' => e = .returned (.bool true) ∧ w' = W))
      have CB := Aside0.mk (fun W => (cb ▸ impl_amount.to (rd_T112 ls j).f4 W : Calls Try.prog 87 #[.int .i64 (rd_T112 ls j).f4] W fun e w' => e = .returned (.bool true) ∧ w' = W))
      obtain ⟨⟨b0, b1⟩, ⟨b2, b3⟩⟩ := hfl
      have HSEL := Aside0.mk (show selL a d c (rd_T112 ls j) = ((decide (a = -1) || decide (a = (rd_T112 ls j).f0)) && (decide (d = -1) || decide (d = (rd_T112 ls j).f1)) && (decide (c = -1) || decide (c = (rd_T112 ls j).f2))) from rfl)
      have o := below_alloc HB.out (.cells #[.int .i64 (rd_T112 ls j).f0, .int .i64 (rd_T112 ls j).f1, .int .i64 (rd_T112 ls j).f2, .int .i64 (rd_T112 ls j).f3, .int .i64 (rd_T112 ls j).f4] 112)
      have hb := below_alloc (Below.refl wr.heap.size wr) (.cells #[.int .i64 (rd_T112 ls j).f0, .int .i64 (rd_T112 ls j).f1, .int .i64 (rd_T112 ls j).f2, .int .i64 (rd_T112 ls j).f3, .int .i64 (rd_T112 ls j).f4] 112)
      have HCX := Aside0.mk (And.intro (pw_cell_below hb f0) (And.intro (pw_cell_below hb y0) (pw_cell_below hb y3)))
      have HBX := Aside0.mk o
      generalize (rd_T112 ls j).f0 = g0 at *
      generalize (rd_T112 ls j).f1 = g1 at *
      generalize (rd_T112 ls j).f2 = g2 at *
      generalize (rd_T112 ls j).f3 = g3 at *
      generalize (rd_T112 ls j).f4 = g4 at *
      generalize selL a d c (rd_T112 ls j) = sl at *
      clear o hb ca cb HC
      have HNO := Aside0.mk (show inB day fr tt = false ∨ sl = false → p + (if inB day fr tt = true then amtL a d c (ls.drop (j + 1).toNat) else 0) + amtV a d c fr tt (es.drop (i + 1).toNat) = PT ∧ q + (if inB day fr tt = true then basL a d c (ls.drop (j + 1).toNat) else 0) + basV a d c fr tt (es.drop (i + 1).toNat) = QT from fun hq => by
        have t5 := HI.out.1
        have t6 := HI.out.2
        rw [HLE.out.1] at t5
        rw [HLE.out.2] at t6
        rcases hq with hq | hq
        · rw [hq] at t5 t6 ⊢
          simp at t5 t6 ⊢
          exact ⟨t5, t6⟩
        · rw [hq] at t5 t6
          simp at t5 t6 ⊢
          exact ⟨t5, t6⟩)
      have HYE := Aside0.mk (show inB day fr tt = true → sl = true → (p + g3) + (if inB day fr tt = true then amtL a d c (ls.drop (j + 1).toNat) else 0) + amtV a d c fr tt (es.drop (i + 1).toNat) = PT ∧ (q + g4) + (if inB day fr tt = true then basL a d c (ls.drop (j + 1).toNat) else 0) + basV a d c fr tt (es.drop (i + 1).toNat) = QT from fun hd hq => by
        have t5 := HI.out.1
        have t6 := HI.out.2
        rw [HLE.out.1, hd, hq] at t5
        rw [HLE.out.2, hd, hq] at t6
        rw [hd]
        simp at t5 t6 ⊢
        exact ⟨by omega, by omega⟩)
      clear HI HLE HLD HLL
      by_cases hfr : fr ≤ day
      case neg =>
        have QD := Aside0.mk (show inB day fr tt = false from inB_not (fun q => hfr q.1))
        have cfr : decide (fr ≤ day) = false := decide_eq_false hfr
        clear hfr
        go_wp2_with fail
        refine (CA.out _).mono ?_
        rintro x w' ⟨rfl, rfl⟩
        go_wp2_with fail
        refine (CB.out _).mono ?_
        rintro x w' ⟨rfl, rfl⟩
        go_wp2_with fail
        go_roundw
        case rel => exact ⟨j + 1, p, q, by omega, by omega, rfl, rfl, rfl, HBX, ⟨HNO.out (.inl QD.out)⟩, HCX⟩
        case measure => simp [intOf]; omega
      by_cases htt : day ≤ tt
      case neg =>
        have QD := Aside0.mk (show inB day fr tt = false from inB_not (fun q => htt q.2))
        have cfr : decide (fr ≤ day) = true := decide_eq_true hfr
        have ctt : decide (day ≤ tt) = false := decide_eq_false htt
        clear hfr htt
        go_wp2_with fail
        refine (CA.out _).mono ?_
        rintro x w' ⟨rfl, rfl⟩
        go_wp2_with fail
        refine (CB.out _).mono ?_
        rintro x w' ⟨rfl, rfl⟩
        go_wp2_with fail
        go_roundw
        case rel => exact ⟨j + 1, p, q, by omega, by omega, rfl, rfl, rfl, HBX, ⟨HNO.out (.inl QD.out)⟩, HCX⟩
        case measure => simp [intOf]; omega
      case pos =>
        have QD := Aside0.mk (show inB day fr tt = true from inB_of ⟨hfr, htt⟩)
        have cfr : decide (fr ≤ day) = true := decide_eq_true hfr
        have ctt : decide (day ≤ tt) = true := decide_eq_true htt
        clear hfr htt
        by_cases m0 : a = -1
        · have K0 := Aside0.mk m0
          have k0b : (a == -1) = true := by rw [m0]; rfl
          clear m0
          by_cases m1 : d = -1
          · have K1 := Aside0.mk m1
            have k1b : (d == -1) = true := by rw [m1]; rfl
            clear m1
            by_cases m2 : c = -1
            · have K2 := Aside0.mk m2
              have k2b : (c == -1) = true := by rw [m2]; rfl
              clear m2
              go_wp2_with fail
              refine (CA.out _).mono ?_
              rintro x w' ⟨rfl, rfl⟩
              go_wp2_with fail
              refine (CB.out _).mono ?_
              rintro x w' ⟨rfl, rfl⟩
              go_wp2_with fail
              go_roundw
              case rel => exact ⟨j + 1, p + g3, q + g4, by omega, by omega, rfl, rfl, rfl, HBX, ⟨HYE.out QD.out (by rw [HSEL.out]; simp [K0.out, K1.out, K2.out])⟩, HCX⟩
              case measure => simp [intOf]; omega
            · have k2b : (c == -1) = false := beq_eq_false_iff_ne.2 m2
              by_cases mm2 : c = g2
              · have K2 := Aside0.mk mm2
                have k2c : (c == g2) = true := by rw [mm2]; exact beq_self_eq_true' _
                clear mm2 m2
                go_wp2_with fail
                refine (CA.out _).mono ?_
                rintro x w' ⟨rfl, rfl⟩
                go_wp2_with fail
                refine (CB.out _).mono ?_
                rintro x w' ⟨rfl, rfl⟩
                go_wp2_with fail
                go_roundw
                case rel => exact ⟨j + 1, p + g3, q + g4, by omega, by omega, rfl, rfl, rfl, HBX, ⟨HYE.out QD.out (by rw [HSEL.out]; simp [K0.out, K1.out, K2.out])⟩, HCX⟩
                case measure => simp [intOf]; omega
              · have K2 := Aside0.mk mm2
                have KK2 := Aside0.mk m2
                have k2c : (c == g2) = false := beq_eq_false_iff_ne.2 mm2
                clear mm2 m2
                go_wp2_with fail
                refine (CA.out _).mono ?_
                rintro x w' ⟨rfl, rfl⟩
                go_wp2_with fail
                refine (CB.out _).mono ?_
                rintro x w' ⟨rfl, rfl⟩
                go_wp2_with fail
                go_roundw
                case rel => exact ⟨j + 1, p, q, by omega, by omega, rfl, rfl, rfl, HBX, ⟨HNO.out (.inr (by rw [HSEL.out]; simp [K2.out, KK2.out]))⟩, HCX⟩
                case measure => simp [intOf]; omega
          · have k1b : (d == -1) = false := beq_eq_false_iff_ne.2 m1
            by_cases mm1 : d = g1
            · have K1 := Aside0.mk mm1
              have k1c : (d == g1) = true := by rw [mm1]; exact beq_self_eq_true' _
              clear mm1 m1
              by_cases m2 : c = -1
              · have K2 := Aside0.mk m2
                have k2b : (c == -1) = true := by rw [m2]; rfl
                clear m2
                go_wp2_with fail
                refine (CA.out _).mono ?_
                rintro x w' ⟨rfl, rfl⟩
                go_wp2_with fail
                refine (CB.out _).mono ?_
                rintro x w' ⟨rfl, rfl⟩
                go_wp2_with fail
                go_roundw
                case rel => exact ⟨j + 1, p + g3, q + g4, by omega, by omega, rfl, rfl, rfl, HBX, ⟨HYE.out QD.out (by rw [HSEL.out]; simp [K0.out, K1.out, K2.out])⟩, HCX⟩
                case measure => simp [intOf]; omega
              · have k2b : (c == -1) = false := beq_eq_false_iff_ne.2 m2
                by_cases mm2 : c = g2
                · have K2 := Aside0.mk mm2
                  have k2c : (c == g2) = true := by rw [mm2]; exact beq_self_eq_true' _
                  clear mm2 m2
                  go_wp2_with fail
                  refine (CA.out _).mono ?_
                  rintro x w' ⟨rfl, rfl⟩
                  go_wp2_with fail
                  refine (CB.out _).mono ?_
                  rintro x w' ⟨rfl, rfl⟩
                  go_wp2_with fail
                  go_roundw
                  case rel => exact ⟨j + 1, p + g3, q + g4, by omega, by omega, rfl, rfl, rfl, HBX, ⟨HYE.out QD.out (by rw [HSEL.out]; simp [K0.out, K1.out, K2.out])⟩, HCX⟩
                  case measure => simp [intOf]; omega
                · have K2 := Aside0.mk mm2
                  have KK2 := Aside0.mk m2
                  have k2c : (c == g2) = false := beq_eq_false_iff_ne.2 mm2
                  clear mm2 m2
                  go_wp2_with fail
                  refine (CA.out _).mono ?_
                  rintro x w' ⟨rfl, rfl⟩
                  go_wp2_with fail
                  refine (CB.out _).mono ?_
                  rintro x w' ⟨rfl, rfl⟩
                  go_wp2_with fail
                  go_roundw
                  case rel => exact ⟨j + 1, p, q, by omega, by omega, rfl, rfl, rfl, HBX, ⟨HNO.out (.inr (by rw [HSEL.out]; simp [K2.out, KK2.out]))⟩, HCX⟩
                  case measure => simp [intOf]; omega
            · have K1 := Aside0.mk mm1
              have KK1 := Aside0.mk m1
              have k1c : (d == g1) = false := beq_eq_false_iff_ne.2 mm1
              clear mm1 m1
              go_wp2_with fail
              refine (CA.out _).mono ?_
              rintro x w' ⟨rfl, rfl⟩
              go_wp2_with fail
              refine (CB.out _).mono ?_
              rintro x w' ⟨rfl, rfl⟩
              go_wp2_with fail
              go_roundw
              case rel => exact ⟨j + 1, p, q, by omega, by omega, rfl, rfl, rfl, HBX, ⟨HNO.out (.inr (by rw [HSEL.out]; simp [K1.out, KK1.out]))⟩, HCX⟩
              case measure => simp [intOf]; omega
        · have k0b : (a == -1) = false := beq_eq_false_iff_ne.2 m0
          by_cases mm0 : a = g0
          · have K0 := Aside0.mk mm0
            have k0c : (a == g0) = true := by rw [mm0]; exact beq_self_eq_true' _
            clear mm0 m0
            by_cases m1 : d = -1
            · have K1 := Aside0.mk m1
              have k1b : (d == -1) = true := by rw [m1]; rfl
              clear m1
              by_cases m2 : c = -1
              · have K2 := Aside0.mk m2
                have k2b : (c == -1) = true := by rw [m2]; rfl
                clear m2
                go_wp2_with fail
                refine (CA.out _).mono ?_
                rintro x w' ⟨rfl, rfl⟩
                go_wp2_with fail
                refine (CB.out _).mono ?_
                rintro x w' ⟨rfl, rfl⟩
                go_wp2_with fail
                go_roundw
                case rel => exact ⟨j + 1, p + g3, q + g4, by omega, by omega, rfl, rfl, rfl, HBX, ⟨HYE.out QD.out (by rw [HSEL.out]; simp [K0.out, K1.out, K2.out])⟩, HCX⟩
                case measure => simp [intOf]; omega
              · have k2b : (c == -1) = false := beq_eq_false_iff_ne.2 m2
                by_cases mm2 : c = g2
                · have K2 := Aside0.mk mm2
                  have k2c : (c == g2) = true := by rw [mm2]; exact beq_self_eq_true' _
                  clear mm2 m2
                  go_wp2_with fail
                  refine (CA.out _).mono ?_
                  rintro x w' ⟨rfl, rfl⟩
                  go_wp2_with fail
                  refine (CB.out _).mono ?_
                  rintro x w' ⟨rfl, rfl⟩
                  go_wp2_with fail
                  go_roundw
                  case rel => exact ⟨j + 1, p + g3, q + g4, by omega, by omega, rfl, rfl, rfl, HBX, ⟨HYE.out QD.out (by rw [HSEL.out]; simp [K0.out, K1.out, K2.out])⟩, HCX⟩
                  case measure => simp [intOf]; omega
                · have K2 := Aside0.mk mm2
                  have KK2 := Aside0.mk m2
                  have k2c : (c == g2) = false := beq_eq_false_iff_ne.2 mm2
                  clear mm2 m2
                  go_wp2_with fail
                  refine (CA.out _).mono ?_
                  rintro x w' ⟨rfl, rfl⟩
                  go_wp2_with fail
                  refine (CB.out _).mono ?_
                  rintro x w' ⟨rfl, rfl⟩
                  go_wp2_with fail
                  go_roundw
                  case rel => exact ⟨j + 1, p, q, by omega, by omega, rfl, rfl, rfl, HBX, ⟨HNO.out (.inr (by rw [HSEL.out]; simp [K2.out, KK2.out]))⟩, HCX⟩
                  case measure => simp [intOf]; omega
            · have k1b : (d == -1) = false := beq_eq_false_iff_ne.2 m1
              by_cases mm1 : d = g1
              · have K1 := Aside0.mk mm1
                have k1c : (d == g1) = true := by rw [mm1]; exact beq_self_eq_true' _
                clear mm1 m1
                by_cases m2 : c = -1
                · have K2 := Aside0.mk m2
                  have k2b : (c == -1) = true := by rw [m2]; rfl
                  clear m2
                  go_wp2_with fail
                  refine (CA.out _).mono ?_
                  rintro x w' ⟨rfl, rfl⟩
                  go_wp2_with fail
                  refine (CB.out _).mono ?_
                  rintro x w' ⟨rfl, rfl⟩
                  go_wp2_with fail
                  go_roundw
                  case rel => exact ⟨j + 1, p + g3, q + g4, by omega, by omega, rfl, rfl, rfl, HBX, ⟨HYE.out QD.out (by rw [HSEL.out]; simp [K0.out, K1.out, K2.out])⟩, HCX⟩
                  case measure => simp [intOf]; omega
                · have k2b : (c == -1) = false := beq_eq_false_iff_ne.2 m2
                  by_cases mm2 : c = g2
                  · have K2 := Aside0.mk mm2
                    have k2c : (c == g2) = true := by rw [mm2]; exact beq_self_eq_true' _
                    clear mm2 m2
                    go_wp2_with fail
                    refine (CA.out _).mono ?_
                    rintro x w' ⟨rfl, rfl⟩
                    go_wp2_with fail
                    refine (CB.out _).mono ?_
                    rintro x w' ⟨rfl, rfl⟩
                    go_wp2_with fail
                    go_roundw
                    case rel => exact ⟨j + 1, p + g3, q + g4, by omega, by omega, rfl, rfl, rfl, HBX, ⟨HYE.out QD.out (by rw [HSEL.out]; simp [K0.out, K1.out, K2.out])⟩, HCX⟩
                    case measure => simp [intOf]; omega
                  · have K2 := Aside0.mk mm2
                    have KK2 := Aside0.mk m2
                    have k2c : (c == g2) = false := beq_eq_false_iff_ne.2 mm2
                    clear mm2 m2
                    go_wp2_with fail
                    refine (CA.out _).mono ?_
                    rintro x w' ⟨rfl, rfl⟩
                    go_wp2_with fail
                    refine (CB.out _).mono ?_
                    rintro x w' ⟨rfl, rfl⟩
                    go_wp2_with fail
                    go_roundw
                    case rel => exact ⟨j + 1, p, q, by omega, by omega, rfl, rfl, rfl, HBX, ⟨HNO.out (.inr (by rw [HSEL.out]; simp [K2.out, KK2.out]))⟩, HCX⟩
                    case measure => simp [intOf]; omega
              · have K1 := Aside0.mk mm1
                have KK1 := Aside0.mk m1
                have k1c : (d == g1) = false := beq_eq_false_iff_ne.2 mm1
                clear mm1 m1
                go_wp2_with fail
                refine (CA.out _).mono ?_
                rintro x w' ⟨rfl, rfl⟩
                go_wp2_with fail
                refine (CB.out _).mono ?_
                rintro x w' ⟨rfl, rfl⟩
                go_wp2_with fail
                go_roundw
                case rel => exact ⟨j + 1, p, q, by omega, by omega, rfl, rfl, rfl, HBX, ⟨HNO.out (.inr (by rw [HSEL.out]; simp [K1.out, KK1.out]))⟩, HCX⟩
                case measure => simp [intOf]; omega
          · have K0 := Aside0.mk mm0
            have KK0 := Aside0.mk m0
            have k0c : (a == g0) = false := beq_eq_false_iff_ne.2 mm0
            clear mm0 m0
            go_wp2_with fail
            refine (CA.out _).mono ?_
            rintro x w' ⟨rfl, rfl⟩
            go_wp2_with fail
            refine (CB.out _).mono ?_
            rintro x w' ⟨rfl, rfl⟩
            go_wp2_with fail
            go_roundw
            case rel => exact ⟨j + 1, p, q, by omega, by omega, rfl, rfl, rfl, HBX, ⟨HNO.out (.inr (by rw [HSEL.out]; simp [K0.out, KK0.out]))⟩, HCX⟩
            case measure => simp [intOf]; omega
end Go.Proofs.Ytphmnkcfjgallaa.Q
namespace Go.Proofs.Ytphmnkcfjgallaa.Q
open Go.RowKit Go.Proofs.YtphmnkcfjgallaaW.PrintWords Go.Proofs.YtphmnkcfjgallaaW.PrintLast Go.Proofs.YtphmnkcfjgallaaW.PrintMore
attribute [local go_sem] max2_int min2_int max_two min_two max_three min_three max_four min_four   -- for this text's walks alone
set_option linter.unusedVariables false
set_option linter.unusedSimpArgs false
open Classical in
noncomputable def textB (s : ByteArray) : Bool := decide (textUpto s s.size ∧ s.size ≤ 40)
open Classical in
theorem textB_iff {s : ByteArray} : textB s = true ↔ textUpto s s.size ∧ s.size ≤ 40 := by unfold textB; rw [decide_eq_true_eq]
theorem textB_not {s : ByteArray} (h : ¬ (textUpto s s.size ∧ s.size ≤ 40)) : false = textB s := by
  cases hb : textB s with
  | false => rfl
  | true => exact absurd (textB_iff.1 hb) h
set_option maxHeartbeats 4000000 in
set_option maxRecDepth 100000 in
theorem spec_l5TextOk.to (s : ByteArray) (w : World) (hm : s.size ≤ maxLen) : Calls Try.prog 135 #[.string s] w fun x w' => x = .returned (.bool (textB s)) ∧ w' = w := by
  have hm' : (s.size : Int) ≤ 9223372036854775807 := by unfold maxLen at hm; omega
  go_enter Try.func135, Try.ntmps135
  go_wp2_with fail
  go_loop [3] (fun v => ∃ i : Int, 0 ≤ i ∧ i ≤ (s.size : Int) ∧ v = .int .i64 i ∧ Aside0 (textUpto s i)) (fun v => (s.size - (intOf v).toNat))
  case atStart => exact ⟨0, by omega, by omega, rfl, ⟨fun j h0 h1 => by omega⟩⟩
  case round =>
    obtain ⟨i, hi0, hi1, rfl, HT⟩ := hrel
    by_cases hlt : i < (s.size : Int)
    · have hx := bt_at s i
      by_cases hb : 32 ≤ bt s i
      · have HB := Aside0.mk (textUpto_step hi0 HT.out hb)
        go_wp2_with fail
        go_round
        case rel => exact ⟨i + 1, by omega, by omega, rfl, HB⟩
        case measure => simp [intOf]; omega
      · have HB := Aside0.mk (textB_not (fun q => hb (q.1 i hi0 hlt)))
        go_wp2_with fail
        go_ret
        exact ⟨ret_bool HB.out, rfl⟩
    · have HTX := Aside0.mk (show textUpto s s.size from fun j h0 h1 => HT.out j h0 (by omega))
      clear HT
      by_cases h4 : s.size ≤ 40
      · have h4' : (s.size : Int) ≤ 40 := by omega
        go_wp2_with fail
        go_ret
        exact ⟨ret_bool (by rw [textB_iff.2 ⟨HTX.out, h4⟩]), rfl⟩
      · go_wp2_with fail
        go_ret
        exact ⟨ret_bool (by rw [← textB_not (fun q => h4 q.2)]; simp; omega), rfl⟩
open Classical in
noncomputable def lineB (chart : List Acc) (dims curs : Int) (x : Lin) : Bool := decide (lineP chart dims curs x)
open Classical in
theorem lineB_true {chart : List Acc} {dims curs : Int} {x : Lin} : lineB chart dims curs x = true ↔ lineP chart dims curs x := by unfold lineB; rw [decide_eq_true_eq]
theorem lineB_not {chart : List Acc} {dims curs : Int} {x : Lin} (h : ¬ lineP chart dims curs x) : false = lineB chart dims curs x := by
  cases hb : lineB chart dims curs x with
  | false => rfl
  | true => exact absurd (lineB_true.1 hb) h
set_option maxHeartbeats 4000000 in
set_option maxRecDepth 100000 in
theorem spec_l5LineOk.to (A0 : Option Addr) (c0 : Nat) (l0 : List Acc) (dims curs : Int) (x : Lin) (w : World) (hr0 : Kd.C k131 w A0 l0.length l0) (hs : ∀ x ∈ l0, x.f0.size ≤ maxLen) (hch : chartOk l0 = true) (hd : 1 ≤ dims ∧ dims ≤ 20) (hc : 1 ≤ curs ∧ curs ≤ 20) :
    Calls Try.prog 136 #[.agg #[.slice A0 l0.length c0, .int .i64 dims, .int .i64 curs], .agg #[.int .i64 x.f0, .int .i64 x.f1, .int .i64 x.f2, .int .i64 x.f3, .int .i64 x.f4]] w fun e w' => e = .returned (.bool (lineB l0 dims curs x)) ∧ Below w.heap.size w w' := by
  have hl := hr0.2.1
  have hlen := (chartOk_iff.1 hch).2.1
  have H0 := Aside0.mk (Kd.C_below hr0 (below_two w (.cells #[.slice A0 l0.length c0, .int .i64 dims, .int .i64 curs] 26) (.cells #[.int .i64 x.f0, .int .i64 x.f1, .int .i64 x.f2, .int .i64 x.f3, .int .i64 x.f4] 112)))
  have HS := Aside0.mk hs
  have HCH := Aside0.mk hch
  obtain ⟨hd0, hd1⟩ := hd
  obtain ⟨hc0, hc1⟩ := hc
  clear hr0 hs hch
  go_enter Try.func136, Try.ntmps136
  go_wp2_with fail
  refine (spec_l1In.to _ _ _ _).mono ?_
  rintro e w' ⟨rfl, rfl⟩
  cases h1 : inB x.f0 0 ((l0.length : Int) - 1) with
  | false =>
    have HN := Aside0.mk (lineB_not (fun q => inB_false.1 h1 ⟨q.1.1, by have := q.1.2.1; omega⟩) : false = lineB l0 dims curs x)
    clear h1
    go_wp2_with fail
    go_ret
    exact ⟨ret_bool HN.out, below_two _ _ _⟩
  | true =>
    clear h1
    go_wp2_with fail
    refine (spec_Leaf.to A0 c0 l0 x.f0 _ H0.out HS.out).mono ?_
    rintro e w1 ⟨rfl, hb⟩
    have HB := Aside0.mk (below_into (w := w) hb (below_two _ _ _))
    have f1 : w1.cell? ⟨w.heap.size, 1, none⟩ = some (.int .i64 dims) := pw_cell_below hb (by go_simp)
    have f2 : w1.cell? ⟨w.heap.size, 2, none⟩ = some (.int .i64 curs) := pw_cell_below hb (by go_simp)
    have x1 : w1.cell? ⟨w.heap.size + 1, 1, none⟩ = some (.int .i64 x.f1) := pw_cell_below hb (by go_simp)
    have x2 : w1.cell? ⟨w.heap.size + 1, 2, none⟩ = some (.int .i64 x.f2) := pw_cell_below hb (by go_simp)
    have x3 : w1.cell? ⟨w.heap.size + 1, 3, none⟩ = some (.int .i64 x.f3) := pw_cell_below hb (by go_simp)
    have x4 : w1.cell? ⟨w.heap.size + 1, 4, none⟩ = some (.int .i64 x.f4) := pw_cell_below hb (by go_simp)
    clear hb
    rw [HCH.out, Bool.true_and]
    cases h2 : leafB l0 x.f0 with
    | false =>
      have HN := Aside0.mk (lineB_not (fun q => by have := leafB_of q.1; rw [h2] at this; cases this) : false = lineB l0 dims curs x)
      clear h2
      go_wp2_with fail
      go_ret
      exact ⟨ret_bool HN.out, HB.out⟩
    | true =>
      have HLF := Aside0.mk (leafB_true.1 h2)
      clear h2
      go_wp2_with fail
      refine (spec_l1In.to _ _ _ _).mono ?_
      rintro e w' ⟨rfl, rfl⟩
      cases h3 : inB x.f1 0 (dims - 1) with
      | false =>
        have HN := Aside0.mk (lineB_not (fun q => inB_false.1 h3 q.2.1) : false = lineB l0 dims curs x)
        clear h3
        go_wp2_with fail
        go_ret
        exact ⟨ret_bool HN.out, HB.out⟩
      | true =>
        have HDM := Aside0.mk (inB_true.1 h3)
        clear h3
        go_wp2_with fail
        refine (spec_l1In.to _ _ _ _).mono ?_
        rintro e w' ⟨rfl, rfl⟩
        cases h4 : inB x.f2 0 (curs - 1) with
        | false =>
          have HN := Aside0.mk (lineB_not (fun q => inB_false.1 h4 q.2.2.1) : false = lineB l0 dims curs x)
          clear h4
          go_wp2_with fail
          go_ret
          exact ⟨ret_bool HN.out, HB.out⟩
        | true =>
          have HCR := Aside0.mk (inB_true.1 h4)
          clear h4
          go_wp2_with fail
          refine (spec_l1Amount.to _ _).mono ?_
          rintro e w' ⟨rfl, rfl⟩
          cases h5 : inB x.f3 (-100000000000) 100000000000 with
          | false =>
            have HN := Aside0.mk (lineB_not (fun q => inB_false.1 h5 q.2.2.2.1) : false = lineB l0 dims curs x)
            clear h5
            go_wp2_with fail
            go_ret
            exact ⟨ret_bool HN.out, HB.out⟩
          | true =>
            have HAM := Aside0.mk (inB_true.1 h5)
            clear h5
            go_wp2_with fail
            refine (spec_l1Amount.to _ _).mono ?_
            rintro e w' ⟨rfl, rfl⟩
            cases h6 : inB x.f4 (-100000000000) 100000000000 with
            | false =>
              have HN := Aside0.mk (lineB_not (fun q => inB_false.1 h6 q.2.2.2.2.1) : false = lineB l0 dims curs x)
              clear h6
              go_wp2_with fail
              go_ret
              exact ⟨ret_bool HN.out, HB.out⟩
            | true =>
              have HBS := Aside0.mk (inB_true.1 h6)
              clear h6
              by_cases h7 : x.f2 = 0
              · have h7b : (x.f2 != 0) = false := by rw [h7]; rfl
                by_cases h8 : x.f3 = x.f4
                · have HY := Aside0.mk (lineB_true.2 (show lineP l0 dims curs x from ⟨HLF.out, HDM.out, HCR.out, HAM.out, HBS.out, fun _ => h8⟩))
                  have h8b : (x.f3 == x.f4) = true := beq_iff_eq.2 h8
                  clear h7 h8
                  go_wp2_with fail
                  go_ret
                  exact ⟨ret_bool HY.out.symm, HB.out⟩
                · have HN := Aside0.mk (lineB_not (fun q => h8 (q.2.2.2.2.2 h7)) : false = lineB l0 dims curs x)
                  have h8b : (x.f3 == x.f4) = false := beq_eq_false_iff_ne.2 h8
                  clear h7 h8
                  go_wp2_with fail
                  go_ret
                  exact ⟨ret_bool HN.out, HB.out⟩
              · have HY := Aside0.mk (lineB_true.2 (show lineP l0 dims curs x from ⟨HLF.out, HDM.out, HCR.out, HAM.out, HBS.out, fun q => absurd q h7⟩))
                have h7b : (x.f2 != 0) = true := bne_iff_ne.2 h7
                clear h7
                go_wp2_with fail
                go_ret
                exact ⟨ret_bool HY.out.symm, HB.out⟩
end Go.Proofs.Ytphmnkcfjgallaa.Q
namespace Go.Proofs.Ytphmnkcfjgallaa.Q
open Go.RowKit Go.Proofs.YtphmnkcfjgallaaW.PrintWords Go.Proofs.YtphmnkcfjgallaaW.PrintLast Go.Proofs.YtphmnkcfjgallaaW.PrintMore
attribute [local go_sem] max2_int min2_int max_two min_two max_three min_three max_four min_four   -- for this text's walks alone
set_option linter.unusedVariables false
set_option linter.unusedSimpArgs false
set_option maxHeartbeats 4000000 in
set_option maxRecDepth 100000 in
theorem impl_FrameOk.to (A0 : Option Addr) (c0 : Nat) (l0 : List Acc) (dims curs : Int) (w : World) (hr0 : Kd.C k131 w A0 l0.length l0) (hs : ∀ x ∈ l0, x.f0.size ≤ maxLen) :
    Calls Try.prog 93 #[.agg #[.slice A0 l0.length c0, .int .i64 dims, .int .i64 curs]] w fun e w' => e = .returned (.bool (frameB l0 dims curs)) ∧ Below w.heap.size w w' := by
  have H0 := Aside0.mk hr0
  clear hr0
  unfold frameB
  go_enter Try.func93, Try.ntmps93
  go_wp2_with fail
  refine (impl_between.to dims _ _ _).mono ?_
  rintro e w5 ⟨rfl, rfl⟩
  cases hinB : inB dims 1 20 with
  | false =>
    go_wp2_with fail
    go_ret
    exact ⟨ret_bool (by simp [hinB]), below_alloc (Below.refl _ _) _⟩
  | true =>
    go_wp2_with fail
    refine (impl_between.to curs _ _ _).mono ?_
    rintro e w6 ⟨rfl, rfl⟩
    cases hinC : inB curs 1 20 with
    | false =>
      go_wp2_with fail
      go_ret
      exact ⟨ret_bool (by simp [hinB, hinC]), below_alloc (Below.refl _ _) _⟩
    | true =>
      go_wp2_with fail
      refine (impl_ChartOk.to A0 c0 l0 _ (Kd.C_below H0.out (below_alloc (Below.refl _ _) _)) hs).mono ?_
      rintro e w1 ⟨rfl, hb⟩
      have HB := Aside0.mk (below_into (w := w) hb (below_alloc (Below.refl _ _) _))
      have s0 : w1.cell? ⟨w.heap.size, 0, none⟩ = some (.slice A0 l0.length c0) := pw_cell_below hb (by go_simp)
      have s1 : w1.cell? ⟨w.heap.size, 1, none⟩ = some (.int .i64 dims) := pw_cell_below hb (by go_simp)
      have s2 : w1.cell? ⟨w.heap.size, 2, none⟩ = some (.int .i64 curs) := pw_cell_below hb (by go_simp)
      clear hb
      cases hch : chartOk l0 with
      | false =>
        go_wp2_with fail
        go_ret
        exact ⟨ret_bool (by simp [hinB, hinC, hch]), HB.out⟩
      | true =>
        go_wp2_with fail
        go_ret
        exact ⟨ret_bool (by simp [hinB, hinC, hch]), HB.out⟩
end Go.Proofs.Ytphmnkcfjgallaa.Q
