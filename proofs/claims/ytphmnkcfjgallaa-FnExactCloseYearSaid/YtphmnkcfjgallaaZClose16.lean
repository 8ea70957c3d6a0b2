/- Parts of the proof: what functions of the program and of the reference answer.
   No condition. -/
import Derived.Test.YtphmnkcfjgallaaZClose1
import Derived.Test.YtphmnkcfjgallaaZClose4
import Derived.Test.YtphmnkcfjgallaaZClose8
import Derived.Test.YtphmnkcfjgallaaZClose13
import Derived.Test.YtphmnkcfjgallaaZClose9
import Derived.Test.YtphmnkcfjgallaaZClose12
import Derived.Test.YtphmnkcfjgallaaZClose6
import Derived.Test.YtphmnkcfjgallaaZClose10
import Derived.Test.YtphmnkcfjgallaaZClose2
import Derived.Test.YtphmnkcfjgallaaZClose14
namespace Go.Proofs.Ytphmnkcfjgallaa.Q
open Go.RowKit Go.Proofs.YtphmnkcfjgallaaW.PrintWords Go.Proofs.YtphmnkcfjgallaaW.PrintLast Go.Proofs.YtphmnkcfjgallaaW.PrintMore
set_option linter.unusedVariables false
set_option linter.unusedSimpArgs false
set_option maxHeartbeats 32000000 in
set_option maxRecDepth 100000 in
theorem impl_Balance.to (A : Option Addr) (cc : Nat) (es : List Ent) (h a d c fr tt : Int) (w : World) (hr : Kd.C k34 w A es.length es) (hn : es.length ≤ 1000) (hf : ∀ e ∈ es, entFine e) :
    Calls Try.prog 19 #[.agg #[.slice A es.length cc, .int .i64 h], .int .i64 a, .int .i64 d, .int .i64 c, .int .i64 fr, .int .i64 tt] w fun e w' => e = .returned (.tuple #[.int .i64 (amtV a d c fr tt es), .int .i64 (basV a d c fr tt es)]) ∧ Below w.heap.size w w' := by
  have HR := Aside0.mk hr
  have HF := Aside0.mk hf
  obtain ⟨PT, hPT⟩ : ∃ t, t = amtV a d c fr tt es := ⟨_, rfl⟩
  obtain ⟨QT, hQT⟩ : ∃ t, t = basV a d c fr tt es := ⟨_, rfl⟩
  rw [← hPT, ← hQT]
  have HB := Aside0.mk (below_alloc (Below.refl w.heap.size w) (.cells #[.slice A es.length cc, .int .i64 h] 29))
  have HPQ := Aside0.mk (And.intro hPT hQT)
  have BPT := amtV_b a d c fr tt es hf
  have BQT := basV_b a d c fr tt es hf
  rw [← hPT] at BPT
  rw [← hQT] at BQT
  clear hr hf hPT hQT
  go_enter Try.func19, Try.ntmps19
  go_wp2_with fail
  go_loopw [27, 14, 15] (fun v vp vq wr => ∃ i p q : Int, 0 ≤ i ∧ i ≤ (es.length : Int) ∧ v = .int .i64 i ∧ vp = .int .i64 p ∧ vq = .int .i64 q ∧ Aside0 (Below w.heap.size w wr) ∧ Aside0 (p + amtV a d c fr tt (es.drop i.toNat) = PT ∧ q + basV a d c fr tt (es.drop i.toNat) = QT) ∧ Aside0 (wr.cell? ⟨w.heap.size, 0, none⟩ = some (.slice A es.length cc))) (fun v _ _ _ => (es.length - (intOf v).toNat))
  case atStart => exact ⟨0, 0, 0, by omega, by omega, rfl, rfl, rfl, HB, ⟨by rw [HPQ.out.1, HPQ.out.2]; simp⟩, ⟨by go_simp⟩⟩
  case round =>
    clear HB
    obtain ⟨i, p, q, hi0, hi1, rfl, rfl, rfl, HB, HI, HF0⟩ := hrel
    have f0 := HF0.out
    have zz := World.block_lt_of_cell? _ _ f0
    by_cases hlt : i < (es.length : Int)
    case neg =>
      go_wp2_with fail
      go_ret2
      exact ⟨ret_ii (by have := HI.out.1; rw [List.drop_of_length_le (by omega)] at this; simpa [amtV] using this) (by have := HI.out.2; rw [List.drop_of_length_le (by omega)] at this; simpa [basV] using this), HB.out⟩
    obtain ⟨ad, A3, c3, e0, x0, x1, x2, x3, x4, x5⟩ := at_T34 HR.out i hi0 hlt
    cases e0
    replace x0 := pw_cell_below HB.out x0
    replace x1 := pw_cell_below HB.out x1
    replace x2 := pw_cell_below HB.out x2
    replace x3 := pw_cell_below HB.out x3
    have X5 := Aside0.mk x5
    have hfe : entFine (rd_T34 es i) := all_at (z := z34) (p := entFine) hi0 hlt HF.out
    have hl3 : (rd_T34 es i).f3.length ≤ 60 := hfe.1
    have HLF := Aside0.mk (show ∀ x ∈ (rd_T34 es i).f3, lineFine x from hfe.2)
    have HD := Aside0.mk (drop_at (l := es) (z := z34) hi0 hlt)
    have HFD := Aside0.mk (show ∀ e ∈ es.drop (i + 1).toNat, entFine e from fun e he => HF.out e (List.mem_of_mem_drop he))
    have hdl : (es.drop (i + 1).toNat).length ≤ 1000 := by rw [List.length_drop]; omega
    have BP := Aside0.mk (And.intro (amtV_b a d c fr tt (es.drop (i + 1).toNat) HFD.out) (basV_b a d c fr tt (es.drop (i + 1).toNat) HFD.out))
    have HE := Aside0.mk (show amtV a d c fr tt (es.drop i.toNat) = (if inB (rd_T34 es i).f0 fr tt = true then amtL a d c (rd_T34 es i).f3 else 0) + amtV a d c fr tt (es.drop (i + 1).toNat) ∧ basV a d c fr tt (es.drop i.toNat) = (if inB (rd_T34 es i).f0 fr tt = true then basL a d c (rd_T34 es i).f3 else 0) + basV a d c fr tt (es.drop (i + 1).toNat) from by rw [HD.out]; exact ⟨rfl, rfl⟩)
    clear x4 x5 hfe
    generalize (rd_T34 es i).f0 = day at *
    generalize (rd_T34 es i).f3 = ls at *
    have hb := below_alloc (Below.refl wr.heap.size wr) (.cells #[.int .i64 day, .int .i64 (rd_T34 es i).f1, .string (rd_T34 es i).f2, .slice A3 ls.length c3] 34)
    have HBX := Aside0.mk (below_into (w := w) hb HB.out)
    have y0 : (wr.alloc (.cells #[.int .i64 day, .int .i64 (rd_T34 es i).f1, .string (rd_T34 es i).f2, .slice A3 ls.length c3] 34)).cell? ⟨wr.heap.size, 0, none⟩ = some (.int .i64 day) := by go_simp
    have y3 : (wr.alloc (.cells #[.int .i64 day, .int .i64 (rd_T34 es i).f1, .string (rd_T34 es i).f2, .slice A3 ls.length c3] 34)).cell? ⟨wr.heap.size, 3, none⟩ = some (.slice A3 ls.length c3) := by go_simp
    have F0 := Aside0.mk (pw_cell_below hb f0)
    have Y0 := Aside0.mk y0
    have Y3 := Aside0.mk y3
    clear hb y0 y3
    go_wp2_with fail
    go_loopw [38, 14, 15] (fun v vp vq wq => ∃ j p q : Int, 0 ≤ j ∧ j ≤ (ls.length : Int) ∧ v = .int .i64 j ∧ vp = .int .i64 p ∧ vq = .int .i64 q ∧ Aside0 (Below w.heap.size w wq) ∧ Aside0 (p + (if inB day fr tt = true then amtL a d c (ls.drop j.toNat) else 0) + amtV a d c fr tt (es.drop (i + 1).toNat) = PT ∧ q + (if inB day fr tt = true then basL a d c (ls.drop j.toNat) else 0) + basV a d c fr tt (es.drop (i + 1).toNat) = QT) ∧ Aside0 (wq.cell? ⟨w.heap.size, 0, none⟩ = some (.slice (some ad) es.length cc) ∧ wq.cell? ⟨wr.heap.size, 0, none⟩ = some (.int .i64 day) ∧ wq.cell? ⟨wr.heap.size, 3, none⟩ = some (.slice A3 ls.length c3))) (fun v _ _ _ => (ls.length - (intOf v).toNat))
    case atStart => exact ⟨0, p, q, by omega, by omega, rfl, rfl, rfl, HBX, ⟨by have h1 := HI.out.1; have h2 := HI.out.2; rw [HE.out.1] at h1; rw [HE.out.2] at h2; simp only [show (0 : Int).toNat = 0 from rfl, List.drop_zero]; exact ⟨by omega, by omega⟩⟩, ⟨F0.out, Y0.out, Y3.out⟩⟩
    case round =>
      clear HB HBX F0 Y0 Y3 f0 x0 x1 x2 x3 zz HI HF0
      obtain ⟨j, p, q, hj0, hj1, rfl, rfl, rfl, HB, HI, HC⟩ := hrel
      have f0 := HC.out.1
      have y0 := HC.out.2.1
      have y3 := HC.out.2.2
      have zz := World.block_lt_of_cell? _ _ f0
      have zy := World.block_lt_of_cell? _ _ y0
      by_cases hlj : j < (ls.length : Int)
      case neg =>
        go_wp2_with fail
        go_roundw
        case rel => exact ⟨i + 1, p, q, by omega, by omega, rfl, rfl, rfl, HB, ⟨by have h1 := HI.out.1; have h2 := HI.out.2; rw [List.drop_of_length_le (by omega)] at h1 h2; simp [amtL, basL] at h1 h2; exact ⟨by omega, by omega⟩⟩, ⟨HC.out.1⟩⟩
        case measure => simp [intOf]; omega
      obtain ⟨ae, e0, u0, u1, u2, u3, u4⟩ := at_T112 (Kd.C_below X5.out HB.out) j hj0 hlj
      cases e0
      have hfl : lineFine (rd_T112 ls j) := all_at (z := z112) (p := lineFine) hj0 hlj HLF.out
      have HLD := Aside0.mk (drop_at (l := ls) (z := z112) hj0 hlj)
      have HLE := Aside0.mk (show amtL a d c (ls.drop j.toNat) = (if selL a d c (rd_T112 ls j) = true then (rd_T112 ls j).f3 else 0) + amtL a d c (ls.drop (j + 1).toNat) ∧ basL a d c (ls.drop j.toNat) = (if selL a d c (rd_T112 ls j) = true then (rd_T112 ls j).f4 else 0) + basL a d c (ls.drop (j + 1).toNat) from by rw [HLD.out]; exact ⟨rfl, rfl⟩)
      have HLL := Aside0.mk (show ∀ x ∈ ls.drop j.toNat, lineFine x from fun x hx => HLF.out x (List.mem_of_mem_drop hx))
      have hll : (ls.drop j.toNat).length ≤ 60 := by rw [List.length_drop]; omega
      have hpb : (-100000000000000000 ≤ p ∧ p ≤ 100000000000000000) ∧ (-100000000000000000 ≤ q ∧ q ≤ 100000000000000000) := by
        have t1 := amtL_b a d c _ HLL.out
        have t2 := basL_b a d c _ HLL.out
        have t3 := BP.out.1
        have t4 := BP.out.2
        have t5 := HI.out.1
        have t6 := HI.out.2
        refine ⟨⟨?_, ?_⟩, ⟨?_, ?_⟩⟩ <;> (split at t5 <;> omega)
      obtain ⟨⟨pb0, pb1⟩, ⟨qb0, qb1⟩⟩ := hpb
      have ca : inB (rd_T112 ls j).f3 (-100000000000) 100000000000 = true := inB_of hfl.1
      have cb : inB (rd_T112 ls j).f4 (-100000000000) 100000000000 = true := inB_of hfl.2
      have CA := Aside0.mk (fun W => (ca ▸ impl_amount.to (rd_T112 ls j).f3 W : Calls Try.prog 87 #[.int .i64 (rd_T112 ls j).f3] W fun e w' => e = .returned (.bool true) ∧ w' = W))
      have CB := Aside0.mk (fun W => (cb ▸ impl_amount.to (rd_T112 ls j).f4 W : Calls Try.prog 87 #[.int .i64 (rd_T112 ls j).f4] W fun e w' => e = .returned (.bool true) ∧ w' = W))
      obtain ⟨⟨b0, b1⟩, ⟨b2, b3⟩⟩ := hfl
      have HSEL := Aside0.mk (show selL a d c (rd_T112 ls j) = ((decide (a = -1) || decide (a = (rd_T112 ls j).f0)) && (decide (d = -1) || decide (d = (rd_T112 ls j).f1)) && (decide (c = -1) || decide (c = (rd_T112 ls j).f2))) from rfl)
      have o := below_alloc HB.out (.cells #[.int .i64 (rd_T112 ls j).f0, .int .i64 (rd_T112 ls j).f1, .int .i64 (rd_T112 ls j).f2, .int .i64 (rd_T112 ls j).f3, .int .i64 (rd_T112 ls j).f4] 112)
      have hb := below_alloc (Below.refl wr.heap.size wr) (.cells #[.int .i64 (rd_T112 ls j).f0, .int .i64 (rd_T112 ls j).f1, .int .i64 (rd_T112 ls j).f2, .int .i64 (rd_T112 ls j).f3, .int .i64 (rd_T112 ls j).f4] 112)
      have HCX := Aside0.mk (And.intro (pw_cell_below hb f0) (And.intro (pw_cell_below hb y0) (pw_cell_below hb y3)))
      have HBX := Aside0.mk o
      generalize (rd_T112 ls j).f0 = g0 at *
      generalize (rd_T112 ls j).f1 = g1 at *
      generalize (rd_T112 ls j).f2 = g2 at *
      generalize (rd_T112 ls j).f3 = g3 at *
      generalize (rd_T112 ls j).f4 = g4 at *
      generalize selL a d c (rd_T112 ls j) = sl at *
      clear o hb ca cb HC
      have HNO := Aside0.mk (show inB day fr tt = false ∨ sl = false → p + (if inB day fr tt = true then amtL a d c (ls.drop (j + 1).toNat) else 0) + amtV a d c fr tt (es.drop (i + 1).toNat) = PT ∧ q + (if inB day fr tt = true then basL a d c (ls.drop (j + 1).toNat) else 0) + basV a d c fr tt (es.drop (i + 1).toNat) = QT from fun hq => by
        have t5 := HI.out.1
        have t6 := HI.out.2
        rw [HLE.out.1] at t5
        rw [HLE.out.2] at t6
        rcases hq with hq | hq
        · rw [hq] at t5 t6 ⊢
          simp at t5 t6 ⊢
          exact ⟨t5, t6⟩
        · rw [hq] at t5 t6
          simp at t5 t6 ⊢
          exact ⟨t5, t6⟩)
      have HYE := Aside0.mk (show inB day fr tt = true → sl = true → (p + g3) + (if inB day fr tt = true then amtL a d c (ls.drop (j + 1).toNat) else 0) + amtV a d c fr tt (es.drop (i + 1).toNat) = PT ∧ (q + g4) + (if inB day fr tt = true then basL a d c (ls.drop (j + 1).toNat) else 0) + basV a d c fr tt (es.drop (i + 1).toNat) = QT from fun hd hq => by
        have t5 := HI.out.1
        have t6 := HI.out.2
        rw [HLE.out.1, hd, hq] at t5
        rw [HLE.out.2, hd, hq] at t6
        rw [hd]
        simp at t5 t6 ⊢
        exact ⟨by omega, by omega⟩)
      clear HI HLE HLD HLL
      by_cases hfr : fr ≤ day
      case neg =>
        have QD := Aside0.mk (show inB day fr tt = false from inB_not (fun q => hfr q.1))
        have cfr : decide (fr ≤ day) = false := decide_eq_false hfr
        clear hfr
        go_wp2_with fail
        refine (CA.out _).mono ?_
        rintro x w' ⟨rfl, rfl⟩
        go_wp2_with fail
        refine (CB.out _).mono ?_
        rintro x w' ⟨rfl, rfl⟩
        go_wp2_with fail
        go_roundw
        case rel => exact ⟨j + 1, p, q, by omega, by omega, rfl, rfl, rfl, HBX, ⟨HNO.out (.inl QD.out)⟩, HCX⟩
        case measure => simp [intOf]; omega
      by_cases htt : day ≤ tt
      case neg =>
        have QD := Aside0.mk (show inB day fr tt = false from inB_not (fun q => htt q.2))
        have cfr : decide (fr ≤ day) = true := decide_eq_true hfr
        have ctt : decide (day ≤ tt) = false := decide_eq_false htt
        clear hfr htt
        go_wp2_with fail
        refine (CA.out _).mono ?_
        rintro x w' ⟨rfl, rfl⟩
        go_wp2_with fail
        refine (CB.out _).mono ?_
        rintro x w' ⟨rfl, rfl⟩
        go_wp2_with fail
        go_roundw
        case rel => exact ⟨j + 1, p, q, by omega, by omega, rfl, rfl, rfl, HBX, ⟨HNO.out (.inl QD.out)⟩, HCX⟩
        case measure => simp [intOf]; omega
      case pos =>
        have QD := Aside0.mk (show inB day fr tt = true from inB_of ⟨hfr, htt⟩)
        have cfr : decide (fr ≤ day) = true := decide_eq_true hfr
        have ctt : decide (day ≤ tt) = true := decide_eq_true htt
        clear hfr htt
        by_cases m0 : a = -1
        · have K0 := Aside0.mk m0
          have k0b : (a == -1) = true := by rw [m0]; rfl
          clear m0
          by_cases m1 : d = -1
          · have K1 := Aside0.mk m1
            have k1b : (d == -1) = true := by rw [m1]; rfl
            clear m1
            by_cases m2 : c = -1
            · have K2 := Aside0.mk m2
              have k2b : (c == -1) = true := by rw [m2]; rfl
              clear m2
              go_wp2_with fail
              refine (CA.out _).mono ?_
              rintro x w' ⟨rfl, rfl⟩
              go_wp2_with fail
              refine (CB.out _).mono ?_
              rintro x w' ⟨rfl, rfl⟩
              go_wp2_with fail
              go_roundw
              case rel => exact ⟨j + 1, p + g3, q + g4, by omega, by omega, rfl, rfl, rfl, HBX, ⟨HYE.out QD.out (by rw [HSEL.out]; simp [K0.out, K1.out, K2.out])⟩, HCX⟩
              case measure => simp [intOf]; omega
            · have k2b : (c == -1) = false := beq_eq_false_iff_ne.2 m2
              by_cases mm2 : c = g2
              · have K2 := Aside0.mk mm2
                have k2c : (c == g2) = true := by rw [mm2]; exact beq_self_eq_true' _
                clear mm2 m2
                go_wp2_with fail
                refine (CA.out _).mono ?_
                rintro x w' ⟨rfl, rfl⟩
                go_wp2_with fail
                refine (CB.out _).mono ?_
                rintro x w' ⟨rfl, rfl⟩
                go_wp2_with fail
                go_roundw
                case rel => exact ⟨j + 1, p + g3, q + g4, by omega, by omega, rfl, rfl, rfl, HBX, ⟨HYE.out QD.out (by rw [HSEL.out]; simp [K0.out, K1.out, K2.out])⟩, HCX⟩
                case measure => simp [intOf]; omega
              · have K2 := Aside0.mk mm2
                have KK2 := Aside0.mk m2
                have k2c : (c == g2) = false := beq_eq_false_iff_ne.2 mm2
                clear mm2 m2
                go_wp2_with fail
                refine (CA.out _).mono ?_
                rintro x w' ⟨rfl, rfl⟩
                go_wp2_with fail
                refine (CB.out _).mono ?_
                rintro x w' ⟨rfl, rfl⟩
                go_wp2_with fail
                go_roundw
                case rel => exact ⟨j + 1, p, q, by omega, by omega, rfl, rfl, rfl, HBX, ⟨HNO.out (.inr (by rw [HSEL.out]; simp [K2.out, KK2.out]))⟩, HCX⟩
                case measure => simp [intOf]; omega
          · have k1b : (d == -1) = false := beq_eq_false_iff_ne.2 m1
            by_cases mm1 : d = g1
            · have K1 := Aside0.mk mm1
              have k1c : (d == g1) = true := by rw [mm1]; exact beq_self_eq_true' _
              clear mm1 m1
              by_cases m2 : c = -1
              · have K2 := Aside0.mk m2
                have k2b : (c == -1) = true := by rw [m2]; rfl
                clear m2
                go_wp2_with fail
                refine (CA.out _).mono ?_
                rintro x w' ⟨rfl, rfl⟩
                go_wp2_with fail
                refine (CB.out _).mono ?_
                rintro x w' ⟨rfl, rfl⟩
                go_wp2_with fail
                go_roundw
                case rel => exact ⟨j + 1, p + g3, q + g4, by omega, by omega, rfl, rfl, rfl, HBX, ⟨HYE.out QD.out (by rw [HSEL.out]; simp [K0.out, K1.out, K2.out])⟩, HCX⟩
                case measure => simp [intOf]; omega
              · have k2b : (c == -1) = false := beq_eq_false_iff_ne.2 m2
                by_cases mm2 : c = g2
                · have K2 := Aside0.mk mm2
                  have k2c : (c == g2) = true := by rw [mm2]; exact beq_self_eq_true' _
                  clear mm2 m2
                  go_wp2_with fail
                  refine (CA.out _).mono ?_
                  rintro x w' ⟨rfl, rfl⟩
                  go_wp2_with fail
                  refine (CB.out _).mono ?_
                  rintro x w' ⟨rfl, rfl⟩
                  go_wp2_with fail
                  go_roundw
                  case rel => exact ⟨j + 1, p + g3, q + g4, by omega, by omega, rfl, rfl, rfl, HBX, ⟨HYE.out QD.out (by rw [HSEL.out]; simp [K0.out, K1.out, K2.out])⟩, HCX⟩
                  case measure => simp [intOf]; omega
                · have K2 := Aside0.mk mm2
                  have KK2 := Aside0.mk m2
                  have k2c : (c == g2) = false := beq_eq_false_iff_ne.2 mm2
                  clear mm2 m2
                  go_wp2_with fail
                  refine (CA.out _).mono ?_
                  rintro x w' ⟨rfl, rfl⟩
                  go_wp2_with fail
                  refine (CB.out _).mono ?_
                  rintro x w' ⟨rfl, rfl⟩
                  go_wp2_with fail
                  go_roundw
                  case rel => exact ⟨j + 1, p, q, by omega, by omega, rfl, rfl, rfl, HBX, ⟨HNO.out (.inr (by rw [HSEL.out]; simp [K2.out, KK2.out]))⟩, HCX⟩
                  case measure => simp [intOf]; omega
            · have K1 := Aside0.mk mm1
              have KK1 := Aside0.mk m1
              have k1c : (d == g1) = false := beq_eq_false_iff_ne.2 mm1
              clear mm1 m1
              go_wp2_with fail
              refine (CA.out _).mono ?_
              rintro x w' ⟨rfl, rfl⟩
              go_wp2_with fail
              refine (CB.out _).mono ?_
              rintro x w' ⟨rfl, rfl⟩
              go_wp2_with fail
              go_roundw
              case rel => exact ⟨j + 1, p, q, by omega, by omega, rfl, rfl, rfl, HBX, ⟨HNO.out (.inr (by rw [HSEL.out]; simp [K1.out, KK1.out]))⟩, HCX⟩
              case measure => simp [intOf]; omega
        · have k0b : (a == -1) = false := beq_eq_false_iff_ne.2 m0
          by_cases mm0 : a = g0
          · have K0 := Aside0.mk mm0
            have k0c : (a == g0) = true := by rw [mm0]; exact beq_self_eq_true' _
            clear mm0 m0
            by_cases m1 : d = -1
            · have K1 := Aside0.mk m1
              have k1b : (d == -1) = true := by rw [m1]; rfl
              clear m1
              by_cases m2 : c = -1
              · have K2 := Aside0.mk m2
                have k2b : (c == -1) = true := by rw [m2]; rfl
                clear m2
                go_wp2_with fail
                refine (CA.out _).mono ?_
                rintro x w' ⟨rfl, rfl⟩
                go_wp2_with fail
                refine (CB.out _).mono ?_
                rintro x w' ⟨rfl, rfl⟩
                go_wp2_with fail
                go_roundw
                case rel => exact ⟨j + 1, p + g3, q + g4, by omega, by omega, rfl, rfl, rfl, HBX, ⟨HYE.out QD.out (by rw [HSEL.out]; simp [K0.out, K1.out, K2.out])⟩, HCX⟩
                case measure => simp [intOf]; omega
              · have k2b : (c == -1) = false := beq_eq_false_iff_ne.2 m2
                by_cases mm2 : c = g2
                · have K2 := Aside0.mk mm2
                  have k2c : (c == g2) = true := by rw [mm2]; exact beq_self_eq_true' _
                  clear mm2 m2
                  go_wp2_with fail
                  refine (CA.out _).mono ?_
                  rintro x w' ⟨rfl, rfl⟩
                  go_wp2_with fail
                  refine (CB.out _).mono ?_
                  rintro x w' ⟨rfl, rfl⟩
                  go_wp2_with fail
                  go_roundw
                  case rel => exact ⟨j + 1, p + g3, q + g4, by omega, by omega, rfl, rfl, rfl, HBX, ⟨HYE.out QD.out (by rw [HSEL.out]; simp [K0.out, K1.out, K2.out])⟩, HCX⟩
                  case measure => simp [intOf]; omega
                · have K2 := Aside0.mk mm2
                  have KK2 := Aside0.mk m2
                  have k2c : (c == g2) = false := beq_eq_false_iff_ne.2 mm2
                  clear mm2 m2
                  go_wp2_with fail
                  refine (CA.out _).mono ?_
                  rintro x w' ⟨rfl, rfl⟩
                  go_wp2_with fail
                  refine (CB.out _).mono ?_
                  rintro x w' ⟨rfl, rfl⟩
                  go_wp2_with fail
                  go_roundw
                  case rel => exact ⟨j + 1, p, q, by omega, by omega, rfl, rfl, rfl, HBX, ⟨HNO.out (.inr (by rw [HSEL.out]; simp [K2.out, KK2.out]))⟩, HCX⟩
                  case measure => simp [intOf]; omega
            · have k1b : (d == -1) = false := beq_eq_false_iff_ne.2 m1
              by_cases mm1 : d = g1
              · have K1 := Aside0.mk mm1
                have k1c : (d == g1) = true := by rw [mm1]; exact beq_self_eq_true' _
                clear mm1 m1
                by_cases m2 : c = -1
                · have K2 := Aside0.mk m2
                  have k2b : (c == -1) = true := by rw [m2]; rfl
                  clear m2
                  go_wp2_with fail
                  refine (CA.out _).mono ?_
                  rintro x w' ⟨rfl, rfl⟩
                  go_wp2_with fail
                  refine (CB.out _).mono ?_
                  rintro x w' ⟨rfl, rfl⟩
                  go_wp2_with fail
                  go_roundw
                  case rel => exact ⟨j + 1, p + g3, q + g4, by omega, by omega, rfl, rfl, rfl, HBX, ⟨HYE.out QD.out (by rw [HSEL.out]; simp [K0.out, K1.out, K2.out])⟩, HCX⟩
                  case measure => simp [intOf]; omega
                · have k2b : (c == -1) = false := beq_eq_false_iff_ne.2 m2
                  by_cases mm2 : c = g2
                  · have K2 := Aside0.mk mm2
                    have k2c : (c == g2) = true := by rw [mm2]; exact beq_self_eq_true' _
                    clear mm2 m2
                    go_wp2_with fail
                    refine (CA.out _).mono ?_
                    rintro x w' ⟨rfl, rfl⟩
                    go_wp2_with fail
                    refine (CB.out _).mono ?_
                    rintro x w' ⟨rfl, rfl⟩
                    go_wp2_with fail
                    go_roundw
                    case rel => exact ⟨j + 1, p + g3, q + g4, by omega, by omega, rfl, rfl, rfl, HBX, ⟨HYE.out QD.out (by rw [HSEL.out]; simp [K0.out, K1.out, K2.out])⟩, HCX⟩
                    case measure => simp [intOf]; omega
                  · have K2 := Aside0.mk mm2
                    have KK2 := Aside0.mk m2
                    have k2c : (c == g2) = false := beq_eq_false_iff_ne.2 mm2
                    clear mm2 m2
                    go_wp2_with fail
                    refine (CA.out _).mono ?_
                    rintro x w' ⟨rfl, rfl⟩
                    go_wp2_with fail
                    refine (CB.out _).mono ?_
                    rintro x w' ⟨rfl, rfl⟩
                    go_wp2_with fail
                    go_roundw
                    case rel => exact ⟨j + 1, p, q, by omega, by omega, rfl, rfl, rfl, HBX, ⟨HNO.out (.inr (by rw [HSEL.out]; simp [K2.out, KK2.out]))⟩, HCX⟩
                    case measure => simp [intOf]; omega
              · have K1 := Aside0.mk mm1
                have KK1 := Aside0.mk m1
                have k1c : (d == g1) = false := beq_eq_false_iff_ne.2 mm1
                clear mm1 m1
                go_wp2_with fail
                refine (CA.out _).mono ?_
                rintro x w' ⟨rfl, rfl⟩
                go_wp2_with fail
                refine (CB.out _).mono ?_
                rintro x w' ⟨rfl, rfl⟩
                go_wp2_with fail
                go_roundw
                case rel => exact ⟨j + 1, p, q, by omega, by omega, rfl, rfl, rfl, HBX, ⟨HNO.out (.inr (by rw [HSEL.out]; simp [K1.out, KK1.out]))⟩, HCX⟩
                case measure => simp [intOf]; omega
          · have K0 := Aside0.mk mm0
            have KK0 := Aside0.mk m0
            have k0c : (a == g0) = false := beq_eq_false_iff_ne.2 mm0
            clear mm0 m0
            go_wp2_with fail
            refine (CA.out _).mono ?_
            rintro x w' ⟨rfl, rfl⟩
            go_wp2_with fail
            refine (CB.out _).mono ?_
            rintro x w' ⟨rfl, rfl⟩
            go_wp2_with fail
            go_roundw
            case rel => exact ⟨j + 1, p, q, by omega, by omega, rfl, rfl, rfl, HBX, ⟨HNO.out (.inr (by rw [HSEL.out]; simp [K0.out, KK0.out]))⟩, HCX⟩
            case measure => simp [intOf]; omega
end Go.Proofs.Ytphmnkcfjgallaa.Q
namespace Go.Proofs.Ytphmnkcfjgallaa.Q
open Go.RowKit Go.Proofs.YtphmnkcfjgallaaW.PrintWords Go.Proofs.YtphmnkcfjgallaaW.PrintLast Go.Proofs.YtphmnkcfjgallaaW.PrintMore
attribute [local go_sem] max2_int min2_int max_two min_two max_three min_three max_four min_four   -- for this text's walks alone
set_option linter.unusedVariables false
set_option linter.unusedSimpArgs false
end Go.Proofs.Ytphmnkcfjgallaa.Q
namespace Go.Proofs.Ytphmnkcfjgallaa.Q
open Go.RowKit Go.Proofs.YtphmnkcfjgallaaW.PrintWords Go.Proofs.YtphmnkcfjgallaaW.PrintLast Go.Proofs.YtphmnkcfjgallaaW.PrintMore
set_option linter.unusedVariables false
set_option linter.unusedSimpArgs false
def mAll {α : Type} (m : Int → α → α) (nx : Int → α → Int) : Int → List α → List α
  | _, [] => []
  | a, x :: l => m a x :: mAll m nx (nx a x) l
def nAll {α : Type} (nx : Int → α → Int) : Int → List α → Int
  | a, [] => a
  | a, x :: l => nAll nx (nx a x) l
theorem mAll_length {α : Type} (m : Int → α → α) (nx : Int → α → Int) : ∀ (l : List α) (a : Int), (mAll m nx a l).length = l.length
  | [], _ => rfl
  | x :: l, a => by simp only [mAll, List.length_cons, mAll_length m nx l]
theorem nAll_snoc {α : Type} (nx : Int → α → Int) (x : α) : ∀ (l : List α) (a : Int), nAll nx a (l ++ [x]) = nx (nAll nx a l) x
  | [], _ => rfl
  | y :: l, a => nAll_snoc nx x l (nx a y)
theorem mAll_snoc {α : Type} (m : Int → α → α) (nx : Int → α → Int) (x : α) : ∀ (l : List α) (a : Int), mAll m nx a (l ++ [x]) = mAll m nx a l ++ [m (nAll nx a l) x]
  | [], _ => rfl
  | y :: l, a => by simp only [List.cons_append, mAll, nAll, mAll_snoc m nx x l]
theorem nAll_bound {α : Type} {nx : Int → α → Int} {C : Int} : ∀ (l : List α) (a : Int), (∀ x ∈ l, ∀ b, b ≤ nx b x ∧ nx b x ≤ b + C) → a ≤ nAll nx a l ∧ nAll nx a l ≤ a + C * (l.length : Int)
  | [], a, _ => by simp [nAll]
  | x :: l, a, h => by
    have h1 := h x List.mem_cons_self a
    have h2 := nAll_bound l (nx a x) (fun y hy => h y (List.mem_cons_of_mem _ hy))
    have : C * ((x :: l).length : Int) = C + C * (l.length : Int) := by rw [List.length_cons]; push_cast; rw [Int.mul_add]; omega
    simp only [nAll]
    omega
theorem mark_loop {α : Type} (F : Nat → List α → Int → Int → Option (Int × List α)) (m : Int → α → α) (nx : Int → α → Int) (z : α) (D : Nat) (C B : Int) (hC : 0 ≤ C) (ok : α → Prop)
    (hnx : ∀ x, ok x → ∀ b, b ≤ nx b x ∧ nx b x ≤ b + C)
    (hstep : ∀ (k : Nat) (x : List α) (a i : Int), D ≤ k → 0 ≤ i → i < (x.length : Int) → (x.length : Int) ≤ 1048576 → 0 ≤ a → a + C ≤ B → ok (x.getD i.toNat z) → F (k + 1) x a i = F k (x.set i.toNat (m a (x.getD i.toNat z))) (nx a (x.getD i.toNat z)) (i + 1))
    (hend : ∀ (k : Nat) (x : List α) (a i : Int), (x.length : Int) ≤ i → F (k + 1) x a i = some (a, x)) :
    ∀ (rest pre : List α) (k : Nat) (a : Int), rest.length + D < k → (pre ++ rest).length ≤ 1048576 → 0 ≤ a → a + C * (rest.length : Int) ≤ B → (∀ x ∈ rest, ok x) → F k (pre ++ rest) a (pre.length : Int) = some (nAll nx a rest, pre ++ mAll m nx a rest)
  | [], pre, k, a, hk, hl, h0, hB, ho => by
    obtain ⟨k, rfl⟩ : ∃ j, k = j + 1 := ⟨k - 1, by omega⟩
    rw [hend k _ a _ (by simp)]
    rfl
  | x :: rest, pre, k, a, hk, hl, h0, hB, ho => by
    obtain ⟨k, rfl⟩ : ∃ j, k = j + 1 := ⟨k - 1, by omega⟩
    have hx : (pre ++ x :: rest).getD (pre.length : Int).toNat z = x := by simp
    have hox := ho x List.mem_cons_self
    have h1 := hnx x hox a
    have hmul : C * ((x :: rest).length : Int) = C + C * (rest.length : Int) := by rw [List.length_cons]; push_cast; rw [Int.mul_add]; omega
    have hpos : 0 ≤ C * (rest.length : Int) := Int.mul_nonneg hC (by omega)
    simp only [List.length_cons] at hk
    rw [hstep k _ a _ (by omega) (by omega) (by simp; omega) (by omega) h0 (by omega) (by rw [hx]; exact hox), hx]
    have hs : (pre ++ x :: rest).set (pre.length : Int).toNat (m a x) = (pre ++ [m a x]) ++ rest := by simp
    have hp : ((pre.length : Int) + 1) = ((pre ++ [m a x]).length : Int) := by simp
    rw [hs, hp, mark_loop F m nx z D C B hC ok hnx hstep hend rest (pre ++ [m a x]) k (nx a x) (by omega) (by simp at hl ⊢; omega) (by omega) (by omega) (fun y hy => ho y (List.mem_cons_of_mem _ hy))]
    simp [nAll, mAll]
theorem held_loop {α : Type} (F : Nat → List α → Int → Int → Option Int) (m : Int → α → α) (nx : Int → α → Int) (z : α) (D : Nat) (C B : Int) (hC : 0 ≤ C) (ok : α → Prop)
    (hnx : ∀ x, ok x → ∀ b, b ≤ nx b x ∧ nx b x ≤ b + C)
    (hstep : ∀ (k : Nat) (y : List α) (x : α) (a i : Int), D ≤ k → 0 ≤ i → i < (y.length : Int) → (y.length : Int) ≤ 1048576 → 0 ≤ a → a + C ≤ B → ok x → y.getD i.toNat z = m a x → F (k + 1) y a i = F k y (nx a x) (i + 1))
    (hend : ∀ (k : Nat) (x : List α) (a i : Int), (x.length : Int) ≤ i → F (k + 1) x a i = some a) :
    ∀ (rest pre : List α) (k : Nat) (a : Int), rest.length + D < k → (pre ++ rest).length ≤ 1048576 → 0 ≤ a → a + C * (rest.length : Int) ≤ B → (∀ x ∈ rest, ok x) → F k (pre ++ mAll m nx a rest) a (pre.length : Int) = some (nAll nx a rest)
  | [], pre, k, a, hk, hl, h0, hB, ho => by
    obtain ⟨k, rfl⟩ : ∃ j, k = j + 1 := ⟨k - 1, by omega⟩
    rw [hend k _ a _ (by simp [mAll])]
    rfl
  | x :: rest, pre, k, a, hk, hl, h0, hB, ho => by
    obtain ⟨k, rfl⟩ : ∃ j, k = j + 1 := ⟨k - 1, by omega⟩
    have hx : (pre ++ mAll m nx a (x :: rest)).getD (pre.length : Int).toNat z = m a x := by simp [mAll]
    have hox := ho x List.mem_cons_self
    have h1 := hnx x hox a
    have hmul : C * ((x :: rest).length : Int) = C + C * (rest.length : Int) := by rw [List.length_cons]; push_cast; rw [Int.mul_add]; omega
    have hpos : 0 ≤ C * (rest.length : Int) := Int.mul_nonneg hC (by omega)
    simp only [List.length_cons] at hk
    have hlen : (pre ++ mAll m nx a (x :: rest)).length = (pre ++ x :: rest).length := by simp [mAll_length]
    rw [hstep k _ x a _ (by omega) (by omega) (by rw [hlen]; simp; omega) (by rw [hlen]; omega) h0 (by omega) hox hx]
    have hs : pre ++ mAll m nx a (x :: rest) = (pre ++ [m a x]) ++ mAll m nx (nx a x) rest := by simp [mAll]
    have hp : ((pre.length : Int) + 1) = ((pre ++ [m a x]).length : Int) := by simp
    rw [hs, hp, held_loop F m nx z D C B hC ok hnx hstep hend rest (pre ++ [m a x]) k (nx a x) (by omega) (by simp at hl ⊢; omega) (by omega) (by omega) (fun y hy => ho y (List.mem_cons_of_mem _ hy))]
    rfl
theorem tdiv10 {a : Int} (h0 : 0 ≤ a) (h1 : a ≤ 4611686018427387904) : wrap64 (Int.tdiv a 10) = a / 10 := by
  rw [Int.tdiv_eq_ediv_of_nonneg h0]
  unfold wrap64
  omega
theorem markText_l0 : ∀ (n k : Nat) (a : Int) (s : ByteArray), 0 ≤ a → a ≤ 4611686018427387904 → a < 10 ^ n → s.size + n ≤ 1000 → n < k → ∃ t, laws_markText.l0 k a s = some t ∧ t.size ≤ 1001
  | 0, k, a, s, h0, h1, h2, hs, hk => by
    obtain ⟨k, rfl⟩ : ∃ j, k = j + 1 := ⟨k - 1, by omega⟩
    have : a = 0 := by simp at h2; omega
    subst this
    refine ⟨_, by simp only [laws_markText.l0]; rw [if_neg (by omega), if_pos (by omega)], ?_⟩
    rw [ByteArray.size_append]
    show 1 + s.size ≤ _
    omega
  | n + 1, k, a, s, h0, h1, h2, hs, hk => by
    obtain ⟨k, rfl⟩ : ∃ j, k = j + 1 := ⟨k - 1, by omega⟩
    by_cases hp : a > 0
    · simp only [laws_markText.l0]
      rw [if_pos hp]
      simp only [Option.bind_some]
      have h3 : a / 10 < 10 ^ n := Int.ediv_lt_of_lt_mul (by decide) (by rw [← Int.pow_succ]; exact h2)
      have hsz : ∀ x : Int, (strOfNums [x]).size = 1 := fun x => rfl
      rw [if_pos (by rw [hsz]; omega), tdiv10 h0 h1]
      exact markText_l0 n k (a / 10) _ (by omega) (by omega) h3 (by rw [ByteArray.size_append, hsz]; omega) (by omega)
    · have : a = 0 := by omega
      subst this
      refine ⟨_, by simp only [laws_markText.l0]; rw [if_neg (by omega), if_pos (by omega)], ?_⟩
      rw [ByteArray.size_append]
      show 1 + s.size ≤ _
      omega
noncomputable def mText (a : Int) : ByteArray := (laws_markText.f 100 a).getD ⟨#[]⟩
theorem laws_markText_is {a : Int} (h0 : 0 ≤ a) (h1 : a ≤ 4611686018427387904) {k : Nat} (hk : 100 ≤ k) : laws_markText.f k a = some (mText a) := by
  have h : ∃ t, laws_markText.f 100 a = some t := by
    unfold laws_markText.f
    split
    · exact ⟨_, rfl⟩
    · obtain ⟨t, ht, _⟩ := markText_l0 19 100 a ⟨#[]⟩ h0 h1 (by omega) (by decide) (by omega)
      exact ⟨t, ht⟩
  obtain ⟨t, ht⟩ := h
  have hm : mText a = t := by unfold mText; rw [ht]; rfl
  rw [hm]
  exact at_rounds (g := fun k => laws_markText.f k a) (fun k => laws_markText.mono a k) hk ht
theorem wr1 {a : Int} (h0 : 0 ≤ a) (h1 : a ≤ 4611686018427387904) : wrap64 (a + 1) = a + 1 := by unfold wrap64; omega
def mLine (a : Int) (_ : Lin) : Lin := ⟨a, a + 1, a + 1 + 1, a + 1 + 1 + 1, a + 1 + 1 + 1 + 1⟩
def nLine (a : Int) (_ : Lin) : Int := a + 1 + 1 + 1 + 1 + 1
def mPer (a : Int) (_ : Per) : Per := ⟨a, a + 1⟩
def nPer (a : Int) (_ : Per) : Int := a + 1 + 1
noncomputable def mAcc (a : Int) (_ : Acc) : Acc := ⟨mText a, a + 1, a + 1 + 1⟩
def nAcc (a : Int) (_ : Acc) : Int := a + 1 + 1 + 1
noncomputable def mEnt (a : Int) (x : Ent) : Ent := ⟨a, a + 1, mText (a + 1 + 1), mAll mLine nLine (a + 1 + 1 + 1) x.f3⟩
def nEnt (a : Int) (x : Ent) : Int := nAll nLine (a + 1 + 1 + 1) x.f3
theorem rdset112 {x : List S112} {i : Int} (h : i < (x.length : Int)) (h0 : 0 ≤ i) (v : S112) : rd_T112 (x.set i.toNat v) i = v := by
  unfold rd_T112; rw [List.getD_eq_getElem?_getD, List.getElem?_set_self (by omega)]; rfl
theorem rdset131 {x : List S131} {i : Int} (h : i < (x.length : Int)) (h0 : 0 ≤ i) (v : S131) : rd_T131 (x.set i.toNat v) i = v := by
  unfold rd_T131; rw [List.getD_eq_getElem?_getD, List.getElem?_set_self (by omega)]; rfl
theorem rdset133 {x : List S133} {i : Int} (h : i < (x.length : Int)) (h0 : 0 ≤ i) (v : S133) : rd_T133 (x.set i.toNat v) i = v := by
  unfold rd_T133; rw [List.getD_eq_getElem?_getD, List.getElem?_set_self (by omega)]; rfl
theorem nLine_b (l : List Lin) (a : Int) : a ≤ nAll nLine a l ∧ nAll nLine a l ≤ a + 5 * (l.length : Int) := nAll_bound l a (fun x _ b => by unfold nLine; omega)
theorem laws_markLineS_is (l : List Lin) (k : Nat) (a : Int) (hk : l.length < k) (hl : l.length ≤ 1048576) (h0 : 0 ≤ a) (h1 : a ≤ 1000000000000000) : laws_markLineS.f k l a = some (nAll nLine a l, mAll mLine nLine a l) := by
  have := mark_loop laws_markLineS.l0 mLine nLine z112 0 5 4611686018427387000 (by omega) (fun _ => True) (fun x _ b => by unfold nLine; omega) (fun k x a i _ hi hi2 hl h0 hB _ => by
    simp only [laws_markLineS.l0, Option.bind_some]
    rw [if_pos hi2, if_pos hi, wr1 h0 (by omega), wr1 (a := a + 1) (by omega) (by omega), wr1 (a := a + 1 + 1) (by omega) (by omega), wr1 (a := a + 1 + 1 + 1) (by omega) (by omega), wr1 (a := a + 1 + 1 + 1 + 1) (by omega) (by omega), wr1 hi (by omega)]
    simp only [List.set_set, rdset112 hi2 hi]
    rfl) (fun k x a i h => by simp only [laws_markLineS.l0]; rw [if_neg (by omega)]) l [] k a (by omega) (by simpa using hl) h0 (by omega) (fun _ _ => trivial)
  exact this
theorem laws_markPeriodS_is (l : List Per) (k : Nat) (a : Int) (hk : l.length < k) (hl : l.length ≤ 1048576) (h0 : 0 ≤ a) (h1 : a ≤ 1000000000000000) : laws_markPeriodS.f k l a = some (nAll nPer a l, mAll mPer nPer a l) := by
  have := mark_loop laws_markPeriodS.l0 mPer nPer z133 0 2 4611686018427387000 (by omega) (fun _ => True) (fun x _ b => by unfold nPer; omega) (fun k x a i _ hi hi2 hl h0 hB _ => by
    simp only [laws_markPeriodS.l0, Option.bind_some]
    rw [if_pos hi2, if_pos hi, wr1 h0 (by omega), wr1 (a := a + 1) (by omega) (by omega), wr1 hi (by omega)]
    simp only [List.set_set, rdset133 hi2 hi]
    rfl) (fun k x a i h => by simp only [laws_markPeriodS.l0]; rw [if_neg (by omega)]) l [] k a (by omega) (by simpa using hl) h0 (by omega) (fun _ _ => trivial)
  exact this
theorem laws_markAccountS_is (l : List Acc) (k : Nat) (a : Int) (hk : l.length + 100 < k) (hl : l.length ≤ 1048576) (h0 : 0 ≤ a) (h1 : a ≤ 1000000000000000) : laws_markAccountS.f k l a = some (nAll nAcc a l, mAll mAcc nAcc a l) := by
  have := mark_loop laws_markAccountS.l0 mAcc nAcc z131 100 3 4611686018427387000 (by omega) (fun _ => True) (fun x _ b => by unfold nAcc; omega) (fun k x a i hD hi hi2 hl h0 hB _ => by
    simp only [laws_markAccountS.l0]
    rw [if_pos hi2, laws_markText_is h0 (by omega) hD]
    simp only [Option.bind_some]
    rw [if_pos hi, wr1 h0 (by omega), wr1 (a := a + 1) (by omega) (by omega), wr1 (a := a + 1 + 1) (by omega) (by omega), wr1 hi (by omega)]
    simp only [List.set_set, rdset131 hi2 hi]
    rfl) (fun k x a i h => by simp only [laws_markAccountS.l0]; rw [if_neg (by omega)]) l [] k a (by omega) (by simpa using hl) h0 (by omega) (fun _ _ => trivial)
  exact this
theorem nAcc_b (l : List Acc) (a : Int) : a ≤ nAll nAcc a l ∧ nAll nAcc a l ≤ a + 3 * (l.length : Int) := nAll_bound l a (fun x _ b => by unfold nAcc; omega)
theorem nPer_b (l : List Per) (a : Int) : a ≤ nAll nPer a l ∧ nAll nPer a l ≤ a + 2 * (l.length : Int) := nAll_bound l a (fun x _ b => by unfold nPer; omega)
theorem nEnt_b (l : List Ent) (h : ∀ x ∈ l, x.f3.length ≤ 1048576) (a : Int) : a ≤ nAll nEnt a l ∧ nAll nEnt a l ≤ a + 5242883 * (l.length : Int) := nAll_bound l a (fun x hx b => by have h1 := h x hx; have h2 := nLine_b x.f3 (b + 1 + 1 + 1); unfold nEnt; omega)
end Go.Proofs.Ytphmnkcfjgallaa.Q
namespace Go.Proofs.Ytphmnkcfjgallaa.Q
open Go.RowKit Go.Proofs.YtphmnkcfjgallaaW.PrintWords Go.Proofs.YtphmnkcfjgallaaW.PrintLast Go.Proofs.YtphmnkcfjgallaaW.PrintMore
attribute [local go_sem] max2_int min2_int max_two min_two max_three min_three max_four min_four   -- for this text's walks alone
set_option linter.unusedVariables false
set_option linter.unusedSimpArgs false
set_option maxHeartbeats 4000000 in
set_option maxRecDepth 100000 in
theorem laws_eqLedger.calls (A0_0 : Option Addr) (c0_0 : Nat) (l0_0 : List (S34)) (a0_1 : Int) (A1_0 : Option Addr) (c1_0 : Nat) (l1_0 : List (S34)) (a1_1 : Int) (w : World) (hr0_0 : Kd.C k34 w A0_0 l0_0.length l0_0) (hr1_0 : Kd.C k34 w A1_0 l1_0.length l1_0) :
    Calls Try.prog 51 #[.agg #[.slice A0_0 l0_0.length c0_0, .int .i64 a0_1], .agg #[.slice A1_0 l1_0.length c1_0, .int .i64 a1_1]] w fun e w' => e = .returned (.bool (same ((⟨l0_0, a0_1⟩ : S29) : S29) ((⟨l1_0, a1_1⟩ : S29) : S29))) ∧ Below w.heap.size w w' := by
  have Hl0_0 := Aside0.mk hr0_0
  clear hr0_0
  have Hl1_0 := Aside0.mk hr1_0
  clear hr1_0
  go_enter Try.func51, Try.ntmps51
  go_wp2_with fail
  refine (laws_eqEntryS.calls A0_0 c0_0 l0_0 A1_0 c1_0 l1_0 _ (Kd.C_below Hl0_0.out (by repeat (first | exact Below.refl _ _ | refine below_alloc ?_ _ | refine below_drew1 ?_ | refine pw_below_drewN ?_ _))) (Kd.C_below Hl1_0.out (by repeat (first | exact Below.refl _ _ | refine below_alloc ?_ _ | refine below_drew1 ?_ | refine pw_below_drewN ?_ _)))).mono ?_
  rintro e w10 ⟨rfl, hb⟩
  have s0_a1 : w10.cell? ⟨w.heap.size, 1, none⟩ = some (.int .i64 a0_1) := pw_cell_below hb (by first | assumption | (go_simp; done))
  have s0_b1 : w10.cell? ⟨w.heap.size + 1, 1, none⟩ = some (.int .i64 a1_1) := pw_cell_below hb (by first | assumption | (go_simp; done))
  have HB0 := Aside0.mk (below_into (w := w) hb (by repeat (first | exact Below.refl _ _ | refine below_alloc ?_ _ | refine below_drew1 ?_ | refine pw_below_drewN ?_ _)))
  clear hb
  by_cases h0 : l0_0 = l1_0
  · rw [← same_true h0]
    have E0 := Aside0.mk h0
    clear h0
    by_cases h1 : a0_1 = a1_1
    · have hb1 : (a0_1 != a1_1) = false := by rw [h1]; simp
      have E1 := Aside0.mk h1
      clear h1
      go_wp2
      go_ret
      exact ⟨ret_bool (same_true (by rw [E0.out, E1.out])), HB0.out⟩
    · have hb1 : (a0_1 != a1_1) = true := by simpa using h1
      have E1 := Aside0.mk h1
      clear h1
      go_wp2
      go_ret
      exact ⟨ret_bool (same_false (fun h => E1.out (congrArg (fun x : S29 => x.f1) h))), HB0.out⟩
  · rw [← same_false h0]
    have E0 := Aside0.mk h0
    clear h0
    go_wp2
    go_ret
    exact ⟨ret_bool (same_false (fun h => E0.out (congrArg (fun x : S29 => x.f0) h))), HB0.out⟩
end Go.Proofs.Ytphmnkcfjgallaa.Q
