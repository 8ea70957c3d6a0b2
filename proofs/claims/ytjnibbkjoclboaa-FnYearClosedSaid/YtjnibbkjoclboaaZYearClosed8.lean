/- Parts of the proof: what functions of the program and of the reference answer.
   No condition. -/
import Derived.Test.YtjnibbkjoclboaaZYearClosed1
import Derived.Test.YtjnibbkjoclboaaZYearClosed3
namespace Go.Proofs.Ytjnibbkjoclboaa.Q
open Go.RowKit Go.Proofs.YtjnibbkjoclboaaW.PrintWords Go.Proofs.YtjnibbkjoclboaaW.PrintLast Go.Proofs.YtjnibbkjoclboaaW.PrintMore
attribute [local go_sem] max2_int min2_int max_two min_two max_three min_three max_four min_four   -- for this text's walks alone
set_option linter.unusedVariables false
set_option linter.unusedSimpArgs false
theorem rowOk_par {chart : List Acc} {i : Int} (h : rowsOk chart i) (h0 : 0 ≤ i) (hr : rowOk chart i) : -1 ≤ par chart i ∧ par chart i ≤ i - 1 := by
  rcases hr.2.2.2 with q | ⟨q, _⟩
  · omega
  · have := up_is h h0 q
    omega
theorem no_dup {chart : List Acc} {k i : Int} (h : code chart k = code chart i) (h0 : 0 ≤ k) (h1 : k < i) : ¬ rowOk chart i := fun q => q.1 k h0 h1 h
set_option maxHeartbeats 8000000 in
set_option maxRecDepth 100000 in
theorem spec_ChartOk.to (A0 : Option Addr) (c0 : Nat) (l0 : List Acc) (w : World) (hr0 : Kd.C k43 w A0 l0.length l0) (hs : ∀ x ∈ l0, x.f0.size ≤ maxLen) :
    Calls Try.prog 45 #[.slice A0 l0.length c0] w fun e w' => e = .returned (.bool (chartOk l0)) ∧ Below w.heap.size w w' := by
  have hl := hr0.2.1
  have H0 := Aside0.mk hr0
  have HS := Aside0.mk hs
  clear hr0 hs
  by_cases hn : 1 ≤ l0.length ∧ l0.length ≤ 120
  · obtain ⟨h1, h2⟩ := hn
    have hin : inB (l0.length : Int) 1 120 = true := inB_of (by omega)
    go_enter Try.func45, Try.ntmps45
    go_wp2_with fail
    refine (spec_l1In.to _ _ _ _).mono ?_
    rintro e w' ⟨rfl, rfl⟩
    go_wp2_with fail
    go_loopw [3] (fun v wr => ∃ i : Int, 0 ≤ i ∧ i ≤ (l0.length : Int) ∧ v = .int .i64 i ∧ Aside0 (Below w'.heap.size w' wr) ∧ Aside0 (rowsOk l0 i)) (fun v _ => (l0.length - (intOf v).toNat))
    case atStart => exact ⟨0, by omega, by omega, rfl, ⟨Below.refl _ _⟩, ⟨fun j h0 h1 => by omega⟩⟩
    case round =>
      obtain ⟨i, hi0, hi1, rfl, HB, HR⟩ := hrel
      by_cases hlt : i < (l0.length : Int)
      · obtain ⟨ad, e0, x0, x1, x2⟩ := at_T43 (Kd.C_below H0.out HB.out) i hi0 hlt
        cases e0
        have hsz : (code l0 i).size ≤ 9223372036854775807 := all_at (z := z43) (p := fun x => x.f0.size ≤ maxLen) hi0 hlt HS.out
        go_wp2_with fail
        refine (spec_NameOk.to (code l0 i) _ hsz).mono ?_
        rintro e w1 ⟨rfl, rfl⟩
        cases hnm : nameOk (code l0 i) with
        | false =>
          go_wp2_with fail
          go_ret
          exact ⟨ret_bool (chartOk_row hi0 hlt (fun q => by have := q.2.1; rw [hnm] at this; cases this)).symm, below_alloc HB.out _⟩
        | true =>
          have HNM := Aside0.mk hnm
          clear hnm
          go_wp2_with fail
          refine (spec_l1In.to (knd l0 i) _ _ _).mono ?_
          rintro e w1 ⟨rfl, rfl⟩
          cases hkd : inB (knd l0 i) 1 5 with
          | false =>
            go_wp2_with fail
            go_ret
            exact ⟨ret_bool (chartOk_row hi0 hlt (fun q => inB_false.1 hkd q.2.2.1)).symm, below_alloc HB.out _⟩
          | true =>
            have HKD := Aside0.mk hkd
            clear hkd
            go_wp2_with fail
            refine (spec_l1In.to (par l0 i) _ _ _).mono ?_
            rintro e w1 ⟨rfl, rfl⟩
            cases hpr : inB (par l0 i) (-1) (i - 1) with
            | false =>
              go_wp2_with fail
              go_ret
              exact ⟨ret_bool (chartOk_row hi0 hlt (fun q => inB_false.1 hpr (rowOk_par HR.out hi0 q))).symm, below_alloc HB.out _⟩
            | true =>
              have HPR := Aside0.mk (inB_true.1 hpr)
              clear hpr
              go_wp2_with fail
              go_loopw [5] (fun v wd => ∃ k : Int, 0 ≤ k ∧ k ≤ i ∧ v = .int .i64 k ∧ Aside0 (Below w'.heap.size w' wd) ∧ Aside0 (wd.heap[wr.heap.size]? = some (.cells #[.string (rd_T43 l0 i).f0, .int .i64 (rd_T43 l0 i).f1, .int .i64 (rd_T43 l0 i).f2] 43 (0, 0))) ∧ Aside0 (∀ j : Int, 0 ≤ j → j < k → code l0 j ≠ code l0 i)) (fun v _ => (i - intOf v).toNat)
              case atStart => exact ⟨0, by omega, by omega, rfl, ⟨below_alloc HB.out _⟩, ⟨blk_new _ _⟩, ⟨fun j h0 h1 => by omega⟩⟩
              case round =>
                obtain ⟨k, hk0, hk1, rfl, HBd, HV, HT⟩ := hrel
                have v0 := blk_cell HV.out 0
                have v1 := blk_cell HV.out 1
                have v2 := blk_cell HV.out 2
                by_cases hki : k < i
                · have hkl : k < (l0.length : Int) := by omega
                  obtain ⟨ad', e0, z0, z1, z2⟩ := at_T43 (Kd.C_below H0.out HBd.out) k hk0 hkl
                  obtain rfl : ad = ad' := by injection e0
                  by_cases hc : code l0 k = code l0 i
                  · have hcb : ((rd_T43 l0 k).f0.toList == (rd_T43 l0 i).f0.toList) = true := beq_bytes hc
                    have HC := Aside0.mk hc
                    clear hc
                    go_wp2_with fail
                    go_quiet (fail)
                    go_wp2_with fail
                    go_ret
                    exact ⟨ret_bool (chartOk_row hi0 hlt (no_dup HC.out hk0 hki)).symm, pw_below_drewN HBd.out _⟩
                  · have hcb : ((rd_T43 l0 k).f0.toList == (rd_T43 l0 i).f0.toList) = false := nbeq_bytes hc
                    have HC := Aside0.mk hc
                    clear hc
                    go_wp2_with fail
                    go_quiet (fail)
                    go_wp2_with fail
                    go_roundw
                    case rel => exact ⟨k + 1, by omega, by omega, rfl, ⟨pw_below_drewN HBd.out _⟩, ⟨blk_drewN HV.out _⟩, ⟨fun j j0 j1 => by
                      by_cases e : j = k
                      · subst e; exact HC.out
                      · exact HT.out j j0 (by omega)⟩⟩
                    case measure => simp [intOf]; omega
                · obtain rfl : k = i := by omega
                  have hk1' := hk1
                  by_cases hp : (rd_T43 l0 k).f1 < 0
                  · have HP := Aside0.mk hp
                    go_wp2_with fail
                    go_roundw
                    case rel => exact ⟨k + 1, by omega, by omega, rfl, HBd, ⟨rows_step hi0 HR.out ⟨HT.out, HNM.out, inB_true.1 HKD.out, Or.inl (by have := HPR.out.1; have h9 : par l0 k < 0 := HP.out; omega)⟩⟩⟩
                    case measure => simp [intOf]; omega
                  · have HPN := Aside0.mk (show 0 ≤ par l0 k from by have h8 : ¬ (rd_T43 l0 k).f1 < 0 := hp; show 0 ≤ (rd_T43 l0 k).f1; omega)
                    have hlo := Aside0.mk (rows_lo HR.out)
                    have hpar := Aside0.mk (rows_par HR.out)
                    have hpa := Aside0.mk (show ∀ j : Int, 0 ≤ j → j ≤ k → par l0 j < j from fun j j0 j1 => by
                      by_cases e : j = k
                      · subst e; have := HPR.out.2; omega
                      · exact hpar.out j j0 (by omega))
                    go_wp2_with fail
                    go_loop [6] (fun v => ∃ m : Int, -1 ≤ m ∧ m < k ∧ v = .int .i64 m ∧ Aside0 (∀ n : Nat, m + 1 ≤ n → climb l0 (par l0 k) n m = up l0 k)) (fun v => (intOf v + 1).toNat)
                    case atStart => exact ⟨k - 1, by omega, by omega, rfl, ⟨fun n hn => climb_more l0 (par l0 k) k hpar.out _ _ _ (by omega) hn (by omega)⟩⟩
                    case round =>
                      obtain ⟨m, hm0, hm1, rfl, HCL⟩ := hrel
                      by_cases hm : 0 ≤ m
                      · have hml : m < (l0.length : Int) := by omega
                        obtain ⟨ad', e0, z0, z1, z2⟩ := at_T43 (Kd.C_below H0.out HBd.out) m hm hml
                        obtain rfl : ad = ad' := by injection e0
                        by_cases hmp : m = par l0 k
                        · have hmb : (m != (rd_T43 l0 k).f1) = false := by rw [hmp]; exact bne_self_eq_false' _
                          have HU := Aside0.mk (climb_at (fun q => q.2 hmp) HCL.out)
                          clear hmp
                          by_cases hkd : knd l0 m = knd l0 k
                          · have hkdb : ((rd_T43 l0 m).f2 != (rd_T43 l0 k).f2) = false := by rw [show (rd_T43 l0 m).f2 = (rd_T43 l0 k).f2 from hkd]; exact bne_self_eq_false' _
                            have HKE := Aside0.mk hkd
                            clear hkd
                            have HDE := Aside0.mk (deep_up HR.out hi0 (by rw [HU.out]; exact hm))
                            by_cases hde : 8 < deepAt l0 k
                            · go_wp2_with fail
                              go_quiet ((go_at_call 59; exact Calls.quiet_of_same (spec_l4Deep.to (some ad) c0 l0 k _ (Kd.C_drewN (Kd.C_below H0.out HBd.out) _) hi0 (by omega) h2 hpa.out)))
                              go_wp2_with fail
                              go_ret
                              exact ⟨ret_bool (chartOk_row hi0 hlt (fun q => by rcases q.2.2.2 with q | ⟨q0, _, q⟩; (have h7 := HPN.out; omega); have h8 := HDE.out; omega)).symm, pw_below_drewN HBd.out _⟩
                            · go_wp2_with fail
                              go_quiet ((go_at_call 59; exact Calls.quiet_of_same (spec_l4Deep.to (some ad) c0 l0 k _ (Kd.C_drewN (Kd.C_below H0.out HBd.out) _) hi0 (by omega) h2 hpa.out)))
                              go_wp2_with fail
                              go_roundw
                              case rel => exact ⟨k + 1, by omega, by omega, rfl, ⟨pw_below_drewN HBd.out _⟩, ⟨rows_step hi0 HR.out ⟨HT.out, HNM.out, inB_true.1 HKD.out, Or.inr ⟨by rw [HU.out]; exact hm, by rw [HU.out]; exact HKE.out, by have := HDE.out; omega⟩⟩⟩⟩
                              case measure => simp [intOf]; omega
                          · have hkdb : ((rd_T43 l0 m).f2 != (rd_T43 l0 k).f2) = true := bne_iff_ne.2 hkd
                            have HKE := Aside0.mk hkd
                            clear hkd
                            go_wp2_with fail
                            go_quiet (fail)
                            go_wp2_with fail
                            go_ret
                            exact ⟨ret_bool (chartOk_row hi0 hlt (fun q => by rcases q.2.2.2 with q | ⟨_, q, _⟩; (have h7 := HPN.out; omega); rw [HU.out] at q; exact HKE.out q)).symm, pw_below_drewN HBd.out _⟩
                        · have hmb : (m != (rd_T43 l0 k).f1) = true := bne_iff_ne.2 hmp
                          have HKP := Aside0.mk hmp
                          clear hmp
                          have b1 := hlo.out m hm (by omega)
                          have b2 := hpar.out m hm (by omega)
                          go_wp2_with fail
                          go_round
                          case rel => exact ⟨par l0 m, b1, by omega, rfl, ⟨climb_go hpar.out hm hm1 HKP.out HCL.out⟩⟩
                          case measure => show (par l0 m + 1).toNat < (m + 1).toNat; omega
                      · have HU := Aside0.mk (climb_at (fun q => hm q.1) HCL.out)
                        go_wp2_with fail
                        go_quiet (fail)
                        go_wp2_with fail
                        go_ret
                        exact ⟨ret_bool (chartOk_row hi0 hlt (fun q => by rcases q.2.2.2 with q | ⟨q, _⟩; (have h7 := HPN.out; omega); rw [HU.out] at q; omega)).symm, pw_below_drewN HBd.out _⟩
      · go_wp2_with fail
        go_ret
        exact ⟨ret_bool (chartOk_all h1 h2 (by omega) HR.out).symm, HB.out⟩
  · have hin : inB (l0.length : Int) 1 120 = false := inB_not (by omega)
    go_enter Try.func45, Try.ntmps45
    go_wp2_with fail
    refine (spec_l1In.to _ _ _ _).mono ?_
    rintro e w' ⟨rfl, rfl⟩
    go_wp2_with fail
    go_ret
    exact ⟨ret_bool (chartOk_len hn).symm, Below.refl _ _⟩
end Go.Proofs.Ytjnibbkjoclboaa.Q
namespace Go.Proofs.Ytjnibbkjoclboaa.Q
open Go.RowKit Go.Proofs.YtjnibbkjoclboaaW.PrintWords Go.Proofs.YtjnibbkjoclboaaW.PrintLast Go.Proofs.YtjnibbkjoclboaaW.PrintMore
attribute [local go_sem] max2_int min2_int max_two min_two max_three min_three max_four min_four   -- for this text's walks alone
set_option linter.unusedVariables false
set_option linter.unusedSimpArgs false
theorem ret_ii {a b a' b' : Int} (h : a = a') (h' : b = b') : Ending.returned (Value.tuple #[Value.int .i64 a, Value.int .i64 b]) = Ending.returned (Value.tuple #[Value.int .i64 a', Value.int .i64 b']) := by rw [h, h']
theorem amtV_b (a d c fr tt : Int) (l : List Ent) (h : ∀ e ∈ l, entFine e) : -6000000000000 * (l.length : Int) ≤ amtV a d c fr tt l ∧ amtV a d c fr tt l ≤ 6000000000000 * (l.length : Int) := by
  induction l with
  | nil => simp [amtV]
  | cons x l ih =>
    have h1 := ih (fun y hy => h y (List.mem_cons_of_mem _ hy))
    have h2 := h x List.mem_cons_self
    have h3 := amtL_b a d c x.f3 h2.2
    have h4 := h2.1
    simp only [amtV, List.length_cons]
    split <;> (push_cast; omega)
set_option maxHeartbeats 32000000 in
set_option maxRecDepth 100000 in
theorem spec_Balance.to (A : Option Addr) (cc : Nat) (es : List Ent) (h a d c fr tt : Int) (w : World) (hr : Kd.C k37 w A es.length es) (hn : es.length ≤ 1000) (hf : ∀ e ∈ es, entFine e) :
    Calls Try.prog 24 #[.agg #[.slice A es.length cc, .int .i64 h], .int .i64 a, .int .i64 d, .int .i64 c, .int .i64 fr, .int .i64 tt] w fun e w' => e = .returned (.tuple #[.int .i64 (amtV a d c fr tt es), .int .i64 (basV a d c fr tt es)]) ∧ Below w.heap.size w w' := by
  have HR := Aside0.mk hr
  have HF := Aside0.mk hf
  obtain ⟨PT, hPT⟩ : ∃ t, t = amtV a d c fr tt es := ⟨_, rfl⟩
  obtain ⟨QT, hQT⟩ : ∃ t, t = basV a d c fr tt es := ⟨_, rfl⟩
  rw [← hPT, ← hQT]
  have HB := Aside0.mk (below_alloc (Below.refl w.heap.size w) (.cells #[.slice A es.length cc, .int .i64 h] 29))
  have HPQ := Aside0.mk (And.intro hPT hQT)
  have BPT := amtV_b a d c fr tt es hf
  have BQT := basV_b a d c fr tt es hf
  rw [← hPT] at BPT
  rw [← hQT] at BQT
  clear hr hf hPT hQT
  go_enter Try.func24, Try.ntmps24
  go_wp2_with fail
  go_loopw [16, 14, 15] (fun v vp vq wr => ∃ i p q : Int, 0 ≤ i ∧ i ≤ (es.length : Int) ∧ v = .int .i64 i ∧ vp = .int .i64 p ∧ vq = .int .i64 q ∧ Aside0 (Below w.heap.size w wr) ∧ Aside0 (p + amtV a d c fr tt (es.drop i.toNat) = PT ∧ q + basV a d c fr tt (es.drop i.toNat) = QT) ∧ Aside0 (wr.cell? ⟨w.heap.size, 0, none⟩ = some (.slice A es.length cc))) (fun v _ _ _ => (es.length - (intOf v).toNat))
  case atStart => exact ⟨0, 0, 0, by omega, by omega, rfl, rfl, rfl, HB, ⟨by rw [HPQ.out.1, HPQ.out.2]; simp⟩, ⟨by go_simp⟩⟩
  case round =>
    clear HB
    obtain ⟨i, p, q, hi0, hi1, rfl, rfl, rfl, HB, HI, HF0⟩ := hrel
    have f0 := HF0.out
    have zz := World.block_lt_of_cell? _ _ f0
    by_cases hlt : i < (es.length : Int)
    case neg =>
      go_wp2_with fail
      go_ret2
      exact ⟨ret_ii (by have := HI.out.1; rw [List.drop_of_length_le (by omega)] at this; simpa [amtV] using this) (by have := HI.out.2; rw [List.drop_of_length_le (by omega)] at this; simpa [basV] using this), HB.out⟩
    obtain ⟨ad, A3, c3, e0, x0, x1, x2, x3, x4, x5⟩ := at_T37 HR.out i hi0 hlt
    cases e0
    replace x0 := pw_cell_below HB.out x0
    replace x1 := pw_cell_below HB.out x1
    replace x2 := pw_cell_below HB.out x2
    replace x3 := pw_cell_below HB.out x3
    have X5 := Aside0.mk x5
    have hfe : entFine (rd_T37 es i) := all_at (z := z37) (p := entFine) hi0 hlt HF.out
    have hl3 : (rd_T37 es i).f3.length ≤ 60 := hfe.1
    have HLF := Aside0.mk (show ∀ x ∈ (rd_T37 es i).f3, lineFine x from hfe.2)
    have HD := Aside0.mk (drop_at (l := es) (z := z37) hi0 hlt)
    have HFD := Aside0.mk (show ∀ e ∈ es.drop (i + 1).toNat, entFine e from fun e he => HF.out e (List.mem_of_mem_drop he))
    have hdl : (es.drop (i + 1).toNat).length ≤ 1000 := by rw [List.length_drop]; omega
    have BP := Aside0.mk (And.intro (amtV_b a d c fr tt (es.drop (i + 1).toNat) HFD.out) (basV_b a d c fr tt (es.drop (i + 1).toNat) HFD.out))
    have HE := Aside0.mk (show amtV a d c fr tt (es.drop i.toNat) = (if inB (rd_T37 es i).f0 fr tt = true then amtL a d c (rd_T37 es i).f3 else 0) + amtV a d c fr tt (es.drop (i + 1).toNat) ∧ basV a d c fr tt (es.drop i.toNat) = (if inB (rd_T37 es i).f0 fr tt = true then basL a d c (rd_T37 es i).f3 else 0) + basV a d c fr tt (es.drop (i + 1).toNat) from by rw [HD.out]; exact ⟨rfl, rfl⟩)
    clear x4 x5 hfe
    generalize (rd_T37 es i).f0 = day at *
    generalize (rd_T37 es i).f3 = ls at *
    have hb := below_alloc (Below.refl wr.heap.size wr) (.cells #[.int .i64 day, .int .i64 (rd_T37 es i).f1, .string (rd_T37 es i).f2, .slice A3 ls.length c3] 37)
    have HBX := Aside0.mk (below_into (w := w) hb HB.out)
    have y0 : (wr.alloc (.cells #[.int .i64 day, .int .i64 (rd_T37 es i).f1, .string (rd_T37 es i).f2, .slice A3 ls.length c3] 37)).cell? ⟨wr.heap.size, 0, none⟩ = some (.int .i64 day) := by go_simp
    have y3 : (wr.alloc (.cells #[.int .i64 day, .int .i64 (rd_T37 es i).f1, .string (rd_T37 es i).f2, .slice A3 ls.length c3] 37)).cell? ⟨wr.heap.size, 3, none⟩ = some (.slice A3 ls.length c3) := by go_simp
    have F0 := Aside0.mk (pw_cell_below hb f0)
    have Y0 := Aside0.mk y0
    have Y3 := Aside0.mk y3
    clear hb y0 y3
    go_wp2_with fail
    go_loopw [18, 14, 15] (fun v vp vq wq => ∃ j p q : Int, 0 ≤ j ∧ j ≤ (ls.length : Int) ∧ v = .int .i64 j ∧ vp = .int .i64 p ∧ vq = .int .i64 q ∧ Aside0 (Below w.heap.size w wq) ∧ Aside0 (p + (if inB day fr tt = true then amtL a d c (ls.drop j.toNat) else 0) + amtV a d c fr tt (es.drop (i + 1).toNat) = PT ∧ q + (if inB day fr tt = true then basL a d c (ls.drop j.toNat) else 0) + basV a d c fr tt (es.drop (i + 1).toNat) = QT) ∧ Aside0 (wq.cell? ⟨w.heap.size, 0, none⟩ = some (.slice (some ad) es.length cc) ∧ wq.cell? ⟨wr.heap.size, 0, none⟩ = some (.int .i64 day) ∧ wq.cell? ⟨wr.heap.size, 3, none⟩ = some (.slice A3 ls.length c3))) (fun v _ _ _ => (ls.length - (intOf v).toNat))
    case atStart => exact ⟨0, p, q, by omega, by omega, rfl, rfl, rfl, HBX, ⟨by have h1 := HI.out.1; have h2 := HI.out.2; rw [HE.out.1] at h1; rw [HE.out.2] at h2; simp only [show (0 : Int).toNat = 0 from rfl, List.drop_zero]; exact ⟨by omega, by omega⟩⟩, ⟨F0.out, Y0.out, Y3.out⟩⟩
    case round =>
      clear HB HBX F0 Y0 Y3 f0 x0 x1 x2 x3 zz HI HF0
      obtain ⟨j, p, q, hj0, hj1, rfl, rfl, rfl, HB, HI, HC⟩ := hrel
      have f0 := HC.out.1
      have y0 := HC.out.2.1
      have y3 := HC.out.2.2
      have zz := World.block_lt_of_cell? _ _ f0
      have zy := World.block_lt_of_cell? _ _ y0
      by_cases hlj : j < (ls.length : Int)
      case neg =>
        go_wp2_with fail
        go_roundw
        case rel => exact ⟨i + 1, p, q, by omega, by omega, rfl, rfl, rfl, HB, ⟨by have h1 := HI.out.1; have h2 := HI.out.2; rw [List.drop_of_length_le (by omega)] at h1 h2; simp [amtL, basL] at h1 h2; exact ⟨by omega, by omega⟩⟩, ⟨HC.out.1⟩⟩
        case measure => simp [intOf]; omega
      obtain ⟨ae, e0, u0, u1, u2, u3, u4⟩ := at_T66 (Kd.C_below X5.out HB.out) j hj0 hlj
      cases e0
      have hfl : lineFine (rd_T66 ls j) := all_at (z := z66) (p := lineFine) hj0 hlj HLF.out
      have HLD := Aside0.mk (drop_at (l := ls) (z := z66) hj0 hlj)
      have HLE := Aside0.mk (show amtL a d c (ls.drop j.toNat) = (if selL a d c (rd_T66 ls j) = true then (rd_T66 ls j).f3 else 0) + amtL a d c (ls.drop (j + 1).toNat) ∧ basL a d c (ls.drop j.toNat) = (if selL a d c (rd_T66 ls j) = true then (rd_T66 ls j).f4 else 0) + basL a d c (ls.drop (j + 1).toNat) from by rw [HLD.out]; exact ⟨rfl, rfl⟩)
      have HLL := Aside0.mk (show ∀ x ∈ ls.drop j.toNat, lineFine x from fun x hx => HLF.out x (List.mem_of_mem_drop hx))
      have hll : (ls.drop j.toNat).length ≤ 60 := by rw [List.length_drop]; omega
      have hpb : (-100000000000000000 ≤ p ∧ p ≤ 100000000000000000) ∧ (-100000000000000000 ≤ q ∧ q ≤ 100000000000000000) := by
        have t1 := amtL_b a d c _ HLL.out
        have t2 := basL_b a d c _ HLL.out
        have t3 := BP.out.1
        have t4 := BP.out.2
        have t5 := HI.out.1
        have t6 := HI.out.2
        refine ⟨⟨?_, ?_⟩, ⟨?_, ?_⟩⟩ <;> (split at t5 <;> omega)
      obtain ⟨⟨pb0, pb1⟩, ⟨qb0, qb1⟩⟩ := hpb
      have ca : inB (rd_T66 ls j).f3 (-100000000000) 100000000000 = true := inB_of hfl.1
      have cb : inB (rd_T66 ls j).f4 (-100000000000) 100000000000 = true := inB_of hfl.2
      have CA := Aside0.mk (fun W => (ca ▸ spec_l1Amount.to (rd_T66 ls j).f3 W : Calls Try.prog 46 #[.int .i64 (rd_T66 ls j).f3] W fun e w' => e = .returned (.bool true) ∧ w' = W))
      have CB := Aside0.mk (fun W => (cb ▸ spec_l1Amount.to (rd_T66 ls j).f4 W : Calls Try.prog 46 #[.int .i64 (rd_T66 ls j).f4] W fun e w' => e = .returned (.bool true) ∧ w' = W))
      obtain ⟨⟨b0, b1⟩, ⟨b2, b3⟩⟩ := hfl
      have HSEL := Aside0.mk (show selL a d c (rd_T66 ls j) = ((decide (a = -1) || decide (a = (rd_T66 ls j).f0)) && (decide (d = -1) || decide (d = (rd_T66 ls j).f1)) && (decide (c = -1) || decide (c = (rd_T66 ls j).f2))) from rfl)
      have o := below_alloc HB.out (.cells #[.int .i64 (rd_T66 ls j).f0, .int .i64 (rd_T66 ls j).f1, .int .i64 (rd_T66 ls j).f2, .int .i64 (rd_T66 ls j).f3, .int .i64 (rd_T66 ls j).f4] 66)
      have hb := below_alloc (Below.refl wr.heap.size wr) (.cells #[.int .i64 (rd_T66 ls j).f0, .int .i64 (rd_T66 ls j).f1, .int .i64 (rd_T66 ls j).f2, .int .i64 (rd_T66 ls j).f3, .int .i64 (rd_T66 ls j).f4] 66)
      have HCX := Aside0.mk (And.intro (pw_cell_below hb f0) (And.intro (pw_cell_below hb y0) (pw_cell_below hb y3)))
      have HBX := Aside0.mk o
      generalize (rd_T66 ls j).f0 = g0 at *
      generalize (rd_T66 ls j).f1 = g1 at *
      generalize (rd_T66 ls j).f2 = g2 at *
      generalize (rd_T66 ls j).f3 = g3 at *
      generalize (rd_T66 ls j).f4 = g4 at *
      generalize selL a d c (rd_T66 ls j) = sl at *
      clear o hb ca cb HC
      have HNO := Aside0.mk (show inB day fr tt = false ∨ sl = false → p + (if inB day fr tt = true then amtL a d c (ls.drop (j + 1).toNat) else 0) + amtV a d c fr tt (es.drop (i + 1).toNat) = PT ∧ q + (if inB day fr tt = true then basL a d c (ls.drop (j + 1).toNat) else 0) + basV a d c fr tt (es.drop (i + 1).toNat) = QT from fun hq => by
        have t5 := HI.out.1
        have t6 := HI.out.2
        rw [HLE.out.1] at t5
        rw [HLE.out.2] at t6
        rcases hq with hq | hq
        · rw [hq] at t5 t6 ⊢
          simp at t5 t6 ⊢
          exact ⟨t5, t6⟩
        · rw [hq] at t5 t6
          simp at t5 t6 ⊢
          exact ⟨t5, t6⟩)
      have HYE := Aside0.mk (show inB day fr tt = true → sl = true → (p + g3) + (if inB day fr tt = true then amtL a d c (ls.drop (j + 1).toNat) else 0) + amtV a d c fr tt (es.drop (i + 1).toNat) = PT ∧ (q + g4) + (if inB day fr tt = true then basL a d c (ls.drop (j + 1).toNat) else 0) + basV a d c fr tt (es.drop (i + 1).toNat) = QT from fun hd hq => by
        have t5 := HI.out.1
        have t6 := HI.out.2
        rw [HLE.out.1, hd, hq] at t5
        rw [HLE.out.2, hd, hq] at t6
        rw [hd]
        simp at t5 t6 ⊢
        exact ⟨by omega, by omega⟩)
      clear HI HLE HLD HLL
      have CD := Aside0.mk (fun W => (spec_l1In.to day fr tt W))
      cases hd : inB day fr tt with
      | false =>
        have QD := Aside0.mk hd
        clear hd
        go_wp2_with fail
        refine (CA.out _).mono ?_
        rintro x w' ⟨rfl, rfl⟩
        go_wp2_with fail
        refine (CB.out _).mono ?_
        rintro x w' ⟨rfl, rfl⟩
        go_wp2_with fail
        refine (CD.out _).mono ?_
        rintro x w' ⟨rfl, rfl⟩
        rw [QD.out]
        go_wp2_with fail
        go_roundw
        case rel => exact ⟨j + 1, p, q, by omega, by omega, rfl, rfl, rfl, HBX, ⟨by have hh := HNO.out (.inl QD.out); rw [QD.out] at hh; simpa using hh⟩, HCX⟩
        case measure => simp [intOf]; omega
      | true =>
        have QD := Aside0.mk hd
        clear hd
        by_cases m0 : a = -1
        · have K0 := Aside0.mk m0
          have k0b : (a == -1) = true := by rw [m0]; rfl
          clear m0
          by_cases m1 : d = -1
          · have K1 := Aside0.mk m1
            have k1b : (d == -1) = true := by rw [m1]; rfl
            clear m1
            by_cases m2 : c = -1
            · have K2 := Aside0.mk m2
              have k2b : (c == -1) = true := by rw [m2]; rfl
              clear m2
              go_wp2_with fail
              refine (CA.out _).mono ?_
              rintro x w' ⟨rfl, rfl⟩
              go_wp2_with fail
              refine (CB.out _).mono ?_
              rintro x w' ⟨rfl, rfl⟩
              go_wp2_with fail
              refine (CD.out _).mono ?_
              rintro x w' ⟨rfl, rfl⟩
              rw [QD.out]
              go_wp2_with fail
              go_roundw
              case rel => exact ⟨j + 1, p + g3, q + g4, by omega, by omega, rfl, rfl, rfl, HBX, ⟨by have hh := HYE.out QD.out (by rw [HSEL.out]; simp [K0.out, K1.out, K2.out]); rw [QD.out] at hh; simpa using hh⟩, HCX⟩
              case measure => simp [intOf]; omega
            · have k2b : (c == -1) = false := beq_eq_false_iff_ne.2 m2
              by_cases mm2 : c = g2
              · have K2 := Aside0.mk mm2
                have k2c : (c == g2) = true := by rw [mm2]; exact beq_self_eq_true' _
                clear mm2 m2
                go_wp2_with fail
                refine (CA.out _).mono ?_
                rintro x w' ⟨rfl, rfl⟩
                go_wp2_with fail
                refine (CB.out _).mono ?_
                rintro x w' ⟨rfl, rfl⟩
                go_wp2_with fail
                refine (CD.out _).mono ?_
                rintro x w' ⟨rfl, rfl⟩
                rw [QD.out]
                go_wp2_with fail
                go_roundw
                case rel => exact ⟨j + 1, p + g3, q + g4, by omega, by omega, rfl, rfl, rfl, HBX, ⟨by have hh := HYE.out QD.out (by rw [HSEL.out]; simp [K0.out, K1.out, K2.out]); rw [QD.out] at hh; simpa using hh⟩, HCX⟩
                case measure => simp [intOf]; omega
              · have K2 := Aside0.mk mm2
                have KK2 := Aside0.mk m2
                have k2c : (c == g2) = false := beq_eq_false_iff_ne.2 mm2
                clear mm2 m2
                go_wp2_with fail
                refine (CA.out _).mono ?_
                rintro x w' ⟨rfl, rfl⟩
                go_wp2_with fail
                refine (CB.out _).mono ?_
                rintro x w' ⟨rfl, rfl⟩
                go_wp2_with fail
                refine (CD.out _).mono ?_
                rintro x w' ⟨rfl, rfl⟩
                rw [QD.out]
                go_wp2_with fail
                go_roundw
                case rel => exact ⟨j + 1, p, q, by omega, by omega, rfl, rfl, rfl, HBX, ⟨by have hh := HNO.out (.inr (by rw [HSEL.out]; simp [K2.out, KK2.out])); rw [QD.out] at hh; simpa using hh⟩, HCX⟩
                case measure => simp [intOf]; omega
          · have k1b : (d == -1) = false := beq_eq_false_iff_ne.2 m1
            by_cases mm1 : d = g1
            · have K1 := Aside0.mk mm1
              have k1c : (d == g1) = true := by rw [mm1]; exact beq_self_eq_true' _
              clear mm1 m1
              by_cases m2 : c = -1
              · have K2 := Aside0.mk m2
                have k2b : (c == -1) = true := by rw [m2]; rfl
                clear m2
                go_wp2_with fail
                refine (CA.out _).mono ?_
                rintro x w' ⟨rfl, rfl⟩
                go_wp2_with fail
                refine (CB.out _).mono ?_
                rintro x w' ⟨rfl, rfl⟩
                go_wp2_with fail
                refine (CD.out _).mono ?_
                rintro x w' ⟨rfl, rfl⟩
                rw [QD.out]
                go_wp2_with fail
                go_roundw
                case rel => exact ⟨j + 1, p + g3, q + g4, by omega, by omega, rfl, rfl, rfl, HBX, ⟨by have hh := HYE.out QD.out (by rw [HSEL.out]; simp [K0.out, K1.out, K2.out]); rw [QD.out] at hh; simpa using hh⟩, HCX⟩
                case measure => simp [intOf]; omega
              · have k2b : (c == -1) = false := beq_eq_false_iff_ne.2 m2
                by_cases mm2 : c = g2
                · have K2 := Aside0.mk mm2
                  have k2c : (c == g2) = true := by rw [mm2]; exact beq_self_eq_true' _
                  clear mm2 m2
                  go_wp2_with fail
                  refine (CA.out _).mono ?_
                  rintro x w' ⟨rfl, rfl⟩
                  go_wp2_with fail
                  refine (CB.out _).mono ?_
                  rintro x w' ⟨rfl, rfl⟩
                  go_wp2_with fail
                  refine (CD.out _).mono ?_
                  rintro x w' ⟨rfl, rfl⟩
                  rw [QD.out]
                  go_wp2_with fail
                  go_roundw
                  case rel => exact ⟨j + 1, p + g3, q + g4, by omega, by omega, rfl, rfl, rfl, HBX, ⟨by have hh := HYE.out QD.out (by rw [HSEL.out]; simp [K0.out, K1.out, K2.out]); rw [QD.out] at hh; simpa using hh⟩, HCX⟩
                  case measure => simp [intOf]; omega
                · have K2 := Aside0.mk mm2
                  have KK2 := Aside0.mk m2
                  have k2c : (c == g2) = false := beq_eq_false_iff_ne.2 mm2
                  clear mm2 m2
                  go_wp2_with fail
                  refine (CA.out _).mono ?_
                  rintro x w' ⟨rfl, rfl⟩
                  go_wp2_with fail
                  refine (CB.out _).mono ?_
                  rintro x w' ⟨rfl, rfl⟩
                  go_wp2_with fail
                  refine (CD.out _).mono ?_
                  rintro x w' ⟨rfl, rfl⟩
                  rw [QD.out]
                  go_wp2_with fail
                  go_roundw
                  case rel => exact ⟨j + 1, p, q, by omega, by omega, rfl, rfl, rfl, HBX, ⟨by have hh := HNO.out (.inr (by rw [HSEL.out]; simp [K2.out, KK2.out])); rw [QD.out] at hh; simpa using hh⟩, HCX⟩
                  case measure => simp [intOf]; omega
            · have K1 := Aside0.mk mm1
              have KK1 := Aside0.mk m1
              have k1c : (d == g1) = false := beq_eq_false_iff_ne.2 mm1
              clear mm1 m1
              go_wp2_with fail
              refine (CA.out _).mono ?_
              rintro x w' ⟨rfl, rfl⟩
              go_wp2_with fail
              refine (CB.out _).mono ?_
              rintro x w' ⟨rfl, rfl⟩
              go_wp2_with fail
              refine (CD.out _).mono ?_
              rintro x w' ⟨rfl, rfl⟩
              rw [QD.out]
              go_wp2_with fail
              go_roundw
              case rel => exact ⟨j + 1, p, q, by omega, by omega, rfl, rfl, rfl, HBX, ⟨by have hh := HNO.out (.inr (by rw [HSEL.out]; simp [K1.out, KK1.out])); rw [QD.out] at hh; simpa using hh⟩, HCX⟩
              case measure => simp [intOf]; omega
        · have k0b : (a == -1) = false := beq_eq_false_iff_ne.2 m0
          by_cases mm0 : a = g0
          · have K0 := Aside0.mk mm0
            have k0c : (a == g0) = true := by rw [mm0]; exact beq_self_eq_true' _
            clear mm0 m0
            by_cases m1 : d = -1
            · have K1 := Aside0.mk m1
              have k1b : (d == -1) = true := by rw [m1]; rfl
              clear m1
              by_cases m2 : c = -1
              · have K2 := Aside0.mk m2
                have k2b : (c == -1) = true := by rw [m2]; rfl
                clear m2
                go_wp2_with fail
                refine (CA.out _).mono ?_
                rintro x w' ⟨rfl, rfl⟩
                go_wp2_with fail
                refine (CB.out _).mono ?_
                rintro x w' ⟨rfl, rfl⟩
                go_wp2_with fail
                refine (CD.out _).mono ?_
                rintro x w' ⟨rfl, rfl⟩
                rw [QD.out]
                go_wp2_with fail
                go_roundw
                case rel => exact ⟨j + 1, p + g3, q + g4, by omega, by omega, rfl, rfl, rfl, HBX, ⟨by have hh := HYE.out QD.out (by rw [HSEL.out]; simp [K0.out, K1.out, K2.out]); rw [QD.out] at hh; simpa using hh⟩, HCX⟩
                case measure => simp [intOf]; omega
              · have k2b : (c == -1) = false := beq_eq_false_iff_ne.2 m2
                by_cases mm2 : c = g2
                · have K2 := Aside0.mk mm2
                  have k2c : (c == g2) = true := by rw [mm2]; exact beq_self_eq_true' _
                  clear mm2 m2
                  go_wp2_with fail
                  refine (CA.out _).mono ?_
                  rintro x w' ⟨rfl, rfl⟩
                  go_wp2_with fail
                  refine (CB.out _).mono ?_
                  rintro x w' ⟨rfl, rfl⟩
                  go_wp2_with fail
                  refine (CD.out _).mono ?_
                  rintro x w' ⟨rfl, rfl⟩
                  rw [QD.out]
                  go_wp2_with fail
                  go_roundw
                  case rel => exact ⟨j + 1, p + g3, q + g4, by omega, by omega, rfl, rfl, rfl, HBX, ⟨by have hh := HYE.out QD.out (by rw [HSEL.out]; simp [K0.out, K1.out, K2.out]); rw [QD.out] at hh; simpa using hh⟩, HCX⟩
                  case measure => simp [intOf]; omega
                · have K2 := Aside0.mk mm2
                  have KK2 := Aside0.mk m2
                  have k2c : (c == g2) = false := beq_eq_false_iff_ne.2 mm2
                  clear mm2 m2
                  go_wp2_with fail
                  refine (CA.out _).mono ?_
                  rintro x w' ⟨rfl, rfl⟩
                  go_wp2_with fail
                  refine (CB.out _).mono ?_
                  rintro x w' ⟨rfl, rfl⟩
                  go_wp2_with fail
                  refine (CD.out _).mono ?_
                  rintro x w' ⟨rfl, rfl⟩
                  rw [QD.out]
                  go_wp2_with fail
                  go_roundw
                  case rel => exact ⟨j + 1, p, q, by omega, by omega, rfl, rfl, rfl, HBX, ⟨by have hh := HNO.out (.inr (by rw [HSEL.out]; simp [K2.out, KK2.out])); rw [QD.out] at hh; simpa using hh⟩, HCX⟩
                  case measure => simp [intOf]; omega
            · have k1b : (d == -1) = false := beq_eq_false_iff_ne.2 m1
              by_cases mm1 : d = g1
              · have K1 := Aside0.mk mm1
                have k1c : (d == g1) = true := by rw [mm1]; exact beq_self_eq_true' _
                clear mm1 m1
                by_cases m2 : c = -1
                · have K2 := Aside0.mk m2
                  have k2b : (c == -1) = true := by rw [m2]; rfl
                  clear m2
                  go_wp2_with fail
                  refine (CA.out _).mono ?_
                  rintro x w' ⟨rfl, rfl⟩
                  go_wp2_with fail
                  refine (CB.out _).mono ?_
                  rintro x w' ⟨rfl, rfl⟩
                  go_wp2_with fail
                  refine (CD.out _).mono ?_
                  rintro x w' ⟨rfl, rfl⟩
                  rw [QD.out]
                  go_wp2_with fail
                  go_roundw
                  case rel => exact ⟨j + 1, p + g3, q + g4, by omega, by omega, rfl, rfl, rfl, HBX, ⟨by have hh := HYE.out QD.out (by rw [HSEL.out]; simp [K0.out, K1.out, K2.out]); rw [QD.out] at hh; simpa using hh⟩, HCX⟩
                  case measure => simp [intOf]; omega
                · have k2b : (c == -1) = false := beq_eq_false_iff_ne.2 m2
                  by_cases mm2 : c = g2
                  · have K2 := Aside0.mk mm2
                    have k2c : (c == g2) = true := by rw [mm2]; exact beq_self_eq_true' _
                    clear mm2 m2
                    go_wp2_with fail
                    refine (CA.out _).mono ?_
                    rintro x w' ⟨rfl, rfl⟩
                    go_wp2_with fail
                    refine (CB.out _).mono ?_
                    rintro x w' ⟨rfl, rfl⟩
                    go_wp2_with fail
                    refine (CD.out _).mono ?_
                    rintro x w' ⟨rfl, rfl⟩
                    rw [QD.out]
                    go_wp2_with fail
                    go_roundw
                    case rel => exact ⟨j + 1, p + g3, q + g4, by omega, by omega, rfl, rfl, rfl, HBX, ⟨by have hh := HYE.out QD.out (by rw [HSEL.out]; simp [K0.out, K1.out, K2.out]); rw [QD.out] at hh; simpa using hh⟩, HCX⟩
                    case measure => simp [intOf]; omega
                  · have K2 := Aside0.mk mm2
                    have KK2 := Aside0.mk m2
                    have k2c : (c == g2) = false := beq_eq_false_iff_ne.2 mm2
                    clear mm2 m2
                    go_wp2_with fail
                    refine (CA.out _).mono ?_
                    rintro x w' ⟨rfl, rfl⟩
                    go_wp2_with fail
                    refine (CB.out _).mono ?_
                    rintro x w' ⟨rfl, rfl⟩
                    go_wp2_with fail
                    refine (CD.out _).mono ?_
                    rintro x w' ⟨rfl, rfl⟩
                    rw [QD.out]
                    go_wp2_with fail
                    go_roundw
                    case rel => exact ⟨j + 1, p, q, by omega, by omega, rfl, rfl, rfl, HBX, ⟨by have hh := HNO.out (.inr (by rw [HSEL.out]; simp [K2.out, KK2.out])); rw [QD.out] at hh; simpa using hh⟩, HCX⟩
                    case measure => simp [intOf]; omega
              · have K1 := Aside0.mk mm1
                have KK1 := Aside0.mk m1
                have k1c : (d == g1) = false := beq_eq_false_iff_ne.2 mm1
                clear mm1 m1
                go_wp2_with fail
                refine (CA.out _).mono ?_
                rintro x w' ⟨rfl, rfl⟩
                go_wp2_with fail
                refine (CB.out _).mono ?_
                rintro x w' ⟨rfl, rfl⟩
                go_wp2_with fail
                refine (CD.out _).mono ?_
                rintro x w' ⟨rfl, rfl⟩
                rw [QD.out]
                go_wp2_with fail
                go_roundw
                case rel => exact ⟨j + 1, p, q, by omega, by omega, rfl, rfl, rfl, HBX, ⟨by have hh := HNO.out (.inr (by rw [HSEL.out]; simp [K1.out, KK1.out])); rw [QD.out] at hh; simpa using hh⟩, HCX⟩
                case measure => simp [intOf]; omega
          · have K0 := Aside0.mk mm0
            have KK0 := Aside0.mk m0
            have k0c : (a == g0) = false := beq_eq_false_iff_ne.2 mm0
            clear mm0 m0
            go_wp2_with fail
            refine (CA.out _).mono ?_
            rintro x w' ⟨rfl, rfl⟩
            go_wp2_with fail
            refine (CB.out _).mono ?_
            rintro x w' ⟨rfl, rfl⟩
            go_wp2_with fail
            refine (CD.out _).mono ?_
            rintro x w' ⟨rfl, rfl⟩
            rw [QD.out]
            go_wp2_with fail
            go_roundw
            case rel => exact ⟨j + 1, p, q, by omega, by omega, rfl, rfl, rfl, HBX, ⟨by have hh := HNO.out (.inr (by rw [HSEL.out]; simp [K0.out, KK0.out])); rw [QD.out] at hh; simpa using hh⟩, HCX⟩
            case measure => simp [intOf]; omega
open Classical in
noncomputable def spec_Balance.f (l0 : List Ent) (a0_1 a1 a2 a3 a4 a5 : Int) : Option (Int × Int) := if l0.length ≤ 1000 ∧ (∀ e ∈ l0, entFine e) then some (amtV a1 a2 a3 a4 a5 l0, basV a1 a2 a3 a4 a5 l0) else none
theorem spec_Balance.calls (A0_0 : Option Addr) (c0_0 : Nat) (l0_0 : List Ent) (a0_1 a1 a2 a3 a4 a5 : Int) (r1 r2 : Int) (w : World) (hr0_0 : Kd.C k37 w A0_0 l0_0.length l0_0) (hc0_0 : l0_0.length ≤ c0_0) (hf : spec_Balance.f l0_0 a0_1 a1 a2 a3 a4 a5 = some (r1, r2)) :
    Calls Try.prog 24 #[.agg #[.slice A0_0 l0_0.length c0_0, .int .i64 a0_1], .int .i64 a1, .int .i64 a2, .int .i64 a3, .int .i64 a4, .int .i64 a5] w fun e w' => e = .returned (.tuple #[.int .i64 r1, .int .i64 r2]) ∧ Below w.heap.size w w' := by
  unfold spec_Balance.f at hf
  split at hf
  · rename_i q
    cases hf
    exact spec_Balance.to A0_0 c0_0 l0_0 a0_1 a1 a2 a3 a4 a5 w hr0_0 q.1 q.2
  · cases hf
end Go.Proofs.Ytjnibbkjoclboaa.Q
