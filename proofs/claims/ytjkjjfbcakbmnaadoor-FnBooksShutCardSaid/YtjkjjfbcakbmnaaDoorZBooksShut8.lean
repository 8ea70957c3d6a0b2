/- Parts of the proof: what functions of the program and of the reference answer.
   No condition. -/
import Derived.Test.YtjkjjfbcakbmnaaDoorZBooksShut1
import Derived.Test.YtjkjjfbcakbmnaaDoorZBooksShut4
namespace Go.Proofs.YtjkjjfbcakbmnaaDoor.Q
open Go.RowKit Go.Proofs.YtjkjjfbcakbmnaaDoorW.PrintWords Go.Proofs.YtjkjjfbcakbmnaaDoorW.PrintLast Go.Proofs.YtjkjjfbcakbmnaaDoorW.PrintMore
attribute [local go_sem] max2_int min2_int max_two min_two max_three min_three max_four min_four   -- for this text's walks alone
set_option linter.unusedVariables false
set_option linter.unusedSimpArgs false
abbrev Per := S66
def perOk (ps : List Per) (i : Int) : Prop := (0 ≤ (rd_T66 ps i).f0 ∧ (rd_T66 ps i).f0 ≤ 40000) ∧ (0 ≤ (rd_T66 ps i).f1 ∧ (rd_T66 ps i).f1 ≤ 40000) ∧ (rd_T66 ps i).f0 ≤ (rd_T66 ps i).f1 ∧ (0 < i → (rd_T66 ps i).f0 = (rd_T66 ps (i - 1)).f1 + 1)
def yearP (ps : List Per) : Prop := (1 ≤ ps.length ∧ ps.length ≤ 60) ∧ ∀ i : Int, 0 ≤ i → i < (ps.length : Int) → perOk ps i
open Classical in
noncomputable def yearB (ps : List Per) : Bool := decide (yearP ps)
open Classical in
theorem yearB_true {ps : List Per} : yearB ps = true ↔ yearP ps := by unfold yearB; rw [decide_eq_true_eq]
theorem yearB_not {ps : List Per} (h : ¬ yearP ps) : false = yearB ps := by
  cases hb : yearB ps with
  | false => rfl
  | true => exact absurd (yearB_true.1 hb) h
theorem per_step {ps : List Per} {i : Int} (h : ∀ j : Int, 0 ≤ j → j < i → perOk ps j) (hi : perOk ps i) : ∀ j : Int, 0 ≤ j → j < i + 1 → perOk ps j := by
  intro j h0 h1
  by_cases e : j = i
  · subst e; exact hi
  · exact h j h0 (by omega)
set_option maxHeartbeats 16000000 in
set_option maxRecDepth 100000 in
theorem spec_l6Year.to (A0 : Option Addr) (c0 : Nat) (l0 : List Per) (w : World) (hr0 : Kd.C k66 w A0 l0.length l0) :
    Calls Tryd.prog 25 #[.slice A0 l0.length c0] w fun x w' => x = .returned (.bool (yearB l0)) ∧ Below w.heap.size w w' := by
  have hl0 := hr0.2.1
  have H0 := Aside0.mk hr0
  clear hr0
  go_enter Tryd.func25, Tryd.ntmps25
  go_wp2_with fail
  go_loopw [3] (fun v wr => ∃ i : Int, 0 ≤ i ∧ i ≤ (l0.length : Int) ∧ v = .int .i64 i ∧ Aside0 (Below w.heap.size w wr) ∧ Aside0 (∀ j : Int, 0 ≤ j → j < i → perOk l0 j)) (fun v _ => (l0.length - (intOf v).toNat))
  case atStart => exact ⟨0, by omega, by omega, rfl, ⟨Below.refl _ _⟩, ⟨fun j h0 h1 => by omega⟩⟩
  case round =>
    obtain ⟨i, hi0, hi1, rfl, HB, HO⟩ := hrel
    by_cases hlt : i < (l0.length : Int)
    · obtain ⟨ad, e0, x0, x1⟩ := at_T66 (Kd.C_below H0.out HB.out) i hi0 hlt
      cases e0
      have HNO := Aside0.mk (fun (q : ¬ perOk l0 i) => yearB_not (ps := l0) (fun y => q (y.2 i hi0 hlt)))
      generalize hp0 : (rd_T66 l0 i).f0 = p0 at *
      generalize hp1 : (rd_T66 l0 i).f1 = p1 at *
      have HP0 := Aside0.mk hp0
      have HP1 := Aside0.mk hp1
      clear hp0 hp1
      cases h1 : inB p0 0 40000 with
      | false =>
        have C1 := Aside0.mk (fun W => (h1 ▸ spec_l2Day.to p0 W : Calls Tryd.prog 42 #[.int .i64 p0] W fun e w' => e = .returned (.bool false) ∧ w' = W))
        have HN := Aside0.mk (HNO.out (fun q => inB_false.1 h1 (HP0.out ▸ q.1)))
        clear h1
        go_wp2_with fail
        go_quiet ((go_at_call 42; exact Calls.quiet_of_same (C1.out _)))
        go_wp2_with fail
        go_ret
        exact ⟨ret_bool HN.out, pw_below_drewN HB.out _⟩
      | true =>
        have C1 := Aside0.mk (fun W => (h1 ▸ spec_l2Day.to p0 W : Calls Tryd.prog 42 #[.int .i64 p0] W fun e w' => e = .returned (.bool true) ∧ w' = W))
        obtain ⟨a0, a1⟩ := inB_true.1 h1
        clear h1
        cases h2 : inB p1 0 40000 with
        | false =>
          have C2 := Aside0.mk (fun W => (h2 ▸ spec_l2Day.to p1 W : Calls Tryd.prog 42 #[.int .i64 p1] W fun e w' => e = .returned (.bool false) ∧ w' = W))
          have HN := Aside0.mk (HNO.out (fun q => inB_false.1 h2 (HP1.out ▸ q.2.1)))
          clear h2
          go_wp2_with fail
          go_quiet ((go_at_call 42; first | exact Calls.quiet_of_same (C1.out _) | exact Calls.quiet_of_same (C2.out _)))
          go_wp2_with fail
          go_ret
          exact ⟨ret_bool HN.out, pw_below_drewN HB.out _⟩
        | true =>
          have C2 := Aside0.mk (fun W => (h2 ▸ spec_l2Day.to p1 W : Calls Tryd.prog 42 #[.int .i64 p1] W fun e w' => e = .returned (.bool true) ∧ w' = W))
          obtain ⟨b0, b1⟩ := inB_true.1 h2
          clear h2
          by_cases h3 : p1 < p0
          · have HN := Aside0.mk (HNO.out (fun q => by have := q.2.2.1; rw [HP0.out, HP1.out] at this; omega))
            have h3b : decide (p1 < p0) = true := decide_eq_true h3
            go_wp2_with fail
            go_quiet ((go_at_call 42; first | exact Calls.quiet_of_same (C1.out _) | exact Calls.quiet_of_same (C2.out _)))
            go_wp2_with fail
            go_ret
            exact ⟨ret_bool HN.out, pw_below_drewN HB.out _⟩
          · have h3b : decide (p1 < p0) = false := decide_eq_false h3
            by_cases h4 : 0 < i
            · obtain ⟨j, hj⟩ : ∃ j : Int, j = i - 1 := ⟨_, rfl⟩
              have hj0 : 0 ≤ j := by omega
              have hj1 : j < (l0.length : Int) := by omega
              have hwr : IntKind.i64.wrap (i - 1) = j := by unfold IntKind.wrap; simp [IntKind.bits]; omega
              obtain ⟨bd, e1, y0, y1⟩ := at_T66 (Kd.C_below H0.out HB.out) j hj0 hj1
              obtain rfl : ad = bd := by injection e1
              obtain ⟨m0, m1⟩ := (HO.out j hj0 (by omega)).2.1
              have HJ := Aside0.mk hj
              clear hj
              generalize hq1 : (rd_T66 l0 j).f1 = q1 at *
              have HQ1 := Aside0.mk hq1
              clear hq1
              have hwr2 : IntKind.i64.wrap (q1 + 1) = q1 + 1 := by unfold IntKind.wrap; simp [IntKind.bits]; omega
              have h4b : decide (0 < i) = true := decide_eq_true h4
              by_cases h7 : p0 = q1 + 1
              · have h7b : (p0 != q1 + 1) = false := by rw [h7]; exact bne_self_eq_false' _
                have HO2 := Aside0.mk (per_step HO.out (show perOk l0 i from ⟨by rw [HP0.out]; exact ⟨a0, a1⟩, by rw [HP1.out]; exact ⟨b0, b1⟩, by rw [HP0.out, HP1.out]; omega, fun q => by rw [HP0.out, ← HJ.out, HQ1.out]; exact h7⟩))
                clear h7
                go_wp2_with fail
                go_quiet ((go_at_call 42; first | exact Calls.quiet_of_same (C1.out _) | exact Calls.quiet_of_same (C2.out _)))
                clear hwr hwr2
                go_wp2_with fail
                go_roundw
                case rel => exact ⟨i + 1, by omega, by omega, rfl, ⟨pw_below_drewN HB.out _⟩, HO2⟩
                case measure => simp [intOf]; omega
              · have h7b : (p0 != q1 + 1) = true := bne_iff_ne.2 h7
                have HN := Aside0.mk (HNO.out (fun q => by have := q.2.2.2 h4; rw [HP0.out, ← HJ.out, HQ1.out] at this; exact h7 this))
                clear h7
                go_wp2_with fail
                go_quiet ((go_at_call 42; first | exact Calls.quiet_of_same (C1.out _) | exact Calls.quiet_of_same (C2.out _)))
                clear hwr hwr2
                go_wp2_with fail
                go_ret
                exact ⟨ret_bool HN.out, pw_below_drewN HB.out _⟩
            · have h4b : decide (0 < i) = false := decide_eq_false h4
              have HO2 := Aside0.mk (per_step HO.out (show perOk l0 i from ⟨by rw [HP0.out]; exact ⟨a0, a1⟩, by rw [HP1.out]; exact ⟨b0, b1⟩, by rw [HP0.out, HP1.out]; omega, fun q => absurd q h4⟩))
              go_wp2_with fail
              go_quiet ((go_at_call 42; first | exact Calls.quiet_of_same (C1.out _) | exact Calls.quiet_of_same (C2.out _)))
              go_wp2_with fail
              go_roundw
              case rel => exact ⟨i + 1, by omega, by omega, rfl, ⟨pw_below_drewN HB.out _⟩, HO2⟩
              case measure => simp [intOf]; omega
    · go_wp2_with fail
      refine (spec_l1In.to _ _ _ _).mono ?_
      rintro x w' ⟨rfl, rfl⟩
      cases h5 : inB (l0.length : Int) 1 60 with
      | false =>
        have HN := Aside0.mk (yearB_not (fun q => inB_false.1 h5 (by have := q.1; omega)) : false = yearB l0)
        clear h5
        go_wp2_with fail
        go_ret
        exact ⟨ret_bool HN.out, HB.out⟩
      | true =>
        have h6 := inB_true.1 h5
        have HY := Aside0.mk (yearB_true.2 (show yearP l0 from ⟨by omega, fun j h0 h1 => HO.out j h0 (by omega)⟩))
        clear h5 h6
        go_wp2_with fail
        go_ret
        exact ⟨ret_bool HY.out.symm, HB.out⟩
theorem rowOk_par {chart : List Acc} {i : Int} (h : rowsOk chart i) (h0 : 0 ≤ i) (hr : rowOk chart i) : -1 ≤ par chart i ∧ par chart i ≤ i - 1 := by
  rcases hr.2.2.2 with q | ⟨q, _⟩
  · omega
  · have := up_is h h0 q
    omega
theorem no_dup {chart : List Acc} {k i : Int} (h : code chart k = code chart i) (h0 : 0 ≤ k) (h1 : k < i) : ¬ rowOk chart i := fun q => q.1 k h0 h1 h
set_option maxHeartbeats 8000000 in
set_option maxRecDepth 100000 in
theorem spec_ChartOk.to (A0 : Option Addr) (c0 : Nat) (l0 : List Acc) (w : World) (hr0 : Kd.C k64 w A0 l0.length l0) (hs : ∀ x ∈ l0, x.f0.size ≤ maxLen) :
    Calls Tryd.prog 52 #[.slice A0 l0.length c0] w fun e w' => e = .returned (.bool (chartOk l0)) ∧ Below w.heap.size w w' := by
  have hl := hr0.2.1
  have H0 := Aside0.mk hr0
  have HS := Aside0.mk hs
  clear hr0 hs
  by_cases hn : 1 ≤ l0.length ∧ l0.length ≤ 120
  · obtain ⟨h1, h2⟩ := hn
    have hin : inB (l0.length : Int) 1 120 = true := inB_of (by omega)
    go_enter Tryd.func52, Tryd.ntmps52
    go_wp2_with fail
    refine (spec_l1In.to _ _ _ _).mono ?_
    rintro e w' ⟨rfl, rfl⟩
    go_wp2_with fail
    go_loopw [3] (fun v wr => ∃ i : Int, 0 ≤ i ∧ i ≤ (l0.length : Int) ∧ v = .int .i64 i ∧ Aside0 (Below w'.heap.size w' wr) ∧ Aside0 (rowsOk l0 i)) (fun v _ => (l0.length - (intOf v).toNat))
    case atStart => exact ⟨0, by omega, by omega, rfl, ⟨Below.refl _ _⟩, ⟨fun j h0 h1 => by omega⟩⟩
    case round =>
      obtain ⟨i, hi0, hi1, rfl, HB, HR⟩ := hrel
      by_cases hlt : i < (l0.length : Int)
      · obtain ⟨ad, e0, x0, x1, x2⟩ := at_T64 (Kd.C_below H0.out HB.out) i hi0 hlt
        cases e0
        have hsz : (code l0 i).size ≤ 9223372036854775807 := all_at (z := z64) (p := fun x => x.f0.size ≤ maxLen) hi0 hlt HS.out
        go_wp2_with fail
        refine (spec_NameOk.to (code l0 i) _ hsz).mono ?_
        rintro e w1 ⟨rfl, rfl⟩
        cases hnm : nameOk (code l0 i) with
        | false =>
          go_wp2_with fail
          go_ret
          exact ⟨ret_bool (chartOk_row hi0 hlt (fun q => by have := q.2.1; rw [hnm] at this; cases this)).symm, below_alloc HB.out _⟩
        | true =>
          have HNM := Aside0.mk hnm
          clear hnm
          go_wp2_with fail
          refine (spec_l1In.to (knd l0 i) _ _ _).mono ?_
          rintro e w1 ⟨rfl, rfl⟩
          cases hkd : inB (knd l0 i) 1 5 with
          | false =>
            go_wp2_with fail
            go_ret
            exact ⟨ret_bool (chartOk_row hi0 hlt (fun q => inB_false.1 hkd q.2.2.1)).symm, below_alloc HB.out _⟩
          | true =>
            have HKD := Aside0.mk hkd
            clear hkd
            go_wp2_with fail
            refine (spec_l1In.to (par l0 i) _ _ _).mono ?_
            rintro e w1 ⟨rfl, rfl⟩
            cases hpr : inB (par l0 i) (-1) (i - 1) with
            | false =>
              go_wp2_with fail
              go_ret
              exact ⟨ret_bool (chartOk_row hi0 hlt (fun q => inB_false.1 hpr (rowOk_par HR.out hi0 q))).symm, below_alloc HB.out _⟩
            | true =>
              have HPR := Aside0.mk (inB_true.1 hpr)
              clear hpr
              go_wp2_with fail
              go_loopw [5] (fun v wd => ∃ k : Int, 0 ≤ k ∧ k ≤ i ∧ v = .int .i64 k ∧ Aside0 (Below w'.heap.size w' wd) ∧ Aside0 (wd.heap[wr.heap.size]? = some (.cells #[.string (rd_T64 l0 i).f0, .int .i64 (rd_T64 l0 i).f1, .int .i64 (rd_T64 l0 i).f2] 64 (0, 0))) ∧ Aside0 (∀ j : Int, 0 ≤ j → j < k → code l0 j ≠ code l0 i)) (fun v _ => (i - intOf v).toNat)
              case atStart => exact ⟨0, by omega, by omega, rfl, ⟨below_alloc HB.out _⟩, ⟨blk_new _ _⟩, ⟨fun j h0 h1 => by omega⟩⟩
              case round =>
                obtain ⟨k, hk0, hk1, rfl, HBd, HV, HT⟩ := hrel
                have v0 := blk_cell HV.out 0
                have v1 := blk_cell HV.out 1
                have v2 := blk_cell HV.out 2
                by_cases hki : k < i
                · have hkl : k < (l0.length : Int) := by omega
                  obtain ⟨ad', e0, z0, z1, z2⟩ := at_T64 (Kd.C_below H0.out HBd.out) k hk0 hkl
                  obtain rfl : ad = ad' := by injection e0
                  by_cases hc : code l0 k = code l0 i
                  · have hcb : ((rd_T64 l0 k).f0.toList == (rd_T64 l0 i).f0.toList) = true := beq_bytes hc
                    have HC := Aside0.mk hc
                    clear hc
                    go_wp2_with fail
                    go_quiet (fail)
                    go_wp2_with fail
                    go_ret
                    exact ⟨ret_bool (chartOk_row hi0 hlt (no_dup HC.out hk0 hki)).symm, pw_below_drewN HBd.out _⟩
                  · have hcb : ((rd_T64 l0 k).f0.toList == (rd_T64 l0 i).f0.toList) = false := nbeq_bytes hc
                    have HC := Aside0.mk hc
                    clear hc
                    go_wp2_with fail
                    go_quiet (fail)
                    go_wp2_with fail
                    go_roundw
                    case rel => exact ⟨k + 1, by omega, by omega, rfl, ⟨pw_below_drewN HBd.out _⟩, ⟨blk_drewN HV.out _⟩, ⟨fun j j0 j1 => by
                      by_cases e : j = k
                      · subst e; exact HC.out
                      · exact HT.out j j0 (by omega)⟩⟩
                    case measure => simp [intOf]; omega
                · obtain rfl : k = i := by omega
                  have hk1' := hk1
                  by_cases hp : (rd_T64 l0 k).f1 < 0
                  · have HP := Aside0.mk hp
                    go_wp2_with fail
                    go_roundw
                    case rel => exact ⟨k + 1, by omega, by omega, rfl, HBd, ⟨rows_step hi0 HR.out ⟨HT.out, HNM.out, inB_true.1 HKD.out, Or.inl (by have := HPR.out.1; have h9 : par l0 k < 0 := HP.out; omega)⟩⟩⟩
                    case measure => simp [intOf]; omega
                  · have HPN := Aside0.mk (show 0 ≤ par l0 k from by have h8 : ¬ (rd_T64 l0 k).f1 < 0 := hp; show 0 ≤ (rd_T64 l0 k).f1; omega)
                    have hlo := Aside0.mk (rows_lo HR.out)
                    have hpar := Aside0.mk (rows_par HR.out)
                    have hpa := Aside0.mk (show ∀ j : Int, 0 ≤ j → j ≤ k → par l0 j < j from fun j j0 j1 => by
                      by_cases e : j = k
                      · subst e; have := HPR.out.2; omega
                      · exact hpar.out j j0 (by omega))
                    go_wp2_with fail
                    go_loop [6] (fun v => ∃ m : Int, -1 ≤ m ∧ m < k ∧ v = .int .i64 m ∧ Aside0 (∀ n : Nat, m + 1 ≤ n → climb l0 (par l0 k) n m = up l0 k)) (fun v => (intOf v + 1).toNat)
                    case atStart => exact ⟨k - 1, by omega, by omega, rfl, ⟨fun n hn => climb_more l0 (par l0 k) k hpar.out _ _ _ (by omega) hn (by omega)⟩⟩
                    case round =>
                      obtain ⟨m, hm0, hm1, rfl, HCL⟩ := hrel
                      by_cases hm : 0 ≤ m
                      · have hml : m < (l0.length : Int) := by omega
                        obtain ⟨ad', e0, z0, z1, z2⟩ := at_T64 (Kd.C_below H0.out HBd.out) m hm hml
                        obtain rfl : ad = ad' := by injection e0
                        by_cases hmp : m = par l0 k
                        · have hmb : (m != (rd_T64 l0 k).f1) = false := by rw [hmp]; exact bne_self_eq_false' _
                          have HU := Aside0.mk (climb_at (fun q => q.2 hmp) HCL.out)
                          clear hmp
                          by_cases hkd : knd l0 m = knd l0 k
                          · have hkdb : ((rd_T64 l0 m).f2 != (rd_T64 l0 k).f2) = false := by rw [show (rd_T64 l0 m).f2 = (rd_T64 l0 k).f2 from hkd]; exact bne_self_eq_false' _
                            have HKE := Aside0.mk hkd
                            clear hkd
                            have HDE := Aside0.mk (deep_up HR.out hi0 (by rw [HU.out]; exact hm))
                            by_cases hde : 8 < deepAt l0 k
                            · go_wp2_with fail
                              go_quiet ((go_at_call 68; exact Calls.quiet_of_same (spec_l4Deep.to (some ad) c0 l0 k _ (Kd.C_drewN (Kd.C_below H0.out HBd.out) _) hi0 (by omega) h2 hpa.out)))
                              go_wp2_with fail
                              go_ret
                              exact ⟨ret_bool (chartOk_row hi0 hlt (fun q => by rcases q.2.2.2 with q | ⟨q0, _, q⟩; (have h7 := HPN.out; omega); have h8 := HDE.out; omega)).symm, pw_below_drewN HBd.out _⟩
                            · go_wp2_with fail
                              go_quiet ((go_at_call 68; exact Calls.quiet_of_same (spec_l4Deep.to (some ad) c0 l0 k _ (Kd.C_drewN (Kd.C_below H0.out HBd.out) _) hi0 (by omega) h2 hpa.out)))
                              go_wp2_with fail
                              go_roundw
                              case rel => exact ⟨k + 1, by omega, by omega, rfl, ⟨pw_below_drewN HBd.out _⟩, ⟨rows_step hi0 HR.out ⟨HT.out, HNM.out, inB_true.1 HKD.out, Or.inr ⟨by rw [HU.out]; exact hm, by rw [HU.out]; exact HKE.out, by have := HDE.out; omega⟩⟩⟩⟩
                              case measure => simp [intOf]; omega
                          · have hkdb : ((rd_T64 l0 m).f2 != (rd_T64 l0 k).f2) = true := bne_iff_ne.2 hkd
                            have HKE := Aside0.mk hkd
                            clear hkd
                            go_wp2_with fail
                            go_quiet (fail)
                            go_wp2_with fail
                            go_ret
                            exact ⟨ret_bool (chartOk_row hi0 hlt (fun q => by rcases q.2.2.2 with q | ⟨_, q, _⟩; (have h7 := HPN.out; omega); rw [HU.out] at q; exact HKE.out q)).symm, pw_below_drewN HBd.out _⟩
                        · have hmb : (m != (rd_T64 l0 k).f1) = true := bne_iff_ne.2 hmp
                          have HKP := Aside0.mk hmp
                          clear hmp
                          have b1 := hlo.out m hm (by omega)
                          have b2 := hpar.out m hm (by omega)
                          go_wp2_with fail
                          go_round
                          case rel => exact ⟨par l0 m, b1, by omega, rfl, ⟨climb_go hpar.out hm hm1 HKP.out HCL.out⟩⟩
                          case measure => show (par l0 m + 1).toNat < (m + 1).toNat; omega
                      · have HU := Aside0.mk (climb_at (fun q => hm q.1) HCL.out)
                        go_wp2_with fail
                        go_quiet (fail)
                        go_wp2_with fail
                        go_ret
                        exact ⟨ret_bool (chartOk_row hi0 hlt (fun q => by rcases q.2.2.2 with q | ⟨q, _⟩; (have h7 := HPN.out; omega); rw [HU.out] at q; omega)).symm, pw_below_drewN HBd.out _⟩
      · go_wp2_with fail
        go_ret
        exact ⟨ret_bool (chartOk_all h1 h2 (by omega) HR.out).symm, HB.out⟩
  · have hin : inB (l0.length : Int) 1 120 = false := inB_not (by omega)
    go_enter Tryd.func52, Tryd.ntmps52
    go_wp2_with fail
    refine (spec_l1In.to _ _ _ _).mono ?_
    rintro e w' ⟨rfl, rfl⟩
    go_wp2_with fail
    go_ret
    exact ⟨ret_bool (chartOk_len hn).symm, Below.refl _ _⟩
def ArrAt (w : World) (g n : Nat) (d : Int → Int) : Prop := ∃ cur : Array Value, w.heap[g]? = some (.cells cur 3 (0, 0)) ∧ n ≤ cur.size ∧ ∀ j : Int, 0 ≤ j → j < n → cur[j.toNat]? = some (.int .i64 (d j))
theorem zero3 (w : World) : (zeroValue 3).run Tryd.prog w = .ok (.int .i64 0) w := by kernel_rfl
noncomputable def strK : HMap.KeyK Tryd.prog 9 ByteArray := HMap.strKey Tryd.underlying9
theorem wr_var {wr w2 : World} {c : Array Value} {t b : Nat} (hg : (wr.alloc (.cells c t)).grownBy w2 (some b)) (hb : b < wr.heap.size) : w2.heap[wr.heap.size]? = some (.cells c t (0, 0)) :=
  (hg.block wr.heap.size (by simp) (by intro e; injection e with e; omega)).trans (blk_new wr _)
theorem dep_ret {v : Value} {b c : Bool} (h : b = c) : Ending.returned (.tuple #[v, .bool b]) = Ending.returned (.tuple #[v, .bool c]) := by rw [h]
def DepPost (w : World) (b : Bool) (e : Ending) (w' : World) : Prop := ∃ v0_ : Value, e = .returned (.tuple #[v0_, .bool b]) ∧ Below w.heap.size w w'
structure DepInv (chart : List Acc) (w wr : World) (gm gd : Nat) (i : Int) : Prop where
  map : ∃ f : ByteArray → Option Int, HMap.MapIs Tryd.prog 9 3 strK wr gm i.toNat f ∧ ∀ s, (f s).isSome = true ↔ ∃ j : Int, 0 ≤ j ∧ j < i ∧ code chart j = s
  arr : ArrAt wr gd chart.length (fun j => if j < i then deepAt chart j else 0)
  rows : rowsOk chart i
  bel : Below w.heap.size w wr
  gm0 : w.heap.size ≤ gm
  gd0 : w.heap.size ≤ gd
theorem arr_of_own {w : World} {base g n : Nat} (h : w.ownsRow base 3 1 (.slice (some ⟨g, 0, none⟩) n n) n (madeCells (Value.int .i64 0).cells (n * 1)).toList) : ArrAt w g n (fun _ => 0) := by
  obtain ⟨hl, h⟩ := h
  rcases h with ⟨h, _⟩ | ⟨g', cap, cur, hv, _, hh, hn, _, hs, ht⟩
  · simp at h
  · simp only [Value.slice.injEq, Option.some.injEq, Addr.mk.injEq] at hv
    obtain ⟨⟨rfl, _⟩, _, rfl⟩ := hv
    refine ⟨cur, hh, by omega, fun j h0 h1 => ?_⟩
    have e : (cur.toList.take (n * 1))[j.toNat]? = (madeCells (Value.int .i64 0).cells (n * 1)).toList[j.toNat]? := by rw [ht]
    rw [List.getElem?_take, if_pos (by omega)] at e
    rw [← Array.getElem?_toList, e]
    simp [madeCells, Value.cells]
    exact ⟨j.toNat, by rw [List.getElem?_range (by omega)], by simp [Nat.mod_one]⟩
theorem dep_blk {wr w2 : World} {c cur : Array Value} {t t' gm g : Nat} (hg : (wr.alloc (.cells c t)).grownBy w2 (some gm)) (hlt : g ≠ gm) (h : wr.heap[g]? = some (.cells cur t' (0, 0))) (hw : True) : w2.heap[g]? = some (.cells cur t' (0, 0)) :=
  (hg.block g (by have := blk_lt h; simp; omega) (by intro e; injection e with e; omega)).trans (blk_alloc h _)
theorem dep_zero' {chart : List Acc} {cur : Array Value} {i : Int} {n : Nat} (h : ∀ j : Int, 0 ≤ j → j < n → cur[j.toNat]? = some (.int .i64 ((fun j => if j < i then deepAt chart j else 0) j))) (hp : par chart i = -1) : ∀ j : Int, 0 ≤ j → j < n → cur[j.toNat]? = some (.int .i64 ((fun j => if j < i + 1 then deepAt chart j else 0) j)) := by
  intro j j0 j1
  rw [h j j0 j1]
  simp only
  by_cases e : j < i
  · rw [if_pos e, if_pos (by omega)]
  · rw [if_neg e]
    by_cases e2 : j = i
    · subst e2; rw [if_pos (by omega), deep_zero hp]
    · rw [if_neg (by omega)]
theorem dep_set {chart : List Acc} {cur : Array Value} {i : Int} {n : Nat} {v : Int} (h : ∀ j : Int, 0 ≤ j → j < n → cur[j.toNat]? = some (.int .i64 ((fun j => if j < i then deepAt chart j else 0) j))) (h0 : 0 ≤ i) (hn : i.toNat < cur.size) (hv : deepAt chart i = v + 1) : ∀ j : Int, 0 ≤ j → j < n → (cur.setIfInBounds i.toNat (.int .i64 (v + 1)))[j.toNat]? = some (.int .i64 ((fun j => if j < i + 1 then deepAt chart j else 0) j)) := by
  intro j j0 j1
  simp only
  rw [Array.getElem?_setIfInBounds]
  by_cases e : j = i
  · subst e
    rw [if_pos rfl, if_pos hn, if_pos (by omega), hv]
  · rw [if_neg (by omega), h j j0 j1]
    simp only
    by_cases e2 : j < i
    · rw [if_pos e2, if_pos (by omega)]
    · rw [if_neg e2, if_neg (by omega)]
theorem dep_next {chart : List Acc} {w wr w2 : World} {gm gd : Nat} {i : Int} {f : ByteArray → Option Int} (HI : DepInv chart w wr gm gd i) (hm2 : HMap.MapIs Tryd.prog 9 3 strK w2 gm (i.toNat + 1) (HMap.upd f (code chart i) i))
    (hf : ∀ s, (f s).isSome = true ↔ ∃ j : Int, 0 ≤ j ∧ j < i ∧ code chart j = s) (hB : Below w.heap.size w w2) (harr : ArrAt w2 gd chart.length (fun j => if j < i + 1 then deepAt chart j else 0)) (h0 : 0 ≤ i) (hr : rowOk chart i) : DepInv chart w w2 gm gd (i + 1) where
  map := ⟨_, by rw [show (i + 1).toNat = i.toNat + 1 by omega]; exact hm2, fun s => by
    by_cases e : s = code chart i
    · subst e
      rw [HMap.upd_same]
      exact ⟨fun _ => ⟨i, h0, by omega, rfl⟩, fun _ => rfl⟩
    · rw [HMap.upd_other _ _ e, hf]
      constructor
      · rintro ⟨j, j0, j1, j2⟩
        exact ⟨j, j0, by omega, j2⟩
      · rintro ⟨j, j0, j1, j2⟩
        by_cases e2 : j = i
        · subst e2; exact absurd j2.symm e
        · exact ⟨j, j0, by omega, j2⟩⟩
  arr := harr
  rows := rows_step h0 HI.rows hr
  bel := hB
  gm0 := HI.gm0
  gd0 := HI.gd0
set_option maxHeartbeats 8000000 in
set_option maxRecDepth 100000 in
theorem impl_depths.to (A0 : Option Addr) (c0 : Nat) (l0 : List Acc) (w : World) (hr0 : Kd.C k64 w A0 l0.length l0) (hs : ∀ x ∈ l0, x.f0.size ≤ maxLen) :
    Calls Tryd.prog 74 #[.slice A0 l0.length c0] w (DepPost w (chartOk l0)) := by
  have hl := hr0.2.1
  have H0 := Aside0.mk hr0
  have HS := Aside0.mk hs
  clear hr0 hs
  by_cases h1 : 1 ≤ l0.length
  · by_cases h2 : l0.length ≤ 120
    · have hmm := @run_makeMap Tryd.prog
      obtain ⟨i0, hi, hz0, hz1, hz2⟩ := info_parts (show (Tryd.prog.info? 3).map (fun i => (i.zero, i.size, i.bytes)) = some (some (.int .i64 0), 1, 8) by kernel_rfl)
      go_enter Tryd.func74, Tryd.ntmps74
      go_wp2_with (at_make; refine wpList_make_full _ rfl _ _ 72 rfl w.heap.size 3 i0 (.int .i64 0) 1 Tryd.underlying72 hi hz0 hz1 _ _ _ _ l0.length rfl rfl rfl rfl (by rw [hz2]; omega) (by unfold maxLen; omega) (by simp) ?_; intro w1 hown1 hgrow1)
      have hmap1 : HMap.MapIs Tryd.prog 9 3 strK w1 w.heap.size 0 (fun _ => none) := (HMap.MapIs.made w _ _ _ _).kept hgrow1 (by simp)
      have hI : DepInv l0 w w1 w.heap.size (w.heap.size + 1) 0 := ⟨⟨_, hmap1, fun s => ⟨fun h => by simp at h, fun ⟨j, h0, h1, _⟩ => by omega⟩⟩, by
        obtain ⟨cur, hc1, hc2, hc3⟩ := arr_of_own (g := w.heap.size + 1) (by simpa using hown1)
        exact ⟨cur, hc1, hc2, fun j h0 h1 => by rw [hc3 j h0 h1]; show _ = some (Value.int .i64 (if j < 0 then deepAt l0 j else 0)); rw [if_neg (by omega)]⟩, fun j h0 h1 => by omega, Below.grown (below_alloc (Below.refl w.heap.size w) (.map #[] 0)) hgrow1 (by simp) (fun j hj => by cases hj), Nat.le_refl _, by omega⟩
      have HI := Aside0.mk hI
      clear hI hmap1 hown1 hgrow1
      go_loopw [25] (fun v wr => ∃ i : Int, 0 ≤ i ∧ i ≤ (l0.length : Int) ∧ v = .int .i64 i ∧ Aside0 (DepInv l0 w wr w.heap.size (w.heap.size + 1) i)) (fun v _ => (l0.length - (intOf v).toNat))
      case atStart => exact ⟨0, by omega, by omega, rfl, HI⟩
      case round =>
        clear HI
        obtain ⟨i, hi0, hi1, rfl, HI⟩ := hrel
        by_cases hlt : i < (l0.length : Int)
        · obtain ⟨f, hf1, hf2⟩ := HI.out.map
          have HF := Aside0.mk hf1
          have HF2 := Aside0.mk hf2
          clear hf1 hf2
          obtain ⟨ad, e0, x0, x1, x2⟩ := at_T64 (Kd.C_below H0.out HI.out.bel) i hi0 hlt
          cases e0
          have HK := Aside0.mk (show strK.ok (code l0 i) from all_at (z := z64) (p := fun x => x.f0.size ≤ maxLen) hi0 hlt HS.out)
          have HWI := Aside0.mk (wf_of (n := i) (by omega))
          have hgm : w.heap.size < wr.heap.size := HF.out.lt
          obtain ⟨cur, hc1, hc2, hc3⟩ := HI.out.arr
          have HC1 := Aside0.mk hc1
          have HC3 := Aside0.mk hc3
          clear hc1 hc3
          have X := Aside0.mk (And.intro x0 (And.intro x1 x2))
          by_cases hfr : fresh l0 i
          · have hfs : (f (code l0 i)).isSome = false := by
              rw [Bool.eq_false_iff]
              intro h
              obtain ⟨j, h0, h1', h2'⟩ := (HF2.out _).1 h
              exact hfr j h0 h1' h2'
            have HFR := Aside0.mk hfr
            clear hfr
            go_wp2_with (at_lookup; refine HMap.wpList_look_ok (K := strK) (f := f) (b := w.heap.size) (n := i.toNat) rfl _ _ 131 rfl Tryd.underlying131 Tryd.underlying3 (zero3 _) rfl (by exact HF.out.alloc _) (code l0 i) rfl (by exact HK.out) ?_; intro c)
            refine (impl_NameOk.to (code l0 i) _).mono ?_
            rintro e w' ⟨rfl, rfl⟩
            cases hnm : nameOk (code l0 i) with
            | false =>
              go_wp2_with fail
              go_ret2
              exact ⟨_, dep_ret (by rw [chartOk_row hi0 hlt (fun q => by have := q.2.1; rw [hnm] at this; cases this)]), below_alloc HI.out.bel _⟩
            | true =>
              have HNM := Aside0.mk hnm
              clear hnm hfs
              go_wp2_with fail
              refine (impl_kindOk.to (knd l0 i) _).mono ?_
              rintro e w' ⟨rfl, rfl⟩
              cases hkd : inB (knd l0 i) 1 5 with
              | false =>
                go_wp2_with fail
                go_ret2
                exact ⟨_, dep_ret (by rw [chartOk_row hi0 hlt (fun q => inB_false.1 hkd q.2.2.1)]), below_alloc HI.out.bel _⟩
              | true =>
                have HKD := Aside0.mk hkd
                clear hkd
                by_cases hp : par l0 i = -1
                · have hpb : ((rd_T64 l0 i).f1 == -1) = true := by rw [show (rd_T64 l0 i).f1 = -1 from hp]; rfl
                  have HP := Aside0.mk hp
                  clear hp
                  go_wp2_with (at_mapUpdate; refine HMap.wpList_upd (K := strK) (f := f) (b := w.heap.size) (n := i.toNat) rfl _ _ _ 131 rfl Tryd.underlying131 Tryd.underlying3 rfl (by exact HF.out.alloc _) (by unfold maxLen; omega) (code l0 i) i rfl (by exact HK.out) rfl (by exact HWI.out) ?_; intro w2 hm2 hg2; have hb2 := wr_var (wr := wr) hg2 (by omega); have y0 := blk_cell hb2 0; have y1 := blk_cell hb2 1; have y2 := blk_cell hb2 2)
                  go_roundw
                  case rel => exact ⟨i + 1, by omega, by omega, rfl, ⟨dep_next HI.out hm2 HF2.out (Below.grown (below_alloc HI.out.bel _) hg2 (below_alloc HI.out.bel _).size (fun j hj => by cases hj; exact Nat.le_refl _)) ⟨cur, dep_blk hg2 (by omega) HC1.out trivial, hc2, fun j j0 j1 => dep_zero' HC3.out HP.out j j0 j1⟩ hi0 ⟨HFR.out, HNM.out, inB_true.1 HKD.out, Or.inl HP.out⟩⟩⟩
                  case measure => simp [intOf]; omega
                · have hpb : ((rd_T64 l0 i).f1 == -1) = false := beq_eq_false_iff_ne.2 hp
                  have HP := Aside0.mk hp
                  clear hp
                  go_wp2_with (at_mapUpdate; refine HMap.wpList_upd (K := strK) (f := f) (b := w.heap.size) (n := i.toNat) rfl _ _ _ 131 rfl Tryd.underlying131 Tryd.underlying3 rfl (by exact HF.out.alloc _) (by unfold maxLen; omega) (code l0 i) i rfl (by exact HK.out) rfl (by exact HWI.out) ?_; intro w2 hm2 hg2; have hb2 := wr_var (wr := wr) hg2 (by omega); have y0 := blk_cell hb2 0; have y1 := blk_cell hb2 1; have y2 := blk_cell hb2 2)
                  have HB2 := Aside0.mk (Below.grown (below_alloc HI.out.bel (.cells #[.string (rd_T64 l0 i).f0, .int .i64 (rd_T64 l0 i).f1, .int .i64 (rd_T64 l0 i).f2] 64)) hg2 (below_alloc HI.out.bel _).size (fun j hj => by cases hj; exact Nat.le_refl _))
                  have HD := Aside0.mk (dep_blk hg2 (by omega) HC1.out trivial)
                  have HM2 := Aside0.mk hm2
                  have hlo := Aside0.mk (rows_lo HI.out.rows)
                  have hpar := Aside0.mk (rows_par HI.out.rows)
                  clear hm2 hg2
                  go_loop [10] (fun v => ∃ k : Int, -1 ≤ k ∧ k < i ∧ v = .int .i64 k ∧ Aside0 (∀ n : Nat, k + 1 ≤ n → climb l0 (par l0 i) n k = up l0 i)) (fun v => (intOf v + 1).toNat)
                  case atStart => exact ⟨i - 1, by omega, by omega, rfl, ⟨fun n hn => climb_more l0 (par l0 i) i hpar.out _ _ _ (by omega) hn (by omega)⟩⟩
                  case round =>
                    obtain ⟨k, hk0, hk1, rfl, HCL⟩ := hrel
                    by_cases hk : 0 ≤ k
                    · obtain ⟨ad', e0, z0, z1, z2⟩ := at_T64 (Kd.C_below H0.out HB2.out) k hk (by omega)
                      obtain rfl : ad = ad' := by injection e0
                      by_cases hkp : k = par l0 i
                      · have hkb : (k != (rd_T64 l0 i).f1) = false := by rw [hkp]; exact bne_self_eq_false' _
                        have HU := Aside0.mk (climb_at (fun q => q.2 hkp) HCL.out)
                        clear hkp
                        have hkl : k < (l0.length : Int) := by omega
                        have hd := blk_cell HD.out k.toNat
                        rw [HC3.out k hk (by omega), if_pos hk1] at hd
                        by_cases hkd : knd l0 k = knd l0 i
                        · have hkdb : ((rd_T64 l0 k).f2 != (rd_T64 l0 i).f2) = false := by rw [show (rd_T64 l0 k).f2 = (rd_T64 l0 i).f2 from hkd]; exact bne_self_eq_false' _
                          have HKE := Aside0.mk hkd
                          clear hkd
                          by_cases hde : 8 ≤ deepAt l0 k
                          · go_wp2_with fail
                            go_quiet (fail)
                            go_wp2_with fail
                            go_ret2
                            exact ⟨_, dep_ret (by rw [chartOk_row hi0 hlt (fun q => by rcases q.2.2.2 with q | ⟨_, _, q⟩; exact HP.out q; rw [HU.out] at q; omega)]), pw_below_drewN HB2.out _⟩
                          · have hs := blk_cell HD.out i.toNat
                            rw [HC3.out i hi0 hlt, if_neg (by omega)] at hs
                            have hfz := blk_frozen HD.out i.toNat
                            have hd0 : 0 ≤ deepAt l0 k := anc_nonneg _ _ _
                            go_wp2_with fail
                            go_quiet (fail)
                            go_wp2_with fail
                            go_roundw
                            case rel => exact ⟨i + 1, by omega, by omega, rfl, ⟨dep_next HI.out ((HM2.out.drewN _).far (by simp) _) HF2.out (below_set (pw_below_drewN HB2.out _) (by simp)) ⟨_, blk_set (blk_drewN HD.out _) _ _, by simpa using hc2, fun j j0 j1 => dep_set HC3.out hi0 (by omega) (by rw [← HU.out]; exact deep_up HI.out.rows hi0 (by rw [HU.out]; exact hk)) j j0 j1⟩ hi0 ⟨HFR.out, HNM.out, inB_true.1 HKD.out, Or.inr ⟨by rw [HU.out]; exact hk, by rw [HU.out]; exact HKE.out, by rw [HU.out]; omega⟩⟩⟩⟩
                            case measure => simp [intOf]; omega
                        · have hkdb : ((rd_T64 l0 k).f2 != (rd_T64 l0 i).f2) = true := bne_iff_ne.2 hkd
                          have HKE := Aside0.mk hkd
                          clear hkd
                          go_wp2_with fail
                          go_quiet (fail)
                          go_wp2_with fail
                          go_ret2
                          exact ⟨_, dep_ret (by rw [chartOk_row hi0 hlt (fun q => by rcases q.2.2.2 with q | ⟨_, q, _⟩; exact HP.out q; rw [HU.out] at q; exact HKE.out q)]), pw_below_drewN HB2.out _⟩
                      · have hkb : (k != (rd_T64 l0 i).f1) = true := bne_iff_ne.2 hkp
                        have HKP := Aside0.mk hkp
                        clear hkp
                        have b1 := hlo.out k hk (by omega)
                        have b2 := hpar.out k hk (by omega)
                        go_wp2_with fail
                        go_round
                        case rel => exact ⟨par l0 k, b1, by omega, rfl, ⟨climb_go hpar.out hk hk1 HKP.out HCL.out⟩⟩
                        case measure => show (par l0 k + 1).toNat < (k + 1).toNat; omega
                    · have HU := Aside0.mk (climb_at (fun q => hk q.1) HCL.out)
                      go_wp2_with fail
                      go_quiet (fail)
                      go_wp2_with fail
                      go_ret2
                      exact ⟨_, dep_ret (by rw [chartOk_row hi0 hlt (fun q => by rcases q.2.2.2 with q | ⟨q, _⟩; exact HP.out q; rw [HU.out] at q; omega)]), pw_below_drewN HB2.out _⟩
          · have hfs : (f (code l0 i)).isSome = true := by
              rw [HF2.out]
              unfold fresh at hfr
              simp only [Classical.not_forall] at hfr
              obtain ⟨j, h0, h1', h2'⟩ := hfr
              exact ⟨j, h0, h1', Classical.not_not.1 h2'⟩
            go_wp2_with (at_lookup; refine HMap.wpList_look_ok (K := strK) (f := f) (b := w.heap.size) (n := i.toNat) rfl _ _ 131 rfl Tryd.underlying131 Tryd.underlying3 (zero3 _) rfl (by exact HF.out.alloc _) (code l0 i) rfl (by exact HK.out) ?_; intro c)
            go_ret2
            exact ⟨_, dep_ret (by rw [chartOk_row hi0 hlt (fun q => hfr q.1)]), below_alloc HI.out.bel _⟩
        · go_wp2_with fail
          go_ret2
          exact ⟨_, dep_ret (by rw [chartOk_all h1 h2 (by omega) HI.out.rows]), HI.out.bel⟩
    · go_enter Tryd.func74, Tryd.ntmps74
      go_wp2_with fail
      go_ret2
      exact ⟨_, dep_ret (by rw [chartOk_len (by omega)]), Below.refl _ _⟩
  · go_enter Tryd.func74, Tryd.ntmps74
    go_wp2_with fail
    go_ret2
    exact ⟨_, dep_ret (by rw [chartOk_len (by omega)]), Below.refl _ _⟩
end Go.Proofs.YtjkjjfbcakbmnaaDoor.Q
