/- Parts of the proof: what functions of the program and of the reference answer.
   No condition. -/
import Derived.Test.YtphmnkcfjgallaaZPosted1
import Derived.Test.YtphmnkcfjgallaaZPosted4
import Derived.Test.YtphmnkcfjgallaaZPosted5
import Derived.Test.YtphmnkcfjgallaaZPosted3
import Derived.Test.YtphmnkcfjgallaaZPosted6
namespace Go.Proofs.Ytphmnkcfjgallaa.Q
open Go.RowKit Go.Proofs.YtphmnkcfjgallaaW.PrintWords Go.Proofs.YtphmnkcfjgallaaW.PrintLast Go.Proofs.YtphmnkcfjgallaaW.PrintMore
attribute [local go_sem] max2_int min2_int max_two min_two max_three min_three max_four min_four   -- for this text's walks alone
set_option linter.unusedVariables false
set_option linter.unusedSimpArgs false
theorem rowOk_par {chart : List Acc} {i : Int} (h : rowsOk chart i) (h0 : 0 ≤ i) (hr : rowOk chart i) : -1 ≤ par chart i ∧ par chart i ≤ i - 1 := by
  rcases hr.2.2.2 with q | ⟨q, _⟩
  · omega
  · have := up_is h h0 q
    omega
theorem no_dup {chart : List Acc} {k i : Int} (h : code chart k = code chart i) (h0 : 0 ≤ k) (h1 : k < i) : ¬ rowOk chart i := fun q => q.1 k h0 h1 h
set_option maxHeartbeats 8000000 in
set_option maxRecDepth 100000 in
theorem spec_ChartOk.to (A0 : Option Addr) (c0 : Nat) (l0 : List Acc) (w : World) (hr0 : Kd.C k131 w A0 l0.length l0) (hs : ∀ x ∈ l0, x.f0.size ≤ maxLen) :
    Calls Try.prog 140 #[.slice A0 l0.length c0] w fun e w' => e = .returned (.bool (chartOk l0)) ∧ Below w.heap.size w w' := by
  have hl := hr0.2.1
  have H0 := Aside0.mk hr0
  have HS := Aside0.mk hs
  clear hr0 hs
  by_cases hn : 1 ≤ l0.length ∧ l0.length ≤ 120
  · obtain ⟨h1, h2⟩ := hn
    have hin : inB (l0.length : Int) 1 120 = true := inB_of (by omega)
    go_enter Try.func140, Try.ntmps140
    go_wp2_with fail
    refine (spec_l1In.to _ _ _ _).mono ?_
    rintro e w' ⟨rfl, rfl⟩
    go_wp2_with fail
    go_loopw [3] (fun v wr => ∃ i : Int, 0 ≤ i ∧ i ≤ (l0.length : Int) ∧ v = .int .i64 i ∧ Aside0 (Below w'.heap.size w' wr) ∧ Aside0 (rowsOk l0 i)) (fun v _ => (l0.length - (intOf v).toNat))
    case atStart => exact ⟨0, by omega, by omega, rfl, ⟨Below.refl _ _⟩, ⟨fun j h0 h1 => by omega⟩⟩
    case round =>
      obtain ⟨i, hi0, hi1, rfl, HB, HR⟩ := hrel
      by_cases hlt : i < (l0.length : Int)
      · obtain ⟨ad, e0, x0, x1, x2⟩ := at_T131 (Kd.C_below H0.out HB.out) i hi0 hlt
        cases e0
        have hsz : (code l0 i).size ≤ 9223372036854775807 := all_at (z := z131) (p := fun x => x.f0.size ≤ maxLen) hi0 hlt HS.out
        go_wp2_with fail
        refine (spec_NameOk.to (code l0 i) _ hsz).mono ?_
        rintro e w1 ⟨rfl, rfl⟩
        cases hnm : nameOk (code l0 i) with
        | false =>
          go_wp2_with fail
          go_ret
          exact ⟨ret_bool (chartOk_row hi0 hlt (fun q => by have := q.2.1; rw [hnm] at this; cases this)).symm, below_alloc HB.out _⟩
        | true =>
          have HNM := Aside0.mk hnm
          clear hnm
          go_wp2_with fail
          refine (spec_l1In.to (knd l0 i) _ _ _).mono ?_
          rintro e w1 ⟨rfl, rfl⟩
          cases hkd : inB (knd l0 i) 1 5 with
          | false =>
            go_wp2_with fail
            go_ret
            exact ⟨ret_bool (chartOk_row hi0 hlt (fun q => inB_false.1 hkd q.2.2.1)).symm, below_alloc HB.out _⟩
          | true =>
            have HKD := Aside0.mk hkd
            clear hkd
            go_wp2_with fail
            refine (spec_l1In.to (par l0 i) _ _ _).mono ?_
            rintro e w1 ⟨rfl, rfl⟩
            cases hpr : inB (par l0 i) (-1) (i - 1) with
            | false =>
              go_wp2_with fail
              go_ret
              exact ⟨ret_bool (chartOk_row hi0 hlt (fun q => inB_false.1 hpr (rowOk_par HR.out hi0 q))).symm, below_alloc HB.out _⟩
            | true =>
              have HPR := Aside0.mk (inB_true.1 hpr)
              clear hpr
              go_wp2_with fail
              go_loopw [5] (fun v wd => ∃ k : Int, 0 ≤ k ∧ k ≤ i ∧ v = .int .i64 k ∧ Aside0 (Below w'.heap.size w' wd) ∧ Aside0 (wd.heap[wr.heap.size]? = some (.cells #[.string (rd_T131 l0 i).f0, .int .i64 (rd_T131 l0 i).f1, .int .i64 (rd_T131 l0 i).f2] 131 (0, 0))) ∧ Aside0 (∀ j : Int, 0 ≤ j → j < k → code l0 j ≠ code l0 i)) (fun v _ => (i - intOf v).toNat)
              case atStart => exact ⟨0, by omega, by omega, rfl, ⟨below_alloc HB.out _⟩, ⟨blk_new _ _⟩, ⟨fun j h0 h1 => by omega⟩⟩
              case round =>
                obtain ⟨k, hk0, hk1, rfl, HBd, HV, HT⟩ := hrel
                have v0 := blk_cell HV.out 0
                have v1 := blk_cell HV.out 1
                have v2 := blk_cell HV.out 2
                by_cases hki : k < i
                · have hkl : k < (l0.length : Int) := by omega
                  obtain ⟨ad', e0, z0, z1, z2⟩ := at_T131 (Kd.C_below H0.out HBd.out) k hk0 hkl
                  obtain rfl : ad = ad' := by injection e0
                  by_cases hc : code l0 k = code l0 i
                  · have hcb : ((rd_T131 l0 k).f0.toList == (rd_T131 l0 i).f0.toList) = true := beq_bytes hc
                    have HC := Aside0.mk hc
                    clear hc
                    go_wp2_with fail
                    go_quiet (fail)
                    go_wp2_with fail
                    go_ret
                    exact ⟨ret_bool (chartOk_row hi0 hlt (no_dup HC.out hk0 hki)).symm, pw_below_drewN HBd.out _⟩
                  · have hcb : ((rd_T131 l0 k).f0.toList == (rd_T131 l0 i).f0.toList) = false := nbeq_bytes hc
                    have HC := Aside0.mk hc
                    clear hc
                    go_wp2_with fail
                    go_quiet (fail)
                    go_wp2_with fail
                    go_roundw
                    case rel => exact ⟨k + 1, by omega, by omega, rfl, ⟨pw_below_drewN HBd.out _⟩, ⟨blk_drewN HV.out _⟩, ⟨fun j j0 j1 => by
                      by_cases e : j = k
                      · subst e; exact HC.out
                      · exact HT.out j j0 (by omega)⟩⟩
                    case measure => simp [intOf]; omega
                · obtain rfl : k = i := by omega
                  have hk1' := hk1
                  by_cases hp : (rd_T131 l0 k).f1 < 0
                  · have HP := Aside0.mk hp
                    go_wp2_with fail
                    go_roundw
                    case rel => exact ⟨k + 1, by omega, by omega, rfl, HBd, ⟨rows_step hi0 HR.out ⟨HT.out, HNM.out, inB_true.1 HKD.out, Or.inl (by have := HPR.out.1; have h9 : par l0 k < 0 := HP.out; omega)⟩⟩⟩
                    case measure => simp [intOf]; omega
                  · have HPN := Aside0.mk (show 0 ≤ par l0 k from by have h8 : ¬ (rd_T131 l0 k).f1 < 0 := hp; show 0 ≤ (rd_T131 l0 k).f1; omega)
                    have hlo := Aside0.mk (rows_lo HR.out)
                    have hpar := Aside0.mk (rows_par HR.out)
                    have hpa := Aside0.mk (show ∀ j : Int, 0 ≤ j → j ≤ k → par l0 j < j from fun j j0 j1 => by
                      by_cases e : j = k
                      · subst e; have := HPR.out.2; omega
                      · exact hpar.out j j0 (by omega))
                    go_wp2_with fail
                    go_loop [6] (fun v => ∃ m : Int, -1 ≤ m ∧ m < k ∧ v = .int .i64 m ∧ Aside0 (∀ n : Nat, m + 1 ≤ n → climb l0 (par l0 k) n m = up l0 k)) (fun v => (intOf v + 1).toNat)
                    case atStart => exact ⟨k - 1, by omega, by omega, rfl, ⟨fun n hn => climb_more l0 (par l0 k) k hpar.out _ _ _ (by omega) hn (by omega)⟩⟩
                    case round =>
                      obtain ⟨m, hm0, hm1, rfl, HCL⟩ := hrel
                      by_cases hm : 0 ≤ m
                      · have hml : m < (l0.length : Int) := by omega
                        obtain ⟨ad', e0, z0, z1, z2⟩ := at_T131 (Kd.C_below H0.out HBd.out) m hm hml
                        obtain rfl : ad = ad' := by injection e0
                        by_cases hmp : m = par l0 k
                        · have hmb : (m != (rd_T131 l0 k).f1) = false := by rw [hmp]; exact bne_self_eq_false' _
                          have HU := Aside0.mk (climb_at (fun q => q.2 hmp) HCL.out)
                          clear hmp
                          by_cases hkd : knd l0 m = knd l0 k
                          · have hkdb : ((rd_T131 l0 m).f2 != (rd_T131 l0 k).f2) = false := by rw [show (rd_T131 l0 m).f2 = (rd_T131 l0 k).f2 from hkd]; exact bne_self_eq_false' _
                            have HKE := Aside0.mk hkd
                            clear hkd
                            have HDE := Aside0.mk (deep_up HR.out hi0 (by rw [HU.out]; exact hm))
                            by_cases hde : 8 < deepAt l0 k
                            · go_wp2_with fail
                              go_quiet ((go_at_call 155; exact Calls.quiet_of_same (spec_l4Deep.to (some ad) c0 l0 k _ (Kd.C_drewN (Kd.C_below H0.out HBd.out) _) hi0 (by omega) h2 hpa.out)))
                              go_wp2_with fail
                              go_ret
                              exact ⟨ret_bool (chartOk_row hi0 hlt (fun q => by rcases q.2.2.2 with q | ⟨q0, _, q⟩; (have h7 := HPN.out; omega); have h8 := HDE.out; omega)).symm, pw_below_drewN HBd.out _⟩
                            · go_wp2_with fail
                              go_quiet ((go_at_call 155; exact Calls.quiet_of_same (spec_l4Deep.to (some ad) c0 l0 k _ (Kd.C_drewN (Kd.C_below H0.out HBd.out) _) hi0 (by omega) h2 hpa.out)))
                              go_wp2_with fail
                              go_roundw
                              case rel => exact ⟨k + 1, by omega, by omega, rfl, ⟨pw_below_drewN HBd.out _⟩, ⟨rows_step hi0 HR.out ⟨HT.out, HNM.out, inB_true.1 HKD.out, Or.inr ⟨by rw [HU.out]; exact hm, by rw [HU.out]; exact HKE.out, by have := HDE.out; omega⟩⟩⟩⟩
                              case measure => simp [intOf]; omega
                          · have hkdb : ((rd_T131 l0 m).f2 != (rd_T131 l0 k).f2) = true := bne_iff_ne.2 hkd
                            have HKE := Aside0.mk hkd
                            clear hkd
                            go_wp2_with fail
                            go_quiet (fail)
                            go_wp2_with fail
                            go_ret
                            exact ⟨ret_bool (chartOk_row hi0 hlt (fun q => by rcases q.2.2.2 with q | ⟨_, q, _⟩; (have h7 := HPN.out; omega); rw [HU.out] at q; exact HKE.out q)).symm, pw_below_drewN HBd.out _⟩
                        · have hmb : (m != (rd_T131 l0 k).f1) = true := bne_iff_ne.2 hmp
                          have HKP := Aside0.mk hmp
                          clear hmp
                          have b1 := hlo.out m hm (by omega)
                          have b2 := hpar.out m hm (by omega)
                          go_wp2_with fail
                          go_round
                          case rel => exact ⟨par l0 m, b1, by omega, rfl, ⟨climb_go hpar.out hm hm1 HKP.out HCL.out⟩⟩
                          case measure => show (par l0 m + 1).toNat < (m + 1).toNat; omega
                      · have HU := Aside0.mk (climb_at (fun q => hm q.1) HCL.out)
                        go_wp2_with fail
                        go_quiet (fail)
                        go_wp2_with fail
                        go_ret
                        exact ⟨ret_bool (chartOk_row hi0 hlt (fun q => by rcases q.2.2.2 with q | ⟨q, _⟩; (have h7 := HPN.out; omega); rw [HU.out] at q; omega)).symm, pw_below_drewN HBd.out _⟩
      · go_wp2_with fail
        go_ret
        exact ⟨ret_bool (chartOk_all h1 h2 (by omega) HR.out).symm, HB.out⟩
  · have hin : inB (l0.length : Int) 1 120 = false := inB_not (by omega)
    go_enter Try.func140, Try.ntmps140
    go_wp2_with fail
    refine (spec_l1In.to _ _ _ _).mono ?_
    rintro e w' ⟨rfl, rfl⟩
    go_wp2_with fail
    go_ret
    exact ⟨ret_bool (chartOk_len hn).symm, Below.refl _ _⟩
end Go.Proofs.Ytphmnkcfjgallaa.Q
namespace Go.Proofs.Ytphmnkcfjgallaa.Q
open Go.RowKit Go.Proofs.YtphmnkcfjgallaaW.PrintWords Go.Proofs.YtphmnkcfjgallaaW.PrintLast Go.Proofs.YtphmnkcfjgallaaW.PrintMore
attribute [local go_sem] max2_int min2_int max_two min_two max_three min_three max_four min_four   -- for this text's walks alone
set_option linter.unusedVariables false
set_option linter.unusedSimpArgs false
noncomputable def spec_l5Ledger.f (k : Nat) (l0_0 : List (S34)) (a0_1 : Int) : Option ((List (S34)) × Int) := (spec_l5Entries.f k l0_0).bind fun t91003 => (some (t91003, a0_1))
set_option maxHeartbeats 8000000 in
set_option maxRecDepth 100000 in
theorem spec_l5Ledger.calls (k : Nat) (A0_0 : Option Addr) (c0_0 : Nat) (l0_0 : List (S34)) (a0_1 : Int) (r1 : List (S34)) (r2 : Int) (w : World) (hr0_0 : Kd.C k34 w A0_0 l0_0.length l0_0) (hc0_0 : l0_0.length ≤ c0_0) (h : spec_l5Ledger.f k l0_0 a0_1 = some (r1, r2)) :
    Calls Try.prog 90 #[.agg #[.slice A0_0 l0_0.length c0_0, .int .i64 a0_1]] w fun e w' => ∃ v0_ : Value, e = .returned (.agg #[v0_, .int .i64 r2]) ∧ Kd.S k34 34 w' w.heap.size (fun _ => True) v0_ r1 ∧ Below w.heap.size w w' := by
  have hu29 := Try.underlying29
  have HR0_0 := Aside0.mk hr0_0
  have HC0_0 := Aside0.mk hc0_0
  clear hr0_0 hc0_0
  have HB := Aside0.mk (Below.refl w.heap.size w)
  have H : ((spec_l5Entries.f k l0_0).bind fun t91003 => (some (t91003, a0_1))) = some (r1, r2) := h
  clear h
  replace H := Option.bind_eq_some_iff.mp H
  obtain ⟨t91003, A20, H⟩ := H
  replace H : (some (t91003, a0_1)) = some (r1, r2) := H
  have A2 := Aside0.mk A20
  clear A20
  simp only [Option.some.injEq, Prod.mk.injEq] at H
  obtain ⟨rfl, rfl⟩ := H
  go_enter Try.func90, Try.ntmps90
  try go_wp2_with (first | ((with_reducible refine gate_dst (N := 1) rfl ?_); refine box_event ?hg (N := 1) ?hd (cs := #[.slice A0_0 l0_0.length c0_0, .int .i64 a0_1]) (t := 29) ?hr ?_; (case hd => rfl); (case hg => rfl); (case hr => first | (go_simp; done) | (go_simp; rfl)); intro gb91001 hg w3 hbox hb; have n0_ := Aside0.mk (below_step (by repeat (first | (with_reducible first | exact HB.out | apply below_alloc | apply pw_below_drewN | apply below_drew1) | exact HB.out)) hb); have n1_ := Aside0.mk (hbox); have n2_ := Aside0.mk ((by rw [hg]; exact (below_size (by repeat (first | (with_reducible first | exact HB.out | apply below_alloc | apply pw_below_drewN | apply below_drew1) | exact HB.out))) : w.heap.size ≤ gb91001)); have n3_ := Aside0.mk ((by rw [hg]; exact (below_size (by repeat (first | (with_reducible first | exact HB.out | apply below_alloc | apply pw_below_drewN | apply below_drew1) | exact HB.out))) : w.heap.size ≤ gb91001)); clear HB; have HB := n0_; have BK91001 := n1_; have GW91001 := n2_; have GE91001 := n3_; clear n0_ n1_ n2_ n3_; clear hb hbox hg) | ((with_reducible refine gate_dst (N := 2) rfl ?_); refine box_event ?hg (N := 2) ?hd (cs := #[.slice none 0 0, .int .i64 0]) (t := 29) ?hr ?_; (case hd => rfl); (case hg => rfl); (case hr => first | (go_simp; done) | (go_simp; rfl)); intro gb91002 hg w4 hbox hb; have n0_ := Aside0.mk (blk_below (g := gb91001) (o := .cells #[.slice A0_0 l0_0.length c0_0, .int .i64 a0_1] 29 (0, 0)) (by (with_reducible repeat (first | refine blk_drewN ?_ _ | refine blk_drew ?_ | refine blk_alloc ?_ _)); exact BK91001.out) hb); have n1_ := Aside0.mk (below_step (by repeat (first | (with_reducible first | exact HB.out | apply below_alloc | apply pw_below_drewN | apply below_drew1 | refine below_set ?_ GE91001.out) | exact HB.out)) hb); have n2_ := Aside0.mk (hbox); have n3_ := Aside0.mk ((by rw [hg]; exact (below_size (by repeat (first | (with_reducible first | exact HB.out | apply below_alloc | apply pw_below_drewN | apply below_drew1 | refine below_set ?_ GE91001.out) | exact HB.out))) : w.heap.size ≤ gb91002)); have n4_ := Aside0.mk ((by rw [hg]; exact (below_size (by repeat (first | (with_reducible first | exact HB.out | apply below_alloc | apply pw_below_drewN | apply below_drew1 | refine below_set ?_ GE91001.out) | exact HB.out))) : w.heap.size ≤ gb91002)); have n5_ := Aside0.mk ((by rw [hg]; exact Nat.ne_of_lt (blk_lt (g := gb91001) (o := .cells #[.slice A0_0 l0_0.length c0_0, .int .i64 a0_1] 29 (0, 0)) (by (with_reducible repeat (first | refine blk_drewN ?_ _ | refine blk_drew ?_ | refine blk_alloc ?_ _)); exact BK91001.out)) : gb91001 ≠ gb91002)); have n6_ := Aside0.mk ((by rw [hg]; exact Nat.ne_of_gt (blk_lt (g := gb91001) (o := .cells #[.slice A0_0 l0_0.length c0_0, .int .i64 a0_1] 29 (0, 0)) (by (with_reducible repeat (first | refine blk_drewN ?_ _ | refine blk_drew ?_ | refine blk_alloc ?_ _)); exact BK91001.out)) : gb91002 ≠ gb91001)); clear BK91001; clear HB; have BK91001 := n0_; have HB := n1_; have BK91002 := n2_; have GW91002 := n3_; have GE91002 := n4_; have NB91001_91002 := n5_; have NB91002_91001 := n6_; clear n0_ n1_ n2_ n3_ n4_ n5_ n6_; clear hb hbox hg))
  have n0_ := Aside0.mk (blk_drew BK91001.out)
  have n1_ := Aside0.mk (blk_drew BK91002.out)
  have n2_ := Aside0.mk (below_drew1 HB.out)
  clear BK91001
  clear BK91002
  clear HB
  have BK91001 := n0_
  have BK91002 := n1_
  have HB := n2_
  clear n0_ n1_ n2_
  refine start_ (n := 7) (S := fun w' => w'.cell? ⟨gb91001, 0, none⟩ = some (.slice A0_0 l0_0.length c0_0) ∧ w'.cell? ⟨gb91001, 1, none⟩ = some (.int .i64 a0_1)) (ds := []) #[false, false, false, false, false, false, false] (by kernel_rfl) rfl rfl ⟨(blk_cell BK91001.out 0).trans rfl, (blk_cell BK91001.out 1).trans rfl⟩ (fun hHeld => ?_)
  generalize w4.drew = w5 at BK91001 BK91002 HB hHeld ⊢
  refine pure_ (i := 0) (N := some 3) (v := ?_) (a' := ?_) #[true, false, false, false, false, false, false] rfl rfl (by kernel_rfl) (fun _ _ _ h => h) (Or.inl ⟨by rfl, ?_⟩) ?_ ?_
  rotate_left
  · intro w'
    go_simp
    with_reducible rfl
  rotate_left
  · simp only [Act.put, List.setIfInBounds_toArray, List.set_cons_zero, List.set_cons_succ, i64_w, i32_w]
    rfl
  refine pure_ (i := 3) (N := some 6) (v := ?_) (a' := ?_) #[true, false, false, true, false, false, false] rfl rfl (by kernel_rfl) (fun _ _ _ h => h) (Or.inl ⟨by rfl, ?_⟩) ?_ ?_
  rotate_left
  · intro w'
    go_simp
    with_reducible rfl
  rotate_left
  · simp only [Act.put, List.setIfInBounds_toArray, List.set_cons_zero, List.set_cons_succ, i64_w, i32_w]
    rfl
  refine take_ (i := 1) (N := some 4) (v := ?_) (a' := ?_) #[true, true, false, true, false, false, false] rfl rfl (by kernel_rfl) (fun _ _ _ h => h) (Or.inl ⟨by rfl, ?_⟩) hHeld ?_ ?_
  rotate_left
  · rintro w' ⟨s0, s1⟩
    go_simp
    with_reducible rfl
  rotate_left
  · simp only [Act.put, List.setIfInBounds_toArray, List.set_cons_zero, List.set_cons_succ, i64_w, i32_w]
    rfl
  refine take_ (i := 4) (N := some 7) (v := ?_) (a' := ?_) #[true, true, false, true, true, false, false] rfl rfl (by kernel_rfl) (fun _ _ _ h => h) (Or.inl ⟨by rfl, ?_⟩) hHeld ?_ ?_
  rotate_left
  · rintro w' ⟨s0, s1⟩
    go_simp
    with_reducible rfl
  rotate_left
  · simp only [Act.put, List.setIfInBounds_toArray, List.set_cons_zero, List.set_cons_succ, i64_w, i32_w]
    rfl
  refine one_ (i := 2) (N := some 5) #[true, true, true, true, true, false, false] rfl rfl (by kernel_rfl) (by decide) (fun K hK => ?_)
  refine goes_ Try.func134 (by kernel_rfl) rfl #[.slice A0_0 l0_0.length c0_0] (by rfl) rfl rfl (by (try simp only [List.map_toArray, List.map_cons, List.map_nil]); first | done | rfl | (simp only [List.length_drop, List.length_take]; rfl)) ?_
  with_reducible refine (spec_l5Entries.calls k _ _ l0_0 t91003 _ ?side1 ?side2 A2.out).mono ?_
  (case side1 => repeat (first | exact (Kd.C_below HR0_0.out HB.out) | (with_reducible refine Kd.C_alloc ?_ _) | (with_reducible refine Kd.C_drewN ?_ _) | (with_reducible refine Kd.C_drew ?_)))
  (case side2 => exact HC0_0.out)
  rintro e w6 ⟨v91004, rfl, ho0, hb⟩
  refine ⟨_, rfl, ?_⟩
  have n0_ := Aside0.mk (Kd.S_lower ho0 (below_size (by repeat (first | (with_reducible first | exact HB.out | apply below_alloc | apply pw_below_drewN | apply below_drew1 | refine below_set ?_ GE91001.out | refine below_set ?_ GE91002.out) | exact HB.out))))
  have n1_ := Aside0.mk (blk_below (g := gb91001) (o := .cells #[.slice A0_0 l0_0.length c0_0, .int .i64 a0_1] 29 (0, 0)) (by (with_reducible repeat (first | refine blk_drewN ?_ _ | refine blk_drew ?_ | refine blk_alloc ?_ _)); exact BK91001.out) hb)
  have n2_ := Aside0.mk (blk_below (g := gb91002) (o := .cells #[.slice none 0 0, .int .i64 0] 29 (0, 0)) (by (with_reducible repeat (first | refine blk_drewN ?_ _ | refine blk_drew ?_ | refine blk_alloc ?_ _)); exact BK91002.out) hb)
  have n3_ := Aside0.mk (below_step (by repeat (first | (with_reducible first | exact HB.out | apply below_alloc | apply pw_below_drewN | apply below_drew1 | refine below_set ?_ GE91001.out | refine below_set ?_ GE91002.out) | exact HB.out)) hb)
  clear BK91001
  clear BK91002
  clear HB
  have HO91005 := n0_
  have BK91001 := n1_
  have BK91002 := n2_
  have HB := n3_
  clear n0_ n1_ n2_ n3_
  (try clear hb)
  (try clear hb2)
  (try clear hk)
  (try clear hi)
  (try clear ho0)
  obtain ⟨Ao7, co7, eo7⟩ := Kd.S_slice HO91005.out
  (first | subst eo7 | (injection eo7 with f1_ f2_ f3_; have f4_ := f1_.symm; have f5_ := f3_.symm; clear f1_ f2_ f3_; subst f4_; subst f5_))
  refine hK.out _ _ ⟨(blk_cell BK91001.out 0).trans rfl, (blk_cell BK91001.out 1).trans rfl⟩ (fun hHeld => ?_)
  clear hK K
  refine norm_ (a' := ?_) ?_ ?_
  rotate_left
  · show Act.put _ (some 5) _ = _
    simp only [Act.put, List.setIfInBounds_toArray, List.set_cons_zero, List.set_cons_succ, i64_w, i32_w]
    rfl
  refine pure_ (i := 5) (N := some 8) (v := ?_) (a' := ?_) #[true, true, true, true, true, true, false] rfl rfl (by kernel_rfl) (fun _ _ _ h => h) (Or.inl ⟨by rfl, ?_⟩) ?_ ?_
  rotate_left
  · intro w'
    go_simp
    with_reducible rfl
  rotate_left
  · simp only [Act.put, List.setIfInBounds_toArray, List.set_cons_zero, List.set_cons_succ, i64_w, i32_w]
    rfl
  refine one_ (i := 6) (N := none) #[true, true, true, true, true, true, true] rfl rfl (by kernel_rfl) (by decide) (fun K hK => ?_)
  have hs8 : w6.cell? ⟨gb91002, 0, none⟩ = some (.slice none 0 0) := (blk_cell BK91002.out 0).trans rfl
  have hfs8 := blk_frozen BK91002.out 0
  have hns8_0 := NB91001_91002.out
  have hms8_0 := NB91002_91001.out
  have hs9 : w6.cell? ⟨gb91002, 1, none⟩ = some (.int .i64 0) := (blk_cell BK91002.out 1).trans rfl
  have hfs9 := blk_frozen BK91002.out 1
  have hns9_0 := NB91001_91002.out
  have hms9_0 := NB91002_91001.out
  refine skip_ (w1 := ?_) (by rfl) rfl ?_ ?_
  rotate_left
  · go_simp
    rfl
  refine hK.out _ _ ⟨((cell_far (p := ⟨gb91002, _, none⟩) NB91001_91002.out _).trans (((cell_far (p := ⟨gb91002, _, none⟩) NB91001_91002.out _).trans (hHeld.1)))), ((cell_far (p := ⟨gb91002, _, none⟩) NB91001_91002.out _).trans (((cell_far (p := ⟨gb91002, _, none⟩) NB91001_91002.out _).trans (hHeld.2))))⟩ (fun hHeld => ?_)
  clear hK K
  refine done_ (by kernel_rfl) ?_
  try go_wp2
  refine bodyPost_ret (results_cell_row rfl _ _ gb91002 29 #[.slice Ao7 t91003.length co7, .int .i64 a0_1] (0, 0) _ rfl (by (with_reducible repeat (first | refine blk_drewN ?_ _ | refine blk_drew ?_ | refine blk_alloc ?_ _)); refine blk_put (cs := #[.slice Ao7 t91003.length co7, .int .i64 0]) ?_ 1 _ rfl; (with_reducible repeat (first | refine blk_drewN ?_ _ | refine blk_drew ?_ | refine blk_alloc ?_ _)); refine blk_put (cs := #[.slice none 0 0, .int .i64 0]) ?_ 0 _ rfl; (with_reducible repeat (first | refine blk_drewN ?_ _ | refine blk_drew ?_ | refine blk_alloc ?_ _)); exact BK91002.out) Try.underlying29 rfl (by kernel_rfl)) rfl ?_
  exact ⟨_, by first | rfl | (simp [errW_none, errW_some] <;> rfl) | (simp [*, errW_none, errW_some] <;> rfl), by (with_reducible repeat (first | apply Kd.S_alloc | apply Kd.S_drewN | apply Kd.S_drew)); exact Kd.S_mono (Kd.S_far (p := ⟨gb91002, 1, none⟩) (Kd.S_far (p := ⟨gb91002, 0, none⟩) (Kd.S_types HO91005.out BK91002.out (by decide)) (fun _ hk => hk.2) (.slice Ao7 t91003.length co7)) (fun _ hk => hk.2) (.int .i64 a0_1)) (fun _ hk => trivial), by repeat (first | (with_reducible first | exact HB.out | apply below_alloc | apply pw_below_drewN | apply below_drew1 | refine below_set ?_ GE91001.out | refine below_set ?_ GE91002.out) | exact HB.out)⟩
end Go.Proofs.Ytphmnkcfjgallaa.Q
namespace Go.Proofs.Ytphmnkcfjgallaa.Q
open Go.RowKit Go.Proofs.YtphmnkcfjgallaaW.PrintWords Go.Proofs.YtphmnkcfjgallaaW.PrintLast Go.Proofs.YtphmnkcfjgallaaW.PrintMore
attribute [local go_sem] max2_int min2_int max_two min_two max_three min_three max_four min_four   -- for this text's walks alone
set_option linter.unusedVariables false
set_option linter.unusedSimpArgs false
end Go.Proofs.Ytphmnkcfjgallaa.Q
namespace Go.Proofs.Ytphmnkcfjgallaa.Q
open Go.RowKit Go.Proofs.YtphmnkcfjgallaaW.PrintWords Go.Proofs.YtphmnkcfjgallaaW.PrintLast Go.Proofs.YtphmnkcfjgallaaW.PrintMore
set_option linter.unusedVariables false
set_option linter.unusedSimpArgs false
theorem i64_and255 (n : Int) : Go.bits .and .i64 n 255 = n % 256 := by
  have h127 : (BitVec.ofInt 64 255).toNat = 2 ^ 8 - 1 := by decide
  have key : (BitVec.ofInt 64 n &&& BitVec.ofInt 64 255).toNat = (n % ((2 ^ 64 : Nat) : Int)).toNat % 2 ^ 8 := by
    rw [BitVec.toNat_and, BitVec.toNat_ofInt, h127, Nat.and_two_pow_sub_one_eq_mod]
  show IntKind.i64.wrap ((BitVec.ofInt 64 n &&& BitVec.ofInt 64 255).toNat : Nat) = n % 256
  rw [key, IntKind.wrap_i64]
  omega
theorem l1Byte_is (c : List Int) (i h : Int) (h0 : 0 ≤ i) (h1 : i ≤ (c.length : Int)) (hc : c.length ≤ 1048576) : ∃ r j h', spec_l1Byte.f c i h = some (r, j, h') ∧ (0 ≤ r ∧ r ≤ 255) ∧ 0 ≤ j ∧ j ≤ (c.length : Int) := by
  unfold spec_l1Byte.f
  by_cases q : i < (c.length : Int)
  · rw [if_pos q, if_pos h0]
    refine ⟨_, _, _, rfl, ?_, ?_⟩
    · rw [i64_and255]; omega
    · rw [show wrap64 (i + 1) = i + 1 by unfold wrap64; omega]; omega
  · rw [if_neg q]
    exact ⟨_, _, _, rfl, by rw [i64_and255]; omega, h0, h1⟩
theorem l1Below_is (c : List Int) (i h n : Int) (h0 : 0 ≤ i) (h1 : i ≤ (c.length : Int)) (hc : c.length ≤ 1048576) (hn : n ≤ 2147483648) : ∃ r j h', spec_l1Below.f c i h n = some (r, j, h') ∧ (0 ≤ r ∧ (0 < n → r < n) ∧ (n ≤ 0 → r = 0)) ∧ 0 ≤ j ∧ j ≤ (c.length : Int) := by
  unfold spec_l1Below.f
  by_cases q : n ≤ 0
  · rw [if_pos q]
    exact ⟨0, i, h, rfl, ⟨by omega, fun _ => by omega, fun _ => rfl⟩, h0, h1⟩
  · rw [if_neg q]
    by_cases q2 : n ≤ 256
    · rw [if_pos q2]
      obtain ⟨r, j, h', e, hr, hj⟩ := l1Byte_is c i h h0 h1 hc
      rw [e]
      simp only [Option.bind_some]
      rw [if_neg (by omega)]
      exact ⟨_, _, _, rfl, ⟨Int.tmod_nonneg _ hr.1, fun hp => Int.tmod_lt_of_pos _ hp, fun hp => absurd hp q⟩, hj⟩
    · rw [if_neg q2]
      obtain ⟨r, j, h', e, hr, hj⟩ := l1Byte_is c i h h0 h1 hc
      rw [e]
      simp only [Option.bind_some]
      obtain ⟨r1, j1, h1', e1, hr1, hj1⟩ := l1Byte_is c j h' hj.1 hj.2 hc
      rw [e1]
      simp only [Option.bind_some]
      obtain ⟨r2, j2, h2', e2, hr2, hj2⟩ := l1Byte_is c j1 h1' hj1.1 hj1.2 hc
      rw [e2]
      simp only [Option.bind_some]
      obtain ⟨r3, j3, h3', e3, hr3, hj3⟩ := l1Byte_is c j2 h2' hj2.1 hj2.2 hc
      rw [e3]
      simp only [Option.bind_some]
      rw [if_neg (by omega)]
      refine ⟨_, _, _, rfl, ⟨Int.tmod_nonneg _ ?_, fun hp => Int.tmod_lt_of_pos _ hp, fun hp => absurd hp q⟩, hj3⟩
      unfold wrap64
      omega
def Cur (w0 W : World) (g : Nat) (c : List Int) : Prop := ∃ i h, IsS159 w0 W g c i h ∧ 0 ≤ i ∧ i ≤ (c.length : Int)
structure Drew (w0 w w' : World) (g : Nat) (c : List Int) : Prop where
  cur : Cur w0 w' g c
  bel : Below w0.heap.size w0 w'
  keep : KeepBut w w' g none
theorem Cur.ge {w0 W : World} {g : Nat} {c : List Int} (h : Cur w0 W g c) : w0.heap.size ≤ g := by obtain ⟨_, _, h, _⟩ := h; exact h.ge
theorem Cur.lt {w0 W : World} {g : Nat} {c : List Int} (h : Cur w0 W g c) : g < W.heap.size := by obtain ⟨_, _, h, _⟩ := h; exact h.lt
theorem Cur.below {w0 W W1 : World} {g : Nat} {c : List Int} (h : Cur w0 W g c) (hw : Below W.heap.size W W1) : Cur w0 W1 g c := by obtain ⟨i, j, h, k⟩ := h; exact ⟨i, j, h.below hw, k⟩
theorem Cur.grown {w0 W W1 : World} {g : Nat} {c : List Int} {row : Option Nat} (h : Cur w0 W g c) (hw : W.grownBy W1 row) (hne : some g ≠ row) : Cur w0 W1 g c := by obtain ⟨i, j, h, k⟩ := h; exact ⟨i, j, h.grown hw hne, k⟩
theorem Cur.far {w0 W : World} {g : Nat} {c : List Int} {p : Addr} (h : Cur w0 W g c) (hne : g ≠ p.block) (u : Value) : Cur w0 (W.setCell p u) g c := by obtain ⟨i, j, h, k⟩ := h; exact ⟨i, j, h.far hne u, k⟩
theorem Cur.drewN {w0 W : World} {g : Nat} {c : List Int} (h : Cur w0 W g c) (m : Nat) : Cur w0 (W.drewN m) g c := by obtain ⟨i, j, h, k⟩ := h; exact ⟨i, j, h.drewN m, k⟩
theorem Cur.drew {w0 W : World} {g : Nat} {c : List Int} (h : Cur w0 W g c) : Cur w0 W.drew g c := by obtain ⟨i, j, h, k⟩ := h; exact ⟨i, j, h.drew, k⟩
theorem Cur.own_ne {w0 W : World} {g : Nat} {c : List Int} {α : Type} {d : Kd α} {e : Nat} {base : Nat} {ok : Nat → Prop} {v : Value} {xs : List α} (h : Cur w0 W g c) (ho : d.R e W base ok v xs) (ht : e ≠ 159) : some g ≠ v.ownBlock := by obtain ⟨i, j, h, k⟩ := h; exact h.own_ne ho ht
theorem Cur.apart {w0 W : World} {g : Nat} {c : List Int} {α : Type} {d : Kd α} {e : Nat} {base : Nat} {ok : Nat → Prop} {v : Value} {xs : List α} (h : Cur w0 W g c) (ho : d.R e W base ok v xs) (ht : ∀ q, q ∈ e :: d.E → q ≠ 159) : d.R e W base (fun k => ok k ∧ k ≠ g) v xs := by obtain ⟨i, j, h, k⟩ := h; exact h.apart ho ht
theorem Cur.apartS {w0 W : World} {g : Nat} {c : List Int} {α : Type} {d : Kd α} {e : Nat} {base : Nat} {ok : Nat → Prop} {v : Value} {xs : List α} (h : Cur w0 W g c) (ho : d.S e W base ok v xs) (ht : ∀ q, q ∈ e :: d.E → q ≠ 159) : d.S e W base (fun k => ok k ∧ k ≠ g) v xs := by obtain ⟨i, j, h, k⟩ := h; exact h.apartS ho ht
theorem KeepBut.thenK {w w1 w2 : World} {g : Nat} (h : KeepBut w w1 g none) (k : KeepBut w1 w2 g none) : KeepBut w w2 g none := h.trans k (.inl rfl)
theorem KeepBut.cell {w w1 : World} {g : Nat} (h : KeepBut w w1 g none) {p : Addr} {v : Value} (hc : w.cell? p = some v) (hne : p.block ≠ g) : w1.cell? p = some v :=
  (World.cell?_of_block (h.2 p.block (World.block_lt_of_cell? w p hc) hne (by simp))).trans hc
theorem spec_l1New_l0 (c : List Int) (hc : c.length ≤ 1048576) : ∀ (n k : Nat) (h i : Int), 0 ≤ i → 4000 ≤ i + n → n < k → ∃ h', spec_l1New.l0 k c h i = some (c, 0, h') := by
  intro n
  induction n with
  | zero =>
    intro k h i h0 hi hk
    obtain ⟨k, rfl⟩ : ∃ j, k = j + 1 := ⟨k - 1, by omega⟩
    simp only [spec_l1New.l0]
    by_cases q : i < (c.length : Int)
    · rw [if_pos q, if_neg (by omega)]; exact ⟨_, rfl⟩
    · rw [if_neg q]; exact ⟨_, rfl⟩
  | succ n ih =>
    intro k h i h0 hi hk
    obtain ⟨k, rfl⟩ : ∃ j, k = j + 1 := ⟨k - 1, by omega⟩
    simp only [spec_l1New.l0]
    by_cases q : i < (c.length : Int)
    · rw [if_pos q]
      by_cases q2 : i < 4000
      · rw [if_pos q2, if_pos h0, show wrap64 (i + 1) = i + 1 by unfold wrap64; omega]
        exact ih k _ _ (by omega) (by omega) (by omega)
      · rw [if_neg q2]; exact ⟨_, rfl⟩
    · rw [if_neg q]; exact ⟨_, rfl⟩
theorem spec_l1New.e (A0 : Option Addr) (c0 : Nat) (c : List Int) (w : World) (hr0 : Kd.C (Kd.int .u8) w A0 c.length c) (hc0 : c.length ≤ c0) (hl : c.length ≤ 1048576) :
    Calls Try.prog 68 #[.slice A0 c.length c0] w fun e w' => ∃ g : Nat, e = .returned (.pointer (some ⟨g, 0, none⟩)) ∧ Cur w w' g c ∧ Below w.heap.size w w' := by
  obtain ⟨h', e⟩ := spec_l1New_l0 c hl 4000 4001 (wrap64 (71933 + (c.length : Int))) 0 (by omega) (by omega) (by omega)
  refine (spec_l1New.calls 4001 A0 c0 c c 0 h' w w (Below.refl _ _) hr0 hc0 e).mono ?_
  rintro e w' ⟨g, he, hI, hB, _⟩
  exact ⟨g, he, ⟨0, h', hI, by omega, by omega⟩, hB⟩
section
variable {w0 w : World} {g : Nat} {c : List Int}
theorem spec_l1Below.e (n : Int) (hI : Cur w0 w g c) (hB : Below w0.heap.size w0 w) (hc : c.length ≤ 1048576) (hn : n ≤ 2147483648) :
    Calls Try.prog 72 #[.pointer (some ⟨g, 0, none⟩), .int .i64 n] w fun e w' => ∃ r : Int, e = .returned (.int .i64 r) ∧ (0 ≤ r ∧ (0 < n → r < n) ∧ (n ≤ 0 → r = 0)) ∧ Drew w0 w w' g c := by
  obtain ⟨i, h, hI, h0, h1⟩ := hI
  obtain ⟨r, j, h', e, hr, hj0, hj1⟩ := l1Below_is c i h n h0 h1 hc hn
  refine (spec_l1Below.calls g c i h n r j h' w0 w hI hB e).mono ?_
  rintro e w' ⟨he, hI', hB', hK⟩
  exact ⟨r, he, hr, ⟨⟨j, h', hI', hj0, hj1⟩, hB', hK⟩⟩
theorem spec_l1Once.e (n : Int) (hI : Cur w0 w g c) (hB : Below w0.heap.size w0 w) (hc : c.length ≤ 1048576) (hn : n ≤ 2147483648) :
    Calls Try.prog 128 #[.pointer (some ⟨g, 0, none⟩), .int .i64 n] w fun e w' => ∃ r : Bool, e = .returned (.bool r) ∧ Drew w0 w w' g c := by
  obtain ⟨i, h, hI, h0, h1⟩ := hI
  obtain ⟨r, j, h', e, hr, hj0, hj1⟩ := l1Below_is c i h n h0 h1 hc hn
  refine (spec_l1Once.calls g c i h n (r == 0) j h' w0 w hI hB (by unfold spec_l1Once.f; rw [e]; rfl)).mono ?_
  rintro e w' ⟨he, hI', hB', hK⟩
  exact ⟨_, he, ⟨⟨j, h', hI', hj0, hj1⟩, hB', hK⟩⟩
theorem spec_l1Pick.e (A1 : Option Addr) (c1 : Nat) (l1 : List ByteArray) (hI : Cur w0 w g c) (hB : Below w0.heap.size w0 w) (hc : c.length ≤ 1048576) (hr1 : Kd.C Kd.string w A1 l1.length l1) (hc1 : l1.length ≤ c1) (hf1 : ∀ ad, A1 = some ad → 0 < l1.length → ad.block ≠ g) (hl : 0 < l1.length) (hl2 : l1.length ≤ 1048576) :
    Calls Try.prog 132 #[.pointer (some ⟨g, 0, none⟩), .slice A1 l1.length c1] w fun e w' => ∃ r : ByteArray, e = .returned (.string r) ∧ r ∈ l1 ∧ Drew w0 w w' g c := by
  obtain ⟨i, h, hI, h0, h1⟩ := hI
  obtain ⟨r, j, h', e, ⟨hr0, hr1', _⟩, hj0, hj1⟩ := l1Below_is c i h (l1.length : Int) h0 h1 hc (by omega)
  have hr2 := hr1' (by omega)
  refine (spec_l1Pick.calls g c i h A1 c1 l1 (rdOf ByteArray.empty l1 r) j h' w0 w hI hB hr1 hc1 hf1 (by unfold spec_l1Pick.f; rw [e]; simp only [Option.bind_some]; rw [if_pos hr0, if_pos hr2])).mono ?_
  rintro e w' ⟨he, hI', hB', hK⟩
  exact ⟨_, he, by unfold rdOf; exact mem_at hr0 hr2, ⟨⟨j, h', hI', hj0, hj1⟩, hB', hK⟩⟩
theorem l1PickInt_is (c : List Int) (i h : Int) (l : List Int) (h0 : 0 ≤ i) (h1 : i ≤ (c.length : Int)) (hc : c.length ≤ 1048576) (hl : 0 < l.length) (hl2 : l.length ≤ 1048576) : ∃ r j h', spec_l1PickInt.f c i h l = some (r, j, h') ∧ r ∈ l ∧ 0 ≤ j ∧ j ≤ (c.length : Int) := by
  obtain ⟨r, j, h', e, ⟨hr0, hr1', _⟩, hj0, hj1⟩ := l1Below_is c i h (l.length : Int) h0 h1 hc (by omega)
  have hr2 := hr1' (by omega)
  exact ⟨rd l r, j, h', by unfold spec_l1PickInt.f; rw [e]; simp only [Option.bind_some]; rw [if_pos hr0, if_pos hr2], by unfold rd; exact mem_at hr0 hr2, hj0, hj1⟩
theorem spec_l1PickInt.e (A1 : Option Addr) (c1 : Nat) (l1 : List Int) (hI : Cur w0 w g c) (hB : Below w0.heap.size w0 w) (hc : c.length ≤ 1048576) (hr1 : Kd.C (Kd.int .i64) w A1 l1.length l1) (hc1 : l1.length ≤ c1) (hf1 : ∀ ad, A1 = some ad → 0 < l1.length → ad.block ≠ g) (hl : 0 < l1.length) (hl2 : l1.length ≤ 1048576) :
    Calls Try.prog 129 #[.pointer (some ⟨g, 0, none⟩), .slice A1 l1.length c1] w fun e w' => ∃ r : Int, e = .returned (.int .i64 r) ∧ r ∈ l1 ∧ Drew w0 w w' g c := by
  obtain ⟨i, h, hI, h0, h1⟩ := hI
  obtain ⟨r, j, h', e, hm, hj0, hj1⟩ := l1PickInt_is c i h l1 h0 h1 hc hl hl2
  refine (spec_l1PickInt.calls g c i h A1 c1 l1 r j h' w0 w hI hB hr1 hc1 hf1 e).mono ?_
  rintro e w' ⟨he, hI', hB', hK⟩
  exact ⟨_, he, hm, ⟨⟨j, h', hI', hj0, hj1⟩, hB', hK⟩⟩
theorem spec_l1DrawName.e (hI : Cur w0 w g c) (hB : Below w0.heap.size w0 w) (hc : c.length ≤ 1048576) :
    Calls Try.prog 154 #[.pointer (some ⟨g, 0, none⟩)] w fun e w' => ∃ r : ByteArray, e = .returned (.string r) ∧ r.size ≤ 20 ∧ Drew w0 w w' g c := by
  obtain ⟨i, h, hI, h0, h1⟩ := hI
  obtain ⟨r, j, h', e, ⟨hr0, hr1', _⟩, hj0, hj1⟩ := l1Below_is c i h 15 h0 h1 hc (by omega)
  have hr2 := hr1' (by omega)
  have key : ∀ l : List ByteArray, l.length = 15 → (∀ x ∈ l, x.size ≤ 20) → ∃ s, s.size ≤ 20 ∧ spec_l1Pick.f c i h l = some (s, j, h') := by
    intro l hl hx
    refine ⟨rdOf ByteArray.empty l r, hx _ (by unfold rdOf; exact mem_at hr0 (by omega)), ?_⟩
    unfold spec_l1Pick.f
    rw [show ((l.length : Nat) : Int) = 15 by omega, e]
    simp only [Option.bind_some]
    rw [if_pos hr0, if_pos hr2]
  obtain ⟨s, hs, es⟩ := key [(⟨#[98, 97, 110, 107]⟩ : ByteArray), (⟨#[99, 97, 115, 104]⟩ : ByteArray), (⟨#[115, 97, 108, 101, 115]⟩ : ByteArray), (⟨#[115, 116, 111, 99, 107]⟩ : ByteArray), (⟨#[97]⟩ : ByteArray), (⟨#[98]⟩ : ByteArray), (⟨#[99, 45, 49]⟩ : ByteArray), (⟨#[100, 117, 101, 115]⟩ : ByteArray), (⟨#[116, 97, 120, 46, 100, 117, 101]⟩ : ByteArray), (⟨#[82, 50]⟩ : ByteArray), (⟨#[103, 111, 111, 100, 115]⟩ : ByteArray), (⟨#[119, 97, 103, 101, 115]⟩ : ByteArray), (⟨#[114, 101, 110, 116]⟩ : ByteArray), (⟨#[120, 95, 121]⟩ : ByteArray), (⟨#[112, 108, 97, 110, 116]⟩ : ByteArray)] rfl (by decide)
  refine (spec_l1DrawName.calls g c i h s j h' w0 w hI hB (by unfold spec_l1DrawName.f; rw [es]; rfl)).mono ?_
  rintro e w' ⟨he, hI', hB', hK⟩
  exact ⟨s, he, hs, ⟨⟨j, h', hI', hj0, hj1⟩, hB', hK⟩⟩
end
end Go.Proofs.Ytphmnkcfjgallaa.Q
namespace Go.Proofs.Ytphmnkcfjgallaa.Q
open Go.RowKit Go.Proofs.YtphmnkcfjgallaaW.PrintWords Go.Proofs.YtphmnkcfjgallaaW.PrintLast Go.Proofs.YtphmnkcfjgallaaW.PrintMore
attribute [local go_sem] max2_int min2_int max_two min_two max_three min_three max_four min_four   -- for this text's walks alone
set_option linter.unusedVariables false
set_option linter.unusedSimpArgs false
end Go.Proofs.Ytphmnkcfjgallaa.Q
namespace Go.Proofs.Ytphmnkcfjgallaa.Q
open Go.RowKit Go.Proofs.YtphmnkcfjgallaaW.PrintWords Go.Proofs.YtphmnkcfjgallaaW.PrintLast Go.Proofs.YtphmnkcfjgallaaW.PrintMore
set_option linter.unusedVariables false
set_option linter.unusedSimpArgs false
end Go.Proofs.Ytphmnkcfjgallaa.Q
namespace Go.Proofs.Ytphmnkcfjgallaa.Q
open Go.RowKit Go.Proofs.YtphmnkcfjgallaaW.PrintWords Go.Proofs.YtphmnkcfjgallaaW.PrintLast Go.Proofs.YtphmnkcfjgallaaW.PrintMore
attribute [local go_sem] max2_int min2_int max_two min_two max_three min_three max_four min_four   -- for this text's walks alone
set_option linter.unusedVariables false
set_option linter.unusedSimpArgs false
theorem ret_ii {a b a' b' : Int} (h : a = a') (h' : b = b') : Ending.returned (Value.tuple #[Value.int .i64 a, Value.int .i64 b]) = Ending.returned (Value.tuple #[Value.int .i64 a', Value.int .i64 b']) := by rw [h, h']
theorem amtV_b (a d c fr tt : Int) (l : List Ent) (h : ∀ e ∈ l, entFine e) : -6000000000000 * (l.length : Int) ≤ amtV a d c fr tt l ∧ amtV a d c fr tt l ≤ 6000000000000 * (l.length : Int) := by
  induction l with
  | nil => simp [amtV]
  | cons x l ih =>
    have h1 := ih (fun y hy => h y (List.mem_cons_of_mem _ hy))
    have h2 := h x List.mem_cons_self
    have h3 := amtL_b a d c x.f3 h2.2
    have h4 := h2.1
    simp only [amtV, List.length_cons]
    split <;> (push_cast; omega)
end Go.Proofs.Ytphmnkcfjgallaa.Q
namespace Go.Proofs.Ytphmnkcfjgallaa.Q
open Go.RowKit Go.Proofs.YtphmnkcfjgallaaW.PrintWords Go.Proofs.YtphmnkcfjgallaaW.PrintLast Go.Proofs.YtphmnkcfjgallaaW.PrintMore
set_option linter.unusedVariables false
set_option linter.unusedSimpArgs false
theorem wr1 {a : Int} (h0 : 0 ≤ a) (h1 : a ≤ 4611686018427387904) : wrap64 (a + 1) = a + 1 := by unfold wrap64; omega
theorem l5Entries_l0 (l : List Ent) (hl : l.length ≤ 1048576) (hs : ∀ x ∈ l, x.f3.length ≤ 1048576) : ∀ (n k : Nat) (i : Int), 0 ≤ i → i + n = (l.length : Int) → n < k → spec_l5Entries.l0 k l (l.take i.toNat) i = some l := by
  intro n
  induction n with
  | zero =>
    intro k i h0 hi hk
    obtain ⟨k, rfl⟩ : ∃ j, k = j + 1 := ⟨k - 1, by omega⟩
    simp only [spec_l5Entries.l0]
    rw [if_neg (by omega), List.take_of_length_le (by omega)]
  | succ n ih =>
    intro k i h0 hi hk
    obtain ⟨k, rfl⟩ : ∃ j, k = j + 1 := ⟨k - 1, by omega⟩
    have hx : (rd_T34 l i).f3.length ≤ 1048576 := all_at (z := z34) (p := fun x => x.f3.length ≤ 1048576) h0 (by omega) hs
    have hlt : (l.take i.toNat).length = i.toNat := by rw [List.length_take]; omega
    have hst : l.take i.toNat ++ [rd_T34 l i] = l.take (i + 1).toNat := by
      rw [show (i + 1).toNat = i.toNat + 1 by omega, List.take_add_one, List.getElem?_eq_getElem (by omega)]
      unfold rd_T34
      rw [List.getD_eq_getElem?_getD, List.getElem?_eq_getElem (by omega)]
      rfl
    simp only [spec_l5Entries.l0, spec_l5Entry.f, Option.bind_some, List.nil_append, List.length_nil, Nat.zero_add]
    rw [if_pos (by omega), if_pos h0, if_pos (by omega)]
    simp only [Option.bind_some]
    rw [if_pos (by rw [hlt]; omega), wr1 h0 (by omega)]
    have := ih k (i + 1) (by omega) (by omega) (by omega)
    rw [← hst] at this
    exact this
end Go.Proofs.Ytphmnkcfjgallaa.Q
