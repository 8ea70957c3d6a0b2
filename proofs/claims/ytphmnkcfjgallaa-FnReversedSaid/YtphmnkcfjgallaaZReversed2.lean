/- Parts of the proof: what functions of the program and of the reference answer.
   No condition. -/
import Derived.Test.YtphmnkcfjgallaaZReversed1
namespace Go.Proofs.Ytphmnkcfjgallaa.Q
open Go.RowKit Go.Proofs.YtphmnkcfjgallaaW.PrintWords Go.Proofs.YtphmnkcfjgallaaW.PrintLast Go.Proofs.YtphmnkcfjgallaaW.PrintMore
attribute [local go_sem] max2_int min2_int max_two min_two max_three min_three max_four min_four   -- for this text's walks alone
set_option linter.unusedVariables false
set_option linter.unusedSimpArgs false
set_option maxHeartbeats 4000000 in
set_option maxRecDepth 100000 in
theorem impl_leafAt.to (A0 : Option Addr) (c0 : Nat) (l0 : List Acc) (a : Int) (w : World) (hr0 : Kd.C k131 w A0 l0.length l0) :
    Calls Try.prog 101 #[.slice A0 l0.length c0, .int .i64 a] w fun e w' => e = .returned (.bool (leafB l0 a)) ∧ w' = w := by
  have hl := hr0.2.1
  have H0 := Aside0.mk hr0
  clear hr0
  by_cases h0 : 0 ≤ a
  · by_cases h1 : a < (l0.length : Int)
    · by_cases h2 : a + 1 = (l0.length : Int)
      · have hb : (a + 1 == (l0.length : Int)) = true := beq_iff_eq.2 h2
        have HQ := Aside0.mk (leafB_of (show leafP l0 a from ⟨h0, h1, Or.inl h2⟩))
        clear h2
        go_enter Try.func101, Try.ntmps101
        go_wp2_with fail
        go_ret
        exact ⟨ret_bool HQ.out.symm, rfl⟩
      · have hb : (a + 1 == (l0.length : Int)) = false := beq_eq_false_iff_ne.2 h2
        have hn0 : 0 ≤ a + 1 := by omega
        have hn1 : a + 1 < (l0.length : Int) := by omega
        obtain ⟨ad, e0, x0, x1, x2⟩ := at_T131 H0.out (a + 1) hn0 hn1
        cases e0
        by_cases h3 : (rd_T131 l0 (a + 1)).f1 = a
        · have hb3 : ((rd_T131 l0 (a + 1)).f1 != a) = false := by rw [h3]; exact bne_self_eq_false' _
          have HQ := Aside0.mk (leafB_not (show ¬ leafP l0 a from fun q => by rcases q.2.2 with q | q; exact h2 q; exact q h3))
          clear h2 h3
          go_enter Try.func101, Try.ntmps101
          go_wp2_with fail
          go_ret
          exact ⟨ret_bool HQ.out.symm, rfl⟩
        · have hb3 : ((rd_T131 l0 (a + 1)).f1 != a) = true := bne_iff_ne.2 h3
          have HQ := Aside0.mk (leafB_of (show leafP l0 a from ⟨h0, h1, Or.inr h3⟩))
          clear h2 h3
          go_enter Try.func101, Try.ntmps101
          go_wp2_with fail
          go_ret
          exact ⟨ret_bool HQ.out.symm, rfl⟩
    · have HQ := Aside0.mk (leafB_not (show ¬ leafP l0 a from fun q => h1 q.2.1))
      go_enter Try.func101, Try.ntmps101
      go_wp2_with fail
      go_ret
      exact ⟨ret_bool HQ.out.symm, rfl⟩
  · have HQ := Aside0.mk (leafB_not (show ¬ leafP l0 a from fun q => h0 q.1))
    go_enter Try.func101, Try.ntmps101
    go_wp2_with fail
    go_ret
    exact ⟨ret_bool HQ.out.symm, rfl⟩
end Go.Proofs.Ytphmnkcfjgallaa.Q
namespace Go.Proofs.Ytphmnkcfjgallaa.Q
open Go.RowKit Go.Proofs.YtphmnkcfjgallaaW.PrintWords Go.Proofs.YtphmnkcfjgallaaW.PrintLast Go.Proofs.YtphmnkcfjgallaaW.PrintMore
attribute [local go_sem] max2_int min2_int max_two min_two max_three min_three max_four min_four   -- for this text's walks alone
set_option linter.unusedVariables false
set_option linter.unusedSimpArgs false
theorem deep_step {chart : List Acc} {a p : Int} (h : ∀ j : Int, 0 ≤ j → j ≤ a → par chart j < j) (h0 : 0 ≤ p) (h1 : p ≤ a) (hp : 0 ≤ par chart p) : deepAt chart p = deepAt chart (par chart p) + 1 := by
  have hlt := h p h0 h1
  show anc chart (p.toNat + 1) p = _
  unfold anc
  rw [if_pos hp]
  unfold deepAt
  rw [anc_more chart (a + 1) (fun j j0 j1 => h j j0 (by omega)) p.toNat ((par chart p).toNat + 1) (par chart p) hp (by omega) (by omega) (by omega)]
set_option maxHeartbeats 4000000 in
set_option maxRecDepth 100000 in
theorem spec_l4Deep.to (A0 : Option Addr) (c0 : Nat) (l0 : List Acc) (a : Int) (w : World) (hr0 : Kd.C k131 w A0 l0.length l0) (h0 : 0 ≤ a) (ha : a < (l0.length : Int)) (hn : l0.length ≤ 120) (hrows : ∀ j : Int, 0 ≤ j → j ≤ a → par l0 j < j) :
    Calls Try.prog 155 #[.slice A0 l0.length c0, .int .i64 a] w fun e w' => e = .returned (.int .i64 (deepAt l0 a)) ∧ w' = w := by
  have H0 := Aside0.mk hr0
  have HR := Aside0.mk hrows
  clear hr0 hrows
  go_enter Try.func155, Try.ntmps155
  go_wp2_with fail
  go_loop [1, 5] (fun v u => ∃ p n : Int, 0 ≤ p ∧ p ≤ a ∧ v = .int .i64 p ∧ 0 ≤ n ∧ n + p ≤ a ∧ u = .int .i64 n ∧ Aside0 (n + deepAt l0 p = deepAt l0 a)) (fun v _ => (intOf v).toNat)
  case atStart => exact ⟨a, 0, h0, by omega, rfl, by omega, by omega, rfl, ⟨by omega⟩⟩
  case round =>
    obtain ⟨p, n, hp0, hp1, rfl, hn0, hn1, rfl, HD⟩ := hrel
    have hlt : p < (l0.length : Int) := by omega
    obtain ⟨ad, e0, x0, x1, x2⟩ := at_T131 H0.out p hp0 hlt
    cases e0
    by_cases hp : 0 ≤ (rd_T131 l0 p).f1
    · have hs := Aside0.mk (deep_step HR.out hp0 hp1 hp)
      have hlo := HR.out p hp0 hp1
      have HLO := Aside0.mk hlo
      have hlo' : (rd_T131 l0 p).f1 < p := hlo
      clear hlo
      go_wp2_with fail
      go_round
      case rel => exact ⟨(rd_T131 l0 p).f1, n + 1, hp, by omega, rfl, by omega, by omega, rfl, ⟨by have h1 := HD.out; have h2 := hs.out; show n + 1 + deepAt l0 (par l0 p) = _; omega⟩⟩
      case measure => show (par l0 p).toNat < p.toNat; have := HLO.out; have h9 : 0 ≤ par l0 p := hp; omega
    · have hz : deepAt l0 p = 0 := by
        unfold deepAt anc
        exact if_neg hp
      have HZ := Aside0.mk hz
      clear hz
      have hp' : (rd_T131 l0 p).f1 < 0 := by omega
      go_wp2_with fail
      go_ret
      exact ⟨ret_i (by have h1 := HD.out; have h2 := HZ.out; omega), rfl⟩
end Go.Proofs.Ytphmnkcfjgallaa.Q
namespace Go.Proofs.Ytphmnkcfjgallaa.Q
open Go.RowKit Go.Proofs.YtphmnkcfjgallaaW.PrintWords Go.Proofs.YtphmnkcfjgallaaW.PrintLast Go.Proofs.YtphmnkcfjgallaaW.PrintMore
attribute [local go_sem] max2_int min2_int max_two min_two max_three min_three max_four min_four   -- for this text's walks alone
set_option linter.unusedVariables false
set_option linter.unusedSimpArgs false
noncomputable def spec_l1In.f (a0 a1 a2 : Int) : Option Bool := some (inB a0 a1 a2)
set_option maxRecDepth 100000 in
theorem spec_l1In.to (a b c : Int) (w : World) : Calls Try.prog 79 #[.int .i64 a, .int .i64 b, .int .i64 c] w fun e w' => e = .returned (.bool (inB a b c)) ∧ w' = w := by
  go_enter Try.func79, Try.ntmps79
  go_wp2
  all_goals
    go_ret
    refine ⟨ret_bool ?_, rfl⟩
    unfold inB
    rw [Bool.eq_iff_iff]
    simp
    try omega
theorem spec_l1In.calls (a0 a1 a2 : Int) (r : Bool) (w : World) (h : spec_l1In.f a0 a1 a2 = some r) :
    Calls Try.prog 79 #[.int .i64 a0, .int .i64 a1, .int .i64 a2] w fun e w' => e = .returned (.bool r) ∧ Drawn0 w w' := by
  obtain rfl := Option.some.inj h
  exact (spec_l1In.to a0 a1 a2 w).mono fun e w' ⟨he, hw⟩ => ⟨he, hw ▸ Drawn0.refl _⟩
end Go.Proofs.Ytphmnkcfjgallaa.Q
namespace Go.Proofs.Ytphmnkcfjgallaa.Q
open Go.RowKit Go.Proofs.YtphmnkcfjgallaaW.PrintWords Go.Proofs.YtphmnkcfjgallaaW.PrintLast Go.Proofs.YtphmnkcfjgallaaW.PrintMore
attribute [local go_sem] max2_int min2_int max_two min_two max_three min_three max_four min_four   -- for this text's walks alone
set_option linter.unusedVariables false
set_option linter.unusedSimpArgs false
noncomputable def laws_big.f (l0 : List Int) : Option (Bool) := some (decide ((l0.length : Int) > 1048576))
set_option maxHeartbeats 8000000 in
set_option maxRecDepth 100000 in
theorem laws_big.calls (A0 : Option Addr) (c0 : Nat) (l0 : List Int) (r : Bool) (w : World) (hr0 : Kd.C (Kd.int .u8) w A0 l0.length l0) (hc0 : l0.length ≤ c0) (h : laws_big.f l0 = some r) :
    Calls Try.prog 14 #[.slice A0 l0.length c0] w fun e w' => e = .returned (.bool r) ∧ Drawn0 w w' := by
  have HR0 := Aside0.mk hr0
  have HC0 := Aside0.mk hc0
  clear hr0 hc0
  have H : (some (decide ((l0.length : Int) > 1048576))) = some r := h
  clear h
  obtain rfl := Option.some.inj H
  go_enter Try.func14, Try.ntmps14
  go_wp2
  go_ret
  exact ⟨by first | rfl | (simp; done) | (simp [*]; done), by repeat (first | exact Drawn0.refl _ | apply Drawn0.step)⟩
end Go.Proofs.Ytphmnkcfjgallaa.Q
namespace Go.Proofs.Ytphmnkcfjgallaa.Q
open Go.RowKit Go.Proofs.YtphmnkcfjgallaaW.PrintWords Go.Proofs.YtphmnkcfjgallaaW.PrintLast Go.Proofs.YtphmnkcfjgallaaW.PrintMore
attribute [local go_sem] max2_int min2_int max_two min_two max_three min_three max_four min_four   -- for this text's walks alone
set_option linter.unusedVariables false
set_option linter.unusedSimpArgs false
def dig (n : Nat) : ByteArray := (⟨#[48, 49, 50, 51, 52, 53, 54, 55, 56, 57]⟩ : ByteArray).extract n (n + 1)
def decT (n : Nat) : ByteArray := if h : n < 10 then dig n else decT (n / 10) ++ dig (n % 10)
termination_by n
decreasing_by omega
theorem decT_small {n : Nat} (h : n < 10) : decT n = dig n := by rw [decT, dif_pos h]
theorem decT_more {n : Nat} (h : ¬ n < 10) : decT n = decT (n / 10) ++ dig (n % 10) := by rw [decT, dif_neg h]
theorem dig_size (n : Nat) : (dig n).size ≤ 1 := by
  unfold dig
  rw [ByteArray.size_extract]
  omega
theorem decT_size : ∀ n : Nat, (decT n).size ≤ n + 1 := by
  intro n
  induction n using Nat.strongRecOn with
  | _ n ih =>
    by_cases h : n < 10
    · rw [decT_small h]; have := dig_size n; omega
    · rw [decT_more h, ByteArray.size_append]
      have := ih (n / 10) (by omega)
      have := dig_size (n % 10)
      omega
theorem dig_at {a : Int} (h0 : 0 ≤ a) : (⟨#[48, 49, 50, 51, 52, 53, 54, 55, 56, 57]⟩ : ByteArray).extract a.toNat (a + 1).toNat = dig a.toNat := by
  unfold dig
  rw [show (a + 1).toNat = a.toNat + 1 by omega]
set_option maxHeartbeats 1000000 in
set_option maxRecDepth 100000 in
theorem spec_l1Text.to (n : Nat) : ∀ (a : Int) (w : World), 0 ≤ a → a.toNat = n → n ≤ 1000000000000000 → Calls Try.prog 82 #[.int .i64 a] w fun e w' => e = .returned (.string (decT n)) ∧ Drawn0 w w' := by
  induction n using Nat.strongRecOn with
  | _ n ih =>
    intro a w ha han hn
    by_cases h : n < 10
    · have hlt : a < 10 := by omega
      have h0 : decide (0 ≤ a) = true := decide_eq_true ha
      have h1 : decide (a < 10) = true := decide_eq_true hlt
      have h2 : a ≤ a + 1 := by omega
      have h3 : a + 1 ≤ 10 := by omega
      have h4 : decide (a + 1 ≤ 10) = true := decide_eq_true h3
      have h5 : ¬ a < 0 := by omega
      have HD := Aside0.mk (show decT n = (⟨#[48, 49, 50, 51, 52, 53, 54, 55, 56, 57]⟩ : ByteArray).extract a.toNat (a + 1).toNat by rw [dig_at ha, han]; exact decT_small h)
      clear ih h han
      go_enter Try.func82, Try.ntmps82
      go_wp2_with fail
      go_ret
      exact ⟨by rw [HD.out]; rfl, Drawn0.refl _⟩
    · obtain ⟨q, hq⟩ : ∃ q : Int, q = a / 10 := ⟨_, rfl⟩
      obtain ⟨r, hr⟩ : ∃ r : Int, r = a % 10 := ⟨_, rfl⟩
      have HI := Aside0.mk (fun w => ih q.toNat (by omega) q w (by omega) rfl (by omega))
      have hs := decT_size q.toNat
      have hs2 := dig_size r.toNat
      have e1 : IntKind.i64.wrap (a.tdiv 10) = q := by rw [IntKind.wrap_i64, Int.tdiv_eq_ediv_of_nonneg ha]; omega
      have e2 : a.tmod 10 = r := by rw [Int.tmod_eq_emod_of_nonneg ha]; omega
      have r0 : 0 ≤ r := by omega
      have r1 : r ≤ r + 1 := by omega
      have r2 : r + 1 ≤ 10 := by omega
      have e3 : IntKind.i64.wrap (r + 1) = r + 1 := by rw [IntKind.wrap_i64]; omega
      have HD := Aside0.mk (show decT n = decT q.toNat ++ (⟨#[48, 49, 50, 51, 52, 53, 54, 55, 56, 57]⟩ : ByteArray).extract r.toNat (r + 1).toNat by
        rw [dig_at r0, decT_more h, show q.toNat = n / 10 by omega, show r.toNat = n % 10 by omega])
      have h1 : decide (a < 10) = false := decide_eq_false (by omega)
      have h5 : ¬ a < 0 := by omega
      have hsz : (9223372036854775807 < (decT q.toNat).size + ((r + 1).toNat - r.toNat)) = False := eq_false (by omega)
      generalize decT q.toNat = s at *
      clear ih hq hr hs hs2 h han
      go_enter Try.func82, Try.ntmps82
      go_wp2_with fail
      go_quiet ((go_at_call 82; exact Calls.quiet_of ((HI.out _).mono (fun e w' hh => ⟨hh.1, hh.2.out⟩))))
      go_wp2_with fail
      go_ret
      exact ⟨by rw [HD.out]; rfl, ⟨⟨nq, rfl⟩⟩⟩
noncomputable def spec_l1Text.f (a0 : Int) : Option ByteArray := if 0 ≤ a0 ∧ a0 ≤ 1000000000000000 then some (decT a0.toNat) else none
theorem spec_l1Text.calls (a0 : Int) (r : ByteArray) (w : World) (h : spec_l1Text.f a0 = some r) : Calls Try.prog 82 #[.int .i64 a0] w fun e w' => e = .returned (.string r) ∧ Drawn0 w w' := by
  unfold spec_l1Text.f at h
  split at h
  · rename_i hc
    simp only [Option.some.injEq] at h
    subst h
    exact spec_l1Text.to a0.toNat a0 w hc.1 rfl (by omega)
  · cases h
end Go.Proofs.Ytphmnkcfjgallaa.Q
