/- Parts of the proof: what functions of the program and of the reference answer.
   No condition. -/
import Derived.Test.YtphmnkcfjgallaaZReverse1
import Derived.Test.YtphmnkcfjgallaaZReverse14
import Derived.Test.YtphmnkcfjgallaaZReverse4
import Derived.Test.YtphmnkcfjgallaaZReverse19
import Derived.Test.YtphmnkcfjgallaaZReverse18
import Derived.Test.YtphmnkcfjgallaaZReverse2
import Derived.Test.YtphmnkcfjgallaaZReverse7
import Derived.Test.YtphmnkcfjgallaaZReverse16
import Derived.Test.YtphmnkcfjgallaaZReverse9
import Derived.Test.YtphmnkcfjgallaaZReverse20
import Derived.Test.YtphmnkcfjgallaaZReverse6
namespace Go.Proofs.Ytphmnkcfjgallaa.Q
open Go.RowKit Go.Proofs.YtphmnkcfjgallaaW.PrintWords Go.Proofs.YtphmnkcfjgallaaW.PrintLast Go.Proofs.YtphmnkcfjgallaaW.PrintMore
set_option linter.unusedVariables false
set_option linter.unusedSimpArgs false
def negL (x : Lin) : Lin := ⟨x.f0, x.f1, x.f2, -x.f3, -x.f4⟩
def revT (a : Int) : ByteArray := (⟨#[114, 101, 118, 101, 114, 115, 101, 32]⟩ : ByteArray) ++ decT (a + 1).toNat
open Classical in
noncomputable def revR (m0 : List Acc) (d c : Int) (m1 : List Ent) (h at_ day : Int) : Int × Int × ByteArray × List Lin × Bool :=
  if ledgerB m0 d c m1 h = true ∧ (0 ≤ at_ ∧ at_ < (m1.length : Int)) ∧ (0 ≤ day ∧ day ≤ 40000) then (day, at_ + 1, revT at_, (rd_T34 m1 at_).f3.map negL, true) else (0, 0, ⟨#[]⟩, [], false)
theorem wrneg {a : Int} (h0 : -4611686018427387904 ≤ a) (h1 : a ≤ 4611686018427387904) : wrap64 (-a) = -a := by unfold wrap64; omega
theorem neg_step (l : List Lin) (i : Int) (h0 : 0 ≤ i) (h1 : i < (l.length : Int)) (hf : ∀ x ∈ l, lineFine x) (x : List Lin) (hx : x = (l.take i.toNat).map negL ++ l.drop i.toNat) :
    i < (x.length : Int) ∧ ((x.set i.toNat (⟨(rd_T112 x i).f0, (rd_T112 x i).f1, (rd_T112 x i).f2, wrap64 (-((rd_T112 x i).f3)), (rd_T112 x i).f4⟩ : S112)).set i.toNat (⟨(rd_T112 (x.set i.toNat (⟨(rd_T112 x i).f0, (rd_T112 x i).f1, (rd_T112 x i).f2, wrap64 (-((rd_T112 x i).f3)), (rd_T112 x i).f4⟩ : S112)) i).f0, (rd_T112 (x.set i.toNat (⟨(rd_T112 x i).f0, (rd_T112 x i).f1, (rd_T112 x i).f2, wrap64 (-((rd_T112 x i).f3)), (rd_T112 x i).f4⟩ : S112)) i).f1, (rd_T112 (x.set i.toNat (⟨(rd_T112 x i).f0, (rd_T112 x i).f1, (rd_T112 x i).f2, wrap64 (-((rd_T112 x i).f3)), (rd_T112 x i).f4⟩ : S112)) i).f2, (rd_T112 (x.set i.toNat (⟨(rd_T112 x i).f0, (rd_T112 x i).f1, (rd_T112 x i).f2, wrap64 (-((rd_T112 x i).f3)), (rd_T112 x i).f4⟩ : S112)) i).f3, wrap64 (-((rd_T112 (x.set i.toNat (⟨(rd_T112 x i).f0, (rd_T112 x i).f1, (rd_T112 x i).f2, wrap64 (-((rd_T112 x i).f3)), (rd_T112 x i).f4⟩ : S112)) i).f4))⟩ : S112)) = (l.take (i + 1).toNat).map negL ++ l.drop (i + 1).toNat := by
  have hlen : x.length = l.length := by rw [hx, List.length_append, List.length_map, List.length_take, List.length_drop]; omega
  have hil : i < (x.length : Int) := by omega
  refine ⟨hil, ?_⟩
  obtain ⟨n, rfl⟩ : ∃ n : Nat, i = n := ⟨i.toNat, by omega⟩
  have hn : n < l.length := by omega
  have hmem : l[n] ∈ l := List.getElem_mem hn
  have hfn := hf _ hmem
  unfold lineFine at hfn
  have hr : rd_T112 x (n : Int) = l[n] := by
    unfold rd_T112
    rw [hx, List.getD_eq_getElem?_getD, List.getElem?_append_right (by rw [List.length_map, List.length_take]; simp only [Int.toNat_natCast]; omega), List.length_map, List.length_take, List.getElem?_drop]
    simp only [Int.toNat_natCast]
    rw [Nat.min_eq_left (by omega), show n + (n - n) = n by omega, List.getElem?_eq_getElem hn]
    rfl
  rw [rdset112 hil h0, hr]
  rw [wrneg (a := l[n].f3) (by omega) (by omega)]
  dsimp only
  rw [wrneg (a := l[n].f4) (by omega) (by omega), List.set_set, hx]
  simp only [Int.toNat_natCast]
  rw [show ((n : Int) + 1).toNat = n + 1 by omega, List.take_add_one, List.getElem?_eq_getElem hn, Option.toList_some, List.map_append]
  rw [List.set_append_right _ _ (by rw [List.length_map, List.length_take]; omega), List.length_map, List.length_take, Nat.min_eq_left (by omega), show n - n = 0 by omega]
  rw [List.drop_eq_getElem_cons hn, List.set_cons_zero]
  simp [negL]
theorem impl_Reverse_l0 (l : List Lin) (hf : ∀ x ∈ l, lineFine x) (hl : l.length ≤ 1048576) (a b : Int) (s : ByteArray) : ∀ (n k : Nat) (i : Int), 0 ≤ i → i + n = (l.length : Int) → n < k →
    impl_Reverse.l0 k (l.length : Int) i a b s ((l.take i.toNat).map negL ++ l.drop i.toNat) = some (a, b, s, l.map negL, true) := by
  intro n
  induction n with
  | zero =>
    intro k i h0 hi hk
    obtain ⟨k, rfl⟩ : ∃ j, k = j + 1 := ⟨k - 1, by omega⟩
    simp only [impl_Reverse.l0]
    rw [if_neg (by omega), List.take_of_length_le (by omega), List.drop_of_length_le (by omega), List.append_nil]
  | succ n ih =>
    intro k i h0 hi hk
    obtain ⟨k, rfl⟩ : ∃ j, k = j + 1 := ⟨k - 1, by omega⟩
    have hs := neg_step l i h0 (by omega) hf _ rfl
    simp only [impl_Reverse.l0]
    rw [if_pos (by omega), if_pos h0, if_pos hs.1]
    simp only [Option.bind_some]
    rw [hs.2, wr1 h0 (by omega)]
    exact ih k (i + 1) (by omega) (by omega) (by omega)
theorem spec_Reverse_l0 (l : List Lin) (hf : ∀ x ∈ l, lineFine x) (hl : l.length ≤ 1048576) (a b : Int) (s : ByteArray) : ∀ (n k : Nat) (i : Int), 0 ≤ i → i + n = (l.length : Int) → n < k →
    spec_Reverse.l0 k i a b s ((l.take i.toNat).map negL ++ l.drop i.toNat) = some (a, b, s, l.map negL, true) := by
  intro n
  induction n with
  | zero =>
    intro k i h0 hi hk
    obtain ⟨k, rfl⟩ : ∃ j, k = j + 1 := ⟨k - 1, by omega⟩
    simp only [spec_Reverse.l0]
    rw [List.take_of_length_le (by omega), List.drop_of_length_le (by omega), List.append_nil, if_neg (by rw [List.length_map]; omega)]
  | succ n ih =>
    intro k i h0 hi hk
    obtain ⟨k, rfl⟩ : ∃ j, k = j + 1 := ⟨k - 1, by omega⟩
    have hs := neg_step l i h0 (by omega) hf _ rfl
    simp only [spec_Reverse.l0]
    rw [if_pos hs.1, if_pos h0]
    simp only [Option.bind_some]
    rw [hs.2, wr1 h0 (by omega)]
    exact ih k (i + 1) (by omega) (by omega) (by omega)
theorem strOf_dig {x : Int} (h0 : 0 ≤ x) (h1 : x < 10) : strOfNums [(wrap64 (48 + x)) % 256] = dig x.toNat := by
  have h : x = 0 ∨ x = 1 ∨ x = 2 ∨ x = 3 ∨ x = 4 ∨ x = 5 ∨ x = 6 ∨ x = 7 ∨ x = 8 ∨ x = 9 := by omega
  rcases h with rfl | rfl | rfl | rfl | rfl | rfl | rfl | rfl | rfl | rfl <;> (unfold dig strOfNums; apply ByteArray.ext; rw [ByteArray.data_extract]; simp [wrap64]; try rfl)
theorem tmod10 {a : Int} (h0 : 0 ≤ a) : Int.tmod a 10 = a % 10 := Int.tmod_eq_emod_of_nonneg h0
theorem decimal_l0 : ∀ (n : Nat) (k : Nat) (x : Int) (s : ByteArray), 0 ≤ x → x < 10 ^ n → x ≤ 4611686018427387904 → n < k → s.size + n ≤ 1000000 →
    impl_decimal.l0 k x s = some (if x = 0 then s else decT x.toNat ++ s) := by
  intro n
  induction n with
  | zero =>
    intro k x s h0 hx hbig hk hs
    obtain ⟨k, rfl⟩ : ∃ j, k = j + 1 := ⟨k - 1, by omega⟩
    obtain rfl : x = 0 := by omega
    simp only [impl_decimal.l0]
    rw [if_neg (by omega), if_pos trivial]
  | succ n ih =>
    intro k x s h0 hx hbig hk hs
    obtain ⟨k, rfl⟩ : ∃ j, k = j + 1 := ⟨k - 1, by omega⟩
    by_cases hz : x = 0
    · subst hz
      simp only [impl_decimal.l0]
      rw [if_neg (by omega), if_pos trivial]
    · have hd := dig_size (x % 10).toNat
      have hx' : x / 10 < 10 ^ n := by rw [Int.pow_succ] at hx; omega
      simp only [impl_decimal.l0, Option.bind_some]
      rw [if_pos (by omega), tmod10 h0, strOf_dig (by omega) (by omega), if_pos (by omega), tdiv10 h0 hbig, if_neg hz]
      rw [ih k (x / 10) _ (by omega) hx' (by omega) (by omega) (by rw [ByteArray.size_append]; omega)]
      by_cases hq : x / 10 = 0
      · rw [if_pos hq, decT_small (by omega), show (x % 10).toNat = x.toNat by omega]
      · rw [if_neg hq, decT_more (n := x.toNat) (by omega), show (x / 10).toNat = x.toNat / 10 by omega, show (x % 10).toNat = x.toNat % 10 by omega, ByteArray.append_assoc]
theorem impl_decimal_is {a : Int} (h0 : 0 ≤ a) (h1 : a ≤ 1000000000000000) {k : Nat} (hk : 20 < k) : impl_decimal.f k a = some (decT a.toNat) := by
  obtain ⟨k, rfl⟩ : ∃ j, k = j + 1 := ⟨k - 1, by omega⟩
  have hd := dig_size (a % 10).toNat
  simp only [impl_decimal.f]
  rw [if_neg (by omega), tdiv10 h0 (by omega), tmod10 h0, strOf_dig (by omega) (by omega)]
  rw [decimal_l0 16 k (a / 10) _ (by omega) (by omega) (by omega) (by omega) (by omega)]
  by_cases hq : a / 10 = 0
  · rw [if_pos hq, decT_small (by omega), show (a % 10).toNat = a.toNat by omega]
  · rw [if_neg hq, decT_more (n := a.toNat) (by omega), show (a / 10).toNat = a.toNat / 10 by omega, show (a % 10).toNat = a.toNat % 10 by omega]
theorem rev_fine {m0 : List Acc} {d c : Int} {m1 : List Ent} {h : Int} (q : ledgerB m0 d c m1 h = true) {i : Int} (h0 : 0 ≤ i) (h1 : i < (m1.length : Int)) : m1.length ≤ 1000 ∧ (rd_T34 m1 i).f3.length ≤ 60 ∧ ∀ x ∈ (rd_T34 m1 i).f3, lineFine x := by
  obtain ⟨hl, _, hf, _⟩ := ledger_fine q
  have hm : rd_T34 m1 i ∈ m1 := mem_at (z := z34) h0 h1
  exact ⟨hl, (hf _ hm).1, (hf _ hm).2⟩
theorem impl_Reverse_is (m0 : List Acc) (d c : Int) (m1 : List Ent) (h at_ day : Int) (h1 : ∀ x ∈ m0, x.f0.size ≤ maxLen) (h2 : ∀ e ∈ m1, e.f2.size ≤ maxLen) (k : Nat) (hk : 200 < k) : impl_Reverse.f k m0 d c m1 h at_ day = some (revR m0 d c m1 h at_ day) := by
  obtain ⟨k, rfl⟩ : ∃ j, k = j + 1 := ⟨k - 1, by omega⟩
  unfold impl_Reverse.f impl_LedgerOk.f impl_isDay.f
  rw [if_pos ⟨h1, h2⟩]
  simp only [Option.bind_some, impl_Reverse.j0]
  unfold revR
  by_cases q1 : ledgerB m0 d c m1 h = true
  · rw [if_pos q1]
    by_cases q2 : at_ < 0
    · rw [if_pos q2, if_pos trivial, if_neg (by omega)]
    · rw [if_neg q2]
      by_cases q3 : at_ ≥ (m1.length : Int)
      · rw [if_pos q3, if_pos trivial, if_neg (by omega)]
      · rw [if_neg q3]
        by_cases q4 : 0 ≤ day ∧ day ≤ 40000
        · rw [inB_of q4]
          obtain ⟨f1, f2, f3⟩ := rev_fine q1 (i := at_) (by omega) (by omega)
          have hd := decT_size (at_ + 1).toNat
          have e0 : impl_copyEntry.f (rd_T34 m1 at_).f0 (rd_T34 m1 at_).f1 (rd_T34 m1 at_).f2 (rd_T34 m1 at_).f3 = some ((rd_T34 m1 at_).f0, (rd_T34 m1 at_).f1, (rd_T34 m1 at_).f2, (rd_T34 m1 at_).f3) := if_pos (by omega)
          have e1 := impl_Reverse_l0 (rd_T34 m1 at_).f3 f3 (by omega) day (at_ + 1) (revT at_) (rd_T34 m1 at_).f3.length k 0 (by omega) (by omega) (by omega)
          rw [if_neg (by simp), if_pos (by omega), if_pos (by omega), e0]
          simp only [Option.bind_some]
          rw [wr1 (by omega) (by omega), impl_decimal_is (by omega) (by omega) (by omega)]
          simp only [Option.bind_some]
          rw [if_pos (by omega), if_pos ⟨q1, ⟨by omega, by omega⟩, q4⟩]
          exact e1
        · rw [inB_not q4]
          rw [if_pos (by simp), if_neg (fun q => q4 q.2.2)]
  · rw [if_neg q1, if_pos trivial, if_neg (fun q => q1 q.1)]
theorem spec_Reverse_is (m0 : List Acc) (d c : Int) (m1 : List Ent) (h at_ day : Int) (h1 : ∀ x ∈ m0, x.f0.size ≤ maxLen) (h2 : ∀ e ∈ m1, e.f2.size ≤ maxLen) (hl : m1.length ≤ 1048576) (k : Nat) (hk : 200 < k) : spec_Reverse.f k m0 d c m1 h at_ day = some (revR m0 d c m1 h at_ day) := by
  obtain ⟨k, rfl⟩ : ∃ j, k = j + 1 := ⟨k - 1, by omega⟩
  unfold spec_Reverse.f spec_LedgerOk.f spec_l2Day.f spec_l1In.f
  rw [if_pos ⟨h1, h2⟩]
  simp only [Option.bind_some, spec_Reverse.j0]
  unfold revR
  by_cases q1 : ledgerB m0 d c m1 h = true
  · rw [if_pos q1, wrin (by omega) (by omega)]
    by_cases q2 : 0 ≤ at_ ∧ at_ ≤ (m1.length : Int) - 1
    · rw [inB_of q2, if_pos rfl]
      by_cases q4 : 0 ≤ day ∧ day ≤ 40000
      · rw [inB_of q4]
        obtain ⟨f1, f2, f3⟩ := rev_fine q1 (i := at_) (by omega) (by omega)
        have hd := decT_size (at_ + 1).toNat
        have e0 : spec_l5Entry.f (rd_T34 m1 at_).f0 (rd_T34 m1 at_).f1 (rd_T34 m1 at_).f2 (rd_T34 m1 at_).f3 = some ((rd_T34 m1 at_).f0, (rd_T34 m1 at_).f1, (rd_T34 m1 at_).f2, (rd_T34 m1 at_).f3) := by
          unfold spec_l5Entry.f
          simp only [Option.bind_some, List.nil_append, List.length_nil, Nat.zero_add]
          rw [if_pos (by omega)]
        have e2 : spec_l1Text.f (at_ + 1) = some (decT (at_ + 1).toNat) := if_pos (by omega)
        have e1 := spec_Reverse_l0 (rd_T34 m1 at_).f3 f3 (by omega) day (at_ + 1) (revT at_) (rd_T34 m1 at_).f3.length k 0 (by omega) (by omega) (by omega)
        rw [if_neg (by simp), if_pos (by omega), if_pos (by omega), e0]
        simp only [Option.bind_some]
        rw [wr1 (by omega) (by omega), e2]
        simp only [Option.bind_some]
        rw [if_pos (by omega), if_pos ⟨q1, ⟨by omega, by omega⟩, q4⟩]
        exact e1
      · rw [inB_not q4]
        rw [if_pos (by simp), if_neg (fun q => q4 q.2.2)]
    · rw [inB_not q2, if_neg (by simp), if_pos trivial, if_neg (by omega)]
  · rw [if_neg q1, if_pos trivial, if_neg (fun q => q1 q.1)]
theorem revR_len {m0 : List Acc} {d c : Int} {m1 : List Ent} {h at_ day : Int} {a b : Int} {s : ByteArray} {l : List Lin} {t : Bool} (q : revR m0 d c m1 h at_ day = (a, b, s, l, t)) : l.length ≤ 1048576 := by
  unfold revR at q
  split at q
  · rename_i hc
    obtain ⟨f1, f2, f3⟩ := rev_fine hc.1 hc.2.1.1 hc.2.1.2
    simp only [Prod.mk.injEq] at q
    rw [← q.2.2.2.1, List.length_map]
    omega
  · simp only [Prod.mk.injEq] at q
    rw [← q.2.2.2.1]
    simp
end Go.Proofs.Ytphmnkcfjgallaa.Q
