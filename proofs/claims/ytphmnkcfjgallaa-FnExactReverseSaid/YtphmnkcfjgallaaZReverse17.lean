/- Parts of the proof: what functions of the program and of the reference answer.
   No condition. -/
import Derived.Test.YtphmnkcfjgallaaZReverse1
import Derived.Test.YtphmnkcfjgallaaZReverse12
import Derived.Test.YtphmnkcfjgallaaZReverse8
import Derived.Test.YtphmnkcfjgallaaZReverse4
import Derived.Test.YtphmnkcfjgallaaZReverse16
import Derived.Test.YtphmnkcfjgallaaZReverse10
import Derived.Test.YtphmnkcfjgallaaZReverse11
import Derived.Test.YtphmnkcfjgallaaZReverse15
import Derived.Test.YtphmnkcfjgallaaZReverse7
import Derived.Test.YtphmnkcfjgallaaZReverse2
import Derived.Test.YtphmnkcfjgallaaZReverse9
import Derived.Test.YtphmnkcfjgallaaZReverse6
namespace Go.Proofs.Ytphmnkcfjgallaa.Q
open Go.RowKit Go.Proofs.YtphmnkcfjgallaaW.PrintWords Go.Proofs.YtphmnkcfjgallaaW.PrintLast Go.Proofs.YtphmnkcfjgallaaW.PrintMore
set_option linter.unusedVariables false
set_option linter.unusedSimpArgs false
theorem fill_loop {α β : Type} (F : Nat → List α → List β → Int → Option (List β)) (cv : α → β) (z : α) (l : List α) (D : Nat)
    (hstep : ∀ k x i, D ≤ k → 0 ≤ i → i < (l.length : Int) → x.length = l.length → F (k + 1) l x i = F k l (x.set i.toNat (cv (l.getD i.toNat z))) (i + 1))
    (hend : ∀ k x i, (l.length : Int) ≤ i → F (k + 1) l x i = some x) :
    ∀ (n k : Nat) (x : List β) (i : Nat), i + n = l.length → n + D < k → x.length = l.length → x.take i = (l.map cv).take i → F k l x i = some (l.map cv)
  | 0, k, x, i, hi, hk, hx, ht => by
    obtain ⟨m, rfl⟩ : ∃ m, k = m + 1 := ⟨k - 1, by omega⟩
    rw [hend m x i (by omega)]
    rw [List.take_of_length_le (by omega), List.take_of_length_le (by simp; omega)] at ht
    rw [ht]
  | n + 1, k, x, i, hi, hk, hx, ht => by
    obtain ⟨m, rfl⟩ : ∃ m, k = m + 1 := ⟨k - 1, by omega⟩
    rw [hstep m x i (by omega) (by omega) (by omega) hx]
    refine fill_loop F cv z l D hstep hend n m _ (i + 1) (by omega) (by omega) (by simpa using hx) ?_
    have hxi : i < x.length := by omega
    have hli : i < l.length := by omega
    simp only [Int.toNat_natCast]
    rw [List.take_add_one, List.take_add_one, List.take_set, ht, List.getElem?_set_self (by omega), List.getElem?_map, List.getElem?_eq_getElem hli, List.getD_eq_getElem?_getD, List.getElem?_eq_getElem hli]
    rw [List.set_eq_of_length_le (by simp; omega)]
    simp
def cvAccount (x : S176) : S131 := ⟨x.f0, x.f1, x.f2⟩
def cvLine (x : S188) : S112 := ⟨x.f0, x.f1, x.f2, x.f3, x.f4⟩
def cvEntry (x : S93) : S34 := ⟨x.f0, x.f1, x.f2, x.f3.map cvLine⟩
theorem laws_toAccountS_is (l : List S176) (k : Nat) (hl : l.length ≤ 1048576) (hk : l.length < k) : laws_toAccountS.f k l = some (l.map cvAccount) := by
  unfold laws_toAccountS.f
  rw [if_pos (by omega), if_pos (by omega)]
  exact fill_loop laws_toAccountS.l0 cvAccount z176 l 0 (fun k x i _ h0 h1 hx => by
    simp only [laws_toAccountS.l0]
    rw [if_pos h1, if_pos h0]
    simp only [laws_toAccount.f, Option.bind_some]
    rw [if_pos (by omega), show wrap64 (i + 1) = i + 1 by unfold wrap64; omega]
    rfl) (fun k x i h => by simp only [laws_toAccountS.l0]; rw [if_neg (by omega)]) l.length k _ 0 (by omega) (by omega) (by simp) (by simp)
theorem laws_toLineS_is (l : List S188) (k : Nat) (hl : l.length ≤ 1048576) (hk : l.length < k) : laws_toLineS.f k l = some (l.map cvLine) := by
  unfold laws_toLineS.f
  rw [if_pos (by omega), if_pos (by omega)]
  exact fill_loop laws_toLineS.l0 cvLine z188 l 0 (fun k x i _ h0 h1 hx => by
    simp only [laws_toLineS.l0]
    rw [if_pos h1, if_pos h0]
    simp only [laws_toLine.f, Option.bind_some]
    rw [if_pos (by omega), show wrap64 (i + 1) = i + 1 by unfold wrap64; omega]
    rfl) (fun k x i h => by simp only [laws_toLineS.l0]; rw [if_neg (by omega)]) l.length k _ 0 (by omega) (by omega) (by simp) (by simp)
theorem laws_toEntry_is (x : S93) (k : Nat) (hs : small93 x) (hk : 1048576 < k) : laws_toEntry.f k x.f0 x.f1 x.f2 x.f3 = some ((cvEntry x).f0, (cvEntry x).f1, (cvEntry x).f2, (cvEntry x).f3) := by
  unfold small93 at hs
  unfold laws_toEntry.f
  rw [laws_toLineS_is x.f3 k hs (by omega)]
  rfl
theorem laws_toEntryS_is (l : List S93) (k : Nat) (hl : l.length ≤ 1048576) (hs : ∀ y ∈ l, small93 y) (hk : l.length + 1048577 < k) : laws_toEntryS.f k l = some (l.map cvEntry) := by
  unfold laws_toEntryS.f
  rw [if_pos (by omega), if_pos (by omega)]
  exact fill_loop laws_toEntryS.l0 cvEntry z93 l 1048577 (fun k x i hD h0 h1 hx => by
    simp only [laws_toEntryS.l0]
    rw [if_pos h1, if_pos h0, laws_toEntry_is (rd_T93 l i) k (all_at (z := z93) h0 h1 hs) (by omega)]
    simp only [Option.bind_some]
    rw [if_pos (by omega), show wrap64 (i + 1) = i + 1 by unfold wrap64; omega]
    rfl) (fun k x i h => by simp only [laws_toEntryS.l0]; rw [if_neg (by omega)]) l.length k _ 0 (by omega) (by omega) (by simp) (by simp)
theorem laws_toFrame_is (l : List S176) (d c : Int) (k : Nat) (hl : l.length ≤ 1048576) (hk : 3000000 ≤ k) : laws_toFrame.f k l d c = some (l.map cvAccount, d, c) := by
  unfold laws_toFrame.f
  rw [laws_toAccountS_is l k hl (by omega)]
  rfl
theorem laws_toLedger_is (l : List S93) (h : Int) (k : Nat) (hl : l.length ≤ 1048576 ∧ ∀ y ∈ l, small93 y) (hk : 3000000 ≤ k) : laws_toLedger.f k l h = some (l.map cvEntry, h) := by
  unfold laws_toLedger.f
  rw [laws_toEntryS_is l k hl.1 hl.2 (by omega)]
  rfl
theorem text_cvAccount {l : List S176} (h : ∀ y ∈ l, wf176 y) : ∀ x ∈ l.map cvAccount, x.f0.size ≤ maxLen := by
  intro x hx
  obtain ⟨y, hy, rfl⟩ := List.mem_map.1 hx
  exact (h y hy).1
theorem text_cvEntry {l : List S93} (h : ∀ y ∈ l, wf93 y) : ∀ x ∈ l.map cvEntry, x.f2.size ≤ maxLen := by
  intro x hx
  obtain ⟨y, hy, rfl⟩ := List.mem_map.1 hx
  exact (h y hy).2.2.1
end Go.Proofs.Ytphmnkcfjgallaa.Q
