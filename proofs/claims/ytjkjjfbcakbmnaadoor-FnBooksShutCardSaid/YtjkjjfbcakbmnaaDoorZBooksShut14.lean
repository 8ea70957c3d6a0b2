/- Parts of the proof: what functions of the program and of the reference answer.
   No condition. -/
import Derived.Test.YtjkjjfbcakbmnaaDoorZBooksShut1
import Derived.Test.YtjkjjfbcakbmnaaDoorZBooksShut8
import Derived.Test.YtjkjjfbcakbmnaaDoorZBooksShut3
import Derived.Test.YtjkjjfbcakbmnaaDoorZBooksShut9
namespace Go.Proofs.YtjkjjfbcakbmnaaDoor.Q
open Go.RowKit Go.Proofs.YtjkjjfbcakbmnaaDoorW.PrintWords Go.Proofs.YtjkjjfbcakbmnaaDoorW.PrintLast Go.Proofs.YtjkjjfbcakbmnaaDoorW.PrintMore
set_option linter.unusedVariables false
set_option linter.unusedSimpArgs false
noncomputable def perGo (l : List Per) (day : Int) : Nat → Int → Int
  | 0, _ => -1
  | n + 1, i => if (rd_T66 l i).f0 ≤ day then (if day ≤ (rd_T66 l i).f1 then i else perGo l day n (i + 1)) else perGo l day n (i + 1)
noncomputable def perV (l : List Per) (day : Int) : Int := if (l.length : Int) > 60 then -1 else perGo l day l.length 0
theorem spec_PeriodAt_l0 (l : List Per) (day : Int) (hl : l.length ≤ 60) : ∀ (n k : Nat) (i : Int), 0 ≤ i → i + n = (l.length : Int) → n < k → spec_PeriodAt.l0 k l day i = some (perGo l day n i) := by
  intro n
  induction n with
  | zero =>
    intro k i h0 hi hk
    obtain ⟨k, rfl⟩ : ∃ j, k = j + 1 := ⟨k - 1, by omega⟩
    simp only [spec_PeriodAt.l0, perGo]
    rw [if_neg (by omega)]
  | succ n ih =>
    intro k i h0 hi hk
    obtain ⟨k, rfl⟩ : ∃ j, k = j + 1 := ⟨k - 1, by omega⟩
    simp only [spec_PeriodAt.l0, perGo]
    rw [if_pos (by omega), if_pos h0, wr1 h0 (by omega), ih k (i + 1) (by omega) (by omega) (by omega)]
    split
    · split <;> rfl
    · rfl
theorem impl_PeriodAt_l0 (l : List Per) (day : Int) (hl : l.length ≤ 60) : ∀ (n k : Nat) (i : Int), 0 ≤ i → i + n = (l.length : Int) → n < k → impl_PeriodAt.l0 k day l (l.length : Int) i = some (perGo l day n i) := by
  intro n
  induction n with
  | zero =>
    intro k i h0 hi hk
    obtain ⟨k, rfl⟩ : ∃ j, k = j + 1 := ⟨k - 1, by omega⟩
    simp only [impl_PeriodAt.l0, perGo]
    rw [if_neg (by omega)]
  | succ n ih =>
    intro k i h0 hi hk
    obtain ⟨k, rfl⟩ : ∃ j, k = j + 1 := ⟨k - 1, by omega⟩
    simp only [impl_PeriodAt.l0, perGo]
    rw [if_pos (by omega), if_pos h0, if_pos (by omega), wr1 h0 (by omega), ih k (i + 1) (by omega) (by omega) (by omega)]
    split
    · split <;> rfl
    · rfl
theorem spec_PeriodAt_is (l : List Per) (day : Int) : spec_PeriodAt.f 100 l day = some (perV l day) := by
  unfold spec_PeriodAt.f perV
  split
  · rfl
  · exact spec_PeriodAt_l0 l day (by omega) l.length 100 0 (by omega) (by omega) (by omega)
theorem impl_PeriodAt_is (l : List Per) (day : Int) : impl_PeriodAt.f 100 l day = some (perV l day) := by
  unfold impl_PeriodAt.f perV
  split
  · rfl
  · exact impl_PeriodAt_l0 l day (by omega) l.length 100 0 (by omega) (by omega) (by omega)
theorem perGo_b (l : List Per) (day : Int) : ∀ (n : Nat) (i : Int), 0 ≤ i → i + n = (l.length : Int) → perGo l day n i = -1 ∨ (i ≤ perGo l day n i ∧ perGo l day n i < (l.length : Int) ∧ (rd_T66 l (perGo l day n i)).f0 ≤ day ∧ day ≤ (rd_T66 l (perGo l day n i)).f1) := by
  intro n
  induction n with
  | zero => intro i _ _; exact .inl rfl
  | succ n ih =>
    intro i h0 hi
    have := ih (i + 1) (by omega) (by omega)
    unfold perGo
    split
    · split
      · right; exact ⟨Int.le_refl _, by omega, by assumption, by assumption⟩
      · rcases this with h | ⟨h1, h2, h3⟩
        · exact .inl h
        · exact .inr ⟨by omega, h2, h3⟩
    · rcases this with h | ⟨h1, h2, h3⟩
      · exact .inl h
      · exact .inr ⟨by omega, h2, h3⟩
theorem perV_b (l : List Per) (day : Int) : perV l day = -1 ∨ (0 ≤ perV l day ∧ perV l day < (l.length : Int) ∧ (rd_T66 l (perV l day)).f0 ≤ day ∧ day ≤ (rd_T66 l (perV l day)).f1) := by
  unfold perV
  split
  · exact .inl rfl
  · exact perGo_b l day l.length 0 (by omega) (by omega)
section
variable {w0 w W W1 : World} {g : Nat} {c : List Int}
theorem Drew.refl (hc : Cur w0 w g c) (hb : Below w0.heap.size w0 w) : Drew w0 w w g c := ⟨hc, hb, KeepBut.refl w g none⟩
theorem Drew.size (h : Drew w0 w W g c) : w.heap.size ≤ W.heap.size := h.keep.1
theorem Drew.below (h : Drew w0 w W g c) (hb : Below W.heap.size W W1) : Drew w0 w W1 g c := ⟨h.cur.below hb, below_step h.bel hb, KeepBut.thenK h.keep (KeepBut.of_below hb g none)⟩
theorem Drew.alloc (h : Drew w0 w W g c) (o : Obj) : Drew w0 w (W.alloc o) g c := h.below (below_alloc (Below.refl _ _) o)
theorem Drew.drewN (h : Drew w0 w W g c) (m : Nat) : Drew w0 w (W.drewN m) g c := h.below (pw_below_drewN (Below.refl _ _) m)
theorem Drew.drew (h : Drew w0 w W g c) : Drew w0 w W.drew g c := h.below (below_drew (Below.refl _ _))
theorem Drew.call (h : Drew w0 w W g c) (k : Drew w0 W W1 g c) : Drew w0 w W1 g c := ⟨k.cur, k.bel, KeepBut.thenK h.keep k.keep⟩
theorem Drew.grown (h : Drew w0 w W g c) (hl : w0.heap.size ≤ w.heap.size) {row : Option Nat} (hg : W.grownBy W1 row) (hr : ∀ k, row = some k → w.heap.size ≤ k ∧ k ≠ g) : Drew w0 w W1 g c := by
  refine ⟨h.cur.grown hg (fun e => (hr g e.symm).2 rfl), pw_below_grown h.bel row h.bel.size hg (fun k hk => Nat.le_trans hl (hr k hk).1), ⟨Nat.le_trans h.keep.1 hg.size, fun i hi hne hn => ?_⟩⟩
  refine (hg.block i (Nat.lt_of_lt_of_le hi h.keep.1) (fun e => ?_)).trans (h.keep.2 i hi hne hn)
  have := (hr i e.symm).1
  omega
theorem Drew.set (h : Drew w0 w W g c) (hl : w0.heap.size ≤ w.heap.size) {p : Addr} (hp : w.heap.size ≤ p.block) (hne : p.block ≠ g) (u : Value) : Drew w0 w (W.setCell p u) g c := by
  refine ⟨h.cur.far (fun e => hne e.symm) u, h.bel.setCell (Nat.le_trans hl hp) u, ⟨by simpa using h.keep.1, fun i hi hi2 hn => ?_⟩⟩
  refine (Below.heap_setCell W p u i (by omega)).trans (h.keep.2 i hi hi2 hn)
theorem Drew.blk (h : Drew w0 w W g c) {b : Nat} {o : Obj} (hb : w.heap[b]? = some o) (hne : b ≠ g) : W.heap[b]? = some o := h.keep.blk hb hne (by simp)
theorem Drew.R {α : Type} {d : Kd α} {e base : Nat} {ok : Nat → Prop} {v : Value} {xs : List α} (h : Drew w0 w W g c) (hr : d.R e w base ok v xs) (hok : ∀ k, ok k → k ≠ g) : d.R e W base ok v xs := Kd.R_keep hr h.keep hok
end
theorem blk3 {W : World} {g t : Nat} {z0 z1 z2 : Value} (h : W.heap[g]? = some (.cells #[z0, z1, z2] t (0, 0))) (u0 u1 u2 : Value) : (((W.setCell ⟨g, 0, none⟩ u0).setCell ⟨g, 1, none⟩ u1).setCell ⟨g, 2, none⟩ u2).heap[g]? = some (.cells #[u0, u1, u2] t (0, 0)) := by
  refine blk_put (cs := #[u0, u1, z2]) ?_ 2 _ rfl
  refine blk_put (cs := #[u0, z1, z2]) ?_ 1 _ rfl
  refine blk_put (cs := #[z0, z1, z2]) ?_ 0 _ rfl
  exact h
def goodChart (l : List Acc) : Prop := l.length ≤ 10 ∧ (∀ x ∈ l, x.f0.size ≤ 100) ∧ ∀ j : Int, 0 ≤ j → j < (l.length : Int) → par l j < j
theorem goodChart_nil : goodChart [] := ⟨by simp, fun x hx => by simp at hx, fun j h0 h1 => by simp at h1; omega⟩
theorem goodChart_snoc {l : List Acc} {s : ByteArray} {p k : Int} (h : goodChart l) (hl : l.length < 10) (hs : s.size ≤ 100) (hp : p < (l.length : Int)) : goodChart (l ++ [⟨s, p, k⟩]) := by
  obtain ⟨h1, h2, h3⟩ := h
  refine ⟨by simp; omega, fun x hx => ?_, fun j j0 j1 => ?_⟩
  · rcases List.mem_append.1 hx with hx | hx
    · exact h2 x hx
    · obtain rfl := List.mem_singleton.1 hx
      exact hs
  · unfold par rd_T64
    by_cases q : j < (l.length : Int)
    · rw [List.getD_eq_getElem?_getD, List.getElem?_append_left (by omega), ← List.getD_eq_getElem?_getD]
      exact h3 j j0 q
    · simp only [List.length_append, List.length_singleton] at j1
      rw [List.getD_eq_getElem?_getD, List.getElem?_append_right (by omega), show j.toNat - l.length = 0 by omega]
      show p < j
      omega
theorem goodChart_deep {l : List Acc} (h : goodChart l) {a : Int} (ha : a < (l.length : Int)) : ∀ j : Int, 0 ≤ j → j ≤ a → par l j < j := fun j j0 j1 => h.2.2 j j0 (by omega)
end Go.Proofs.YtjkjjfbcakbmnaaDoor.Q
