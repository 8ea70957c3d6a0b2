/- Parts of the proof: what functions of the program and of the reference answer.
   No condition. -/
import Derived.Test.YtjkjjfbcakbmnaaGreatDoorZRecord1
import Derived.Test.YtjkjjfbcakbmnaaGreatDoorZRecord13
import Derived.Test.YtjkjjfbcakbmnaaGreatDoorZRecord3
import Derived.Test.YtjkjjfbcakbmnaaGreatDoorZRecord6
import Derived.Test.YtjkjjfbcakbmnaaGreatDoorZRecord5
import Derived.Test.YtjkjjfbcakbmnaaGreatDoorZRecord17
import Derived.Test.YtjkjjfbcakbmnaaGreatDoorZRecord7
import Derived.Test.YtjkjjfbcakbmnaaGreatDoorZRecord18
import Derived.Test.YtjkjjfbcakbmnaaGreatDoorZRecord8
import Derived.Test.YtjkjjfbcakbmnaaGreatDoorZRecord2
namespace Go.Proofs.YtjkjjfbcakbmnaaGreatDoor.Q
open Go.RowKit Go.Proofs.YtjkjjfbcakbmnaaGreatDoorW.PrintWords Go.Proofs.YtjkjjfbcakbmnaaGreatDoorW.PrintLast Go.Proofs.YtjkjjfbcakbmnaaGreatDoorW.PrintMore
set_option linter.unusedVariables false
set_option linter.unusedSimpArgs false
def mAll {α : Type} (m : Int → α → α) (nx : Int → α → Int) : Int → List α → List α
  | _, [] => []
  | a, x :: l => m a x :: mAll m nx (nx a x) l
def nAll {α : Type} (nx : Int → α → Int) : Int → List α → Int
  | a, [] => a
  | a, x :: l => nAll nx (nx a x) l
theorem mAll_length {α : Type} (m : Int → α → α) (nx : Int → α → Int) : ∀ (l : List α) (a : Int), (mAll m nx a l).length = l.length
  | [], _ => rfl
  | x :: l, a => by simp only [mAll, List.length_cons, mAll_length m nx l]
theorem nAll_snoc {α : Type} (nx : Int → α → Int) (x : α) : ∀ (l : List α) (a : Int), nAll nx a (l ++ [x]) = nx (nAll nx a l) x
  | [], _ => rfl
  | y :: l, a => nAll_snoc nx x l (nx a y)
theorem mAll_snoc {α : Type} (m : Int → α → α) (nx : Int → α → Int) (x : α) : ∀ (l : List α) (a : Int), mAll m nx a (l ++ [x]) = mAll m nx a l ++ [m (nAll nx a l) x]
  | [], _ => rfl
  | y :: l, a => by simp only [List.cons_append, mAll, nAll, mAll_snoc m nx x l]
theorem nAll_bound {α : Type} {nx : Int → α → Int} {C : Int} : ∀ (l : List α) (a : Int), (∀ x ∈ l, ∀ b, b ≤ nx b x ∧ nx b x ≤ b + C) → a ≤ nAll nx a l ∧ nAll nx a l ≤ a + C * (l.length : Int)
  | [], a, _ => by simp [nAll]
  | x :: l, a, h => by
    have h1 := h x List.mem_cons_self a
    have h2 := nAll_bound l (nx a x) (fun y hy => h y (List.mem_cons_of_mem _ hy))
    have : C * ((x :: l).length : Int) = C + C * (l.length : Int) := by rw [List.length_cons]; push_cast; rw [Int.mul_add]; omega
    simp only [nAll]
    omega
theorem mark_loop {α : Type} (F : Nat → List α → Int → Int → Option (Int × List α)) (m : Int → α → α) (nx : Int → α → Int) (z : α) (D : Nat) (C B : Int) (hC : 0 ≤ C) (ok : α → Prop)
    (hnx : ∀ x, ok x → ∀ b, b ≤ nx b x ∧ nx b x ≤ b + C)
    (hstep : ∀ (k : Nat) (x : List α) (a i : Int), D ≤ k → 0 ≤ i → i < (x.length : Int) → (x.length : Int) ≤ 1048576 → 0 ≤ a → a + C ≤ B → ok (x.getD i.toNat z) → F (k + 1) x a i = F k (x.set i.toNat (m a (x.getD i.toNat z))) (nx a (x.getD i.toNat z)) (i + 1))
    (hend : ∀ (k : Nat) (x : List α) (a i : Int), (x.length : Int) ≤ i → F (k + 1) x a i = some (a, x)) :
    ∀ (rest pre : List α) (k : Nat) (a : Int), rest.length + D < k → (pre ++ rest).length ≤ 1048576 → 0 ≤ a → a + C * (rest.length : Int) ≤ B → (∀ x ∈ rest, ok x) → F k (pre ++ rest) a (pre.length : Int) = some (nAll nx a rest, pre ++ mAll m nx a rest)
  | [], pre, k, a, hk, hl, h0, hB, ho => by
    obtain ⟨k, rfl⟩ : ∃ j, k = j + 1 := ⟨k - 1, by omega⟩
    rw [hend k _ a _ (by simp)]
    rfl
  | x :: rest, pre, k, a, hk, hl, h0, hB, ho => by
    obtain ⟨k, rfl⟩ : ∃ j, k = j + 1 := ⟨k - 1, by omega⟩
    have hx : (pre ++ x :: rest).getD (pre.length : Int).toNat z = x := by simp
    have hox := ho x List.mem_cons_self
    have h1 := hnx x hox a
    have hmul : C * ((x :: rest).length : Int) = C + C * (rest.length : Int) := by rw [List.length_cons]; push_cast; rw [Int.mul_add]; omega
    have hpos : 0 ≤ C * (rest.length : Int) := Int.mul_nonneg hC (by omega)
    simp only [List.length_cons] at hk
    rw [hstep k _ a _ (by omega) (by omega) (by simp; omega) (by omega) h0 (by omega) (by rw [hx]; exact hox), hx]
    have hs : (pre ++ x :: rest).set (pre.length : Int).toNat (m a x) = (pre ++ [m a x]) ++ rest := by simp
    have hp : ((pre.length : Int) + 1) = ((pre ++ [m a x]).length : Int) := by simp
    rw [hs, hp, mark_loop F m nx z D C B hC ok hnx hstep hend rest (pre ++ [m a x]) k (nx a x) (by omega) (by simp at hl ⊢; omega) (by omega) (by omega) (fun y hy => ho y (List.mem_cons_of_mem _ hy))]
    simp [nAll, mAll]
theorem held_loop {α : Type} (F : Nat → List α → Int → Int → Option Int) (m : Int → α → α) (nx : Int → α → Int) (z : α) (D : Nat) (C B : Int) (hC : 0 ≤ C) (ok : α → Prop)
    (hnx : ∀ x, ok x → ∀ b, b ≤ nx b x ∧ nx b x ≤ b + C)
    (hstep : ∀ (k : Nat) (y : List α) (x : α) (a i : Int), D ≤ k → 0 ≤ i → i < (y.length : Int) → (y.length : Int) ≤ 1048576 → 0 ≤ a → a + C ≤ B → ok x → y.getD i.toNat z = m a x → F (k + 1) y a i = F k y (nx a x) (i + 1))
    (hend : ∀ (k : Nat) (x : List α) (a i : Int), (x.length : Int) ≤ i → F (k + 1) x a i = some a) :
    ∀ (rest pre : List α) (k : Nat) (a : Int), rest.length + D < k → (pre ++ rest).length ≤ 1048576 → 0 ≤ a → a + C * (rest.length : Int) ≤ B → (∀ x ∈ rest, ok x) → F k (pre ++ mAll m nx a rest) a (pre.length : Int) = some (nAll nx a rest)
  | [], pre, k, a, hk, hl, h0, hB, ho => by
    obtain ⟨k, rfl⟩ : ∃ j, k = j + 1 := ⟨k - 1, by omega⟩
    rw [hend k _ a _ (by simp [mAll])]
    rfl
  | x :: rest, pre, k, a, hk, hl, h0, hB, ho => by
    obtain ⟨k, rfl⟩ : ∃ j, k = j + 1 := ⟨k - 1, by omega⟩
    have hx : (pre ++ mAll m nx a (x :: rest)).getD (pre.length : Int).toNat z = m a x := by simp [mAll]
    have hox := ho x List.mem_cons_self
    have h1 := hnx x hox a
    have hmul : C * ((x :: rest).length : Int) = C + C * (rest.length : Int) := by rw [List.length_cons]; push_cast; rw [Int.mul_add]; omega
    have hpos : 0 ≤ C * (rest.length : Int) := Int.mul_nonneg hC (by omega)
    simp only [List.length_cons] at hk
    have hlen : (pre ++ mAll m nx a (x :: rest)).length = (pre ++ x :: rest).length := by simp [mAll_length]
    rw [hstep k _ x a _ (by omega) (by omega) (by rw [hlen]; simp; omega) (by rw [hlen]; omega) h0 (by omega) hox hx]
    have hs : pre ++ mAll m nx a (x :: rest) = (pre ++ [m a x]) ++ mAll m nx (nx a x) rest := by simp [mAll]
    have hp : ((pre.length : Int) + 1) = ((pre ++ [m a x]).length : Int) := by simp
    rw [hs, hp, held_loop F m nx z D C B hC ok hnx hstep hend rest (pre ++ [m a x]) k (nx a x) (by omega) (by simp at hl ⊢; omega) (by omega) (by omega) (fun y hy => ho y (List.mem_cons_of_mem _ hy))]
    rfl
theorem tdiv10 {a : Int} (h0 : 0 ≤ a) (h1 : a ≤ 4611686018427387904) : wrap64 (Int.tdiv a 10) = a / 10 := by
  rw [Int.tdiv_eq_ediv_of_nonneg h0]
  unfold wrap64
  omega
theorem markText_l0 : ∀ (n k : Nat) (a : Int) (s : ByteArray), 0 ≤ a → a ≤ 4611686018427387904 → a < 10 ^ n → s.size + n ≤ 1000 → n < k → ∃ t, laws_markText.l0 k a s = some t ∧ t.size ≤ 1001
  | 0, k, a, s, h0, h1, h2, hs, hk => by
    obtain ⟨k, rfl⟩ : ∃ j, k = j + 1 := ⟨k - 1, by omega⟩
    have : a = 0 := by simp at h2; omega
    subst this
    refine ⟨_, by simp only [laws_markText.l0]; rw [if_neg (by omega), if_pos (by omega)], ?_⟩
    rw [ByteArray.size_append]
    show 1 + s.size ≤ _
    omega
  | n + 1, k, a, s, h0, h1, h2, hs, hk => by
    obtain ⟨k, rfl⟩ : ∃ j, k = j + 1 := ⟨k - 1, by omega⟩
    by_cases hp : a > 0
    · simp only [laws_markText.l0]
      rw [if_pos hp]
      simp only [Option.bind_some]
      have h3 : a / 10 < 10 ^ n := Int.ediv_lt_of_lt_mul (by decide) (by rw [← Int.pow_succ]; exact h2)
      have hsz : ∀ x : Int, (strOfNums [x]).size = 1 := fun x => rfl
      rw [if_pos (by rw [hsz]; omega), tdiv10 h0 h1]
      exact markText_l0 n k (a / 10) _ (by omega) (by omega) h3 (by rw [ByteArray.size_append, hsz]; omega) (by omega)
    · have : a = 0 := by omega
      subst this
      refine ⟨_, by simp only [laws_markText.l0]; rw [if_neg (by omega), if_pos (by omega)], ?_⟩
      rw [ByteArray.size_append]
      show 1 + s.size ≤ _
      omega
noncomputable def mText (a : Int) : ByteArray := (laws_markText.f 100 a).getD ⟨#[]⟩
theorem laws_markText_is {a : Int} (h0 : 0 ≤ a) (h1 : a ≤ 4611686018427387904) {k : Nat} (hk : 100 ≤ k) : laws_markText.f k a = some (mText a) := by
  have h : ∃ t, laws_markText.f 100 a = some t := by
    unfold laws_markText.f
    split
    · exact ⟨_, rfl⟩
    · obtain ⟨t, ht, _⟩ := markText_l0 19 100 a ⟨#[]⟩ h0 h1 (by omega) (by decide) (by omega)
      exact ⟨t, ht⟩
  obtain ⟨t, ht⟩ := h
  have hm : mText a = t := by unfold mText; rw [ht]; rfl
  rw [hm]
  exact at_rounds (g := fun k => laws_markText.f k a) (fun k => laws_markText.mono a k) hk ht
def mLine (a : Int) (_ : Lin) : Lin := ⟨a, a + 1, a + 1 + 1, a + 1 + 1 + 1, a + 1 + 1 + 1 + 1⟩
def nLine (a : Int) (_ : Lin) : Int := a + 1 + 1 + 1 + 1 + 1
def mPer (a : Int) (_ : Per) : Per := ⟨a, a + 1⟩
def nPer (a : Int) (_ : Per) : Int := a + 1 + 1
noncomputable def mAcc (a : Int) (_ : Acc) : Acc := ⟨mText a, a + 1, a + 1 + 1⟩
def nAcc (a : Int) (_ : Acc) : Int := a + 1 + 1 + 1
noncomputable def mEnt (a : Int) (x : Ent) : Ent := ⟨a, a + 1, mText (a + 1 + 1), mAll mLine nLine (a + 1 + 1 + 1) x.f3⟩
def nEnt (a : Int) (x : Ent) : Int := nAll nLine (a + 1 + 1 + 1) x.f3
theorem rdset112 {x : List S88} {i : Int} (h : i < (x.length : Int)) (h0 : 0 ≤ i) (v : S88) : rd_T88 (x.set i.toNat v) i = v := by
  unfold rd_T88; rw [List.getD_eq_getElem?_getD, List.getElem?_set_self (by omega)]; rfl
theorem rdset131 {x : List S48} {i : Int} (h : i < (x.length : Int)) (h0 : 0 ≤ i) (v : S48) : rd_T48 (x.set i.toNat v) i = v := by
  unfold rd_T48; rw [List.getD_eq_getElem?_getD, List.getElem?_set_self (by omega)]; rfl
theorem rdset133 {x : List S84} {i : Int} (h : i < (x.length : Int)) (h0 : 0 ≤ i) (v : S84) : rd_T84 (x.set i.toNat v) i = v := by
  unfold rd_T84; rw [List.getD_eq_getElem?_getD, List.getElem?_set_self (by omega)]; rfl
theorem nLine_b (l : List Lin) (a : Int) : a ≤ nAll nLine a l ∧ nAll nLine a l ≤ a + 5 * (l.length : Int) := nAll_bound l a (fun x _ b => by unfold nLine; omega)
theorem laws_markLineS_is (l : List Lin) (k : Nat) (a : Int) (hk : l.length < k) (hl : l.length ≤ 1048576) (h0 : 0 ≤ a) (h1 : a ≤ 1000000000000000) : laws_markLineS.f k l a = some (nAll nLine a l, mAll mLine nLine a l) := by
  have := mark_loop laws_markLineS.l0 mLine nLine z88 0 5 4611686018427387000 (by omega) (fun _ => True) (fun x _ b => by unfold nLine; omega) (fun k x a i _ hi hi2 hl h0 hB _ => by
    simp only [laws_markLineS.l0, Option.bind_some]
    rw [if_pos hi2, if_pos hi, wr1 h0 (by omega), wr1 (a := a + 1) (by omega) (by omega), wr1 (a := a + 1 + 1) (by omega) (by omega), wr1 (a := a + 1 + 1 + 1) (by omega) (by omega), wr1 (a := a + 1 + 1 + 1 + 1) (by omega) (by omega), wr1 hi (by omega)]
    simp only [List.set_set, rdset112 hi2 hi]
    rfl) (fun k x a i h => by simp only [laws_markLineS.l0]; rw [if_neg (by omega)]) l [] k a (by omega) (by simpa using hl) h0 (by omega) (fun _ _ => trivial)
  exact this
theorem laws_markPeriodS_is (l : List Per) (k : Nat) (a : Int) (hk : l.length < k) (hl : l.length ≤ 1048576) (h0 : 0 ≤ a) (h1 : a ≤ 1000000000000000) : laws_markPeriodS.f k l a = some (nAll nPer a l, mAll mPer nPer a l) := by
  have := mark_loop laws_markPeriodS.l0 mPer nPer z84 0 2 4611686018427387000 (by omega) (fun _ => True) (fun x _ b => by unfold nPer; omega) (fun k x a i _ hi hi2 hl h0 hB _ => by
    simp only [laws_markPeriodS.l0, Option.bind_some]
    rw [if_pos hi2, if_pos hi, wr1 h0 (by omega), wr1 (a := a + 1) (by omega) (by omega), wr1 hi (by omega)]
    simp only [List.set_set, rdset133 hi2 hi]
    rfl) (fun k x a i h => by simp only [laws_markPeriodS.l0]; rw [if_neg (by omega)]) l [] k a (by omega) (by simpa using hl) h0 (by omega) (fun _ _ => trivial)
  exact this
theorem laws_markAccountS_is (l : List Acc) (k : Nat) (a : Int) (hk : l.length + 100 < k) (hl : l.length ≤ 1048576) (h0 : 0 ≤ a) (h1 : a ≤ 1000000000000000) : laws_markAccountS.f k l a = some (nAll nAcc a l, mAll mAcc nAcc a l) := by
  have := mark_loop laws_markAccountS.l0 mAcc nAcc z48 100 3 4611686018427387000 (by omega) (fun _ => True) (fun x _ b => by unfold nAcc; omega) (fun k x a i hD hi hi2 hl h0 hB _ => by
    simp only [laws_markAccountS.l0]
    rw [if_pos hi2, laws_markText_is h0 (by omega) hD]
    simp only [Option.bind_some]
    rw [if_pos hi, wr1 h0 (by omega), wr1 (a := a + 1) (by omega) (by omega), wr1 (a := a + 1 + 1) (by omega) (by omega), wr1 hi (by omega)]
    simp only [List.set_set, rdset131 hi2 hi]
    rfl) (fun k x a i h => by simp only [laws_markAccountS.l0]; rw [if_neg (by omega)]) l [] k a (by omega) (by simpa using hl) h0 (by omega) (fun _ _ => trivial)
  exact this
theorem nAcc_b (l : List Acc) (a : Int) : a ≤ nAll nAcc a l ∧ nAll nAcc a l ≤ a + 3 * (l.length : Int) := nAll_bound l a (fun x _ b => by unfold nAcc; omega)
theorem nPer_b (l : List Per) (a : Int) : a ≤ nAll nPer a l ∧ nAll nPer a l ≤ a + 2 * (l.length : Int) := nAll_bound l a (fun x _ b => by unfold nPer; omega)
theorem nEnt_b (l : List Ent) (h : ∀ x ∈ l, x.f3.length ≤ 1048576) (a : Int) : a ≤ nAll nEnt a l ∧ nAll nEnt a l ≤ a + 5242883 * (l.length : Int) := nAll_bound l a (fun x hx b => by have h1 := h x hx; have h2 := nLine_b x.f3 (b + 1 + 1 + 1); unfold nEnt; omega)
section
variable {w0 w W W1 : World} {g : Nat} {c : List Int}
theorem Drew.refl (hc : Cur w0 w g c) (hb : Below w0.heap.size w0 w) : Drew w0 w w g c := ⟨hc, hb, KeepBut.refl w g none⟩
theorem Drew.size (h : Drew w0 w W g c) : w.heap.size ≤ W.heap.size := h.keep.1
theorem Drew.below (h : Drew w0 w W g c) (hb : Below W.heap.size W W1) : Drew w0 w W1 g c := ⟨h.cur.below hb, below_step h.bel hb, KeepBut.thenK h.keep (KeepBut.of_below hb g none)⟩
theorem Drew.alloc (h : Drew w0 w W g c) (o : Obj) : Drew w0 w (W.alloc o) g c := h.below (y01 (Below.refl _ _) o)
theorem Drew.drewN (h : Drew w0 w W g c) (m : Nat) : Drew w0 w (W.drewN m) g c := h.below (y02 (Below.refl _ _) m)
theorem Drew.drew (h : Drew w0 w W g c) : Drew w0 w W.drew g c := h.below (below_drew (Below.refl _ _))
theorem Drew.call (h : Drew w0 w W g c) (k : Drew w0 W W1 g c) : Drew w0 w W1 g c := ⟨k.cur, k.bel, KeepBut.thenK h.keep k.keep⟩
theorem Drew.grown (h : Drew w0 w W g c) (hl : w0.heap.size ≤ w.heap.size) {row : Option Nat} (hg : W.grownBy W1 row) (hr : ∀ k, row = some k → w.heap.size ≤ k ∧ k ≠ g) : Drew w0 w W1 g c := by
  refine ⟨h.cur.grown hg (fun e => (hr g e.symm).2 rfl), pw_below_grown h.bel row h.bel.size hg (fun k hk => Nat.le_trans hl (hr k hk).1), ⟨Nat.le_trans h.keep.1 hg.size, fun i hi hne hn => ?_⟩⟩
  refine (hg.block i (Nat.lt_of_lt_of_le hi h.keep.1) (fun e => ?_)).trans (h.keep.2 i hi hne hn)
  have := (hr i e.symm).1
  omega
theorem Drew.set (h : Drew w0 w W g c) (hl : w0.heap.size ≤ w.heap.size) {p : Addr} (hp : w.heap.size ≤ p.block) (hne : p.block ≠ g) (u : Value) : Drew w0 w (W.setCell p u) g c := by
  refine ⟨h.cur.far (fun e => hne e.symm) u, h.bel.setCell (Nat.le_trans hl hp) u, ⟨by simpa using h.keep.1, fun i hi hi2 hn => ?_⟩⟩
  refine (Below.heap_setCell W p u i (by omega)).trans (h.keep.2 i hi hi2 hn)
theorem Drew.blk (h : Drew w0 w W g c) {b : Nat} {o : Obj} (hb : w.heap[b]? = some o) (hne : b ≠ g) : W.heap[b]? = some o := h.keep.blk hb hne (by simp)
theorem Drew.R {α : Type} {d : Kd α} {e base : Nat} {ok : Nat → Prop} {v : Value} {xs : List α} (h : Drew w0 w W g c) (hr : d.R e w base ok v xs) (hok : ∀ k, ok k → k ≠ g) : d.R e W base ok v xs := Kd.R_keep hr h.keep hok
end
noncomputable def perGo (l : List Per) (day : Int) : Nat → Int → Int
  | 0, _ => -1
  | n + 1, i => if (rd_T84 l i).f0 ≤ day then (if day ≤ (rd_T84 l i).f1 then i else perGo l day n (i + 1)) else perGo l day n (i + 1)
noncomputable def perV (l : List Per) (day : Int) : Int := if (l.length : Int) > 60 then -1 else perGo l day l.length 0
theorem spec_PeriodAt_l0 (l : List Per) (day : Int) (hl : l.length ≤ 60) : ∀ (n k : Nat) (i : Int), 0 ≤ i → i + n = (l.length : Int) → n < k → spec_PeriodAt.l0 k l day i = some (perGo l day n i) := by
  intro n
  induction n with
  | zero =>
    intro k i h0 hi hk
    obtain ⟨k, rfl⟩ : ∃ j, k = j + 1 := ⟨k - 1, by omega⟩
    simp only [spec_PeriodAt.l0, perGo]
    rw [if_neg (by omega)]
  | succ n ih =>
    intro k i h0 hi hk
    obtain ⟨k, rfl⟩ : ∃ j, k = j + 1 := ⟨k - 1, by omega⟩
    simp only [spec_PeriodAt.l0, perGo]
    rw [if_pos (by omega), if_pos h0, wr1 h0 (by omega), ih k (i + 1) (by omega) (by omega) (by omega)]
    split
    · split <;> rfl
    · rfl
theorem impl_PeriodAt_l0 (l : List Per) (day : Int) (hl : l.length ≤ 60) : ∀ (n k : Nat) (i : Int), 0 ≤ i → i + n = (l.length : Int) → n < k → impl_PeriodAt.l0 k day l (l.length : Int) i = some (perGo l day n i) := by
  intro n
  induction n with
  | zero =>
    intro k i h0 hi hk
    obtain ⟨k, rfl⟩ : ∃ j, k = j + 1 := ⟨k - 1, by omega⟩
    simp only [impl_PeriodAt.l0, perGo]
    rw [if_neg (by omega)]
  | succ n ih =>
    intro k i h0 hi hk
    obtain ⟨k, rfl⟩ : ∃ j, k = j + 1 := ⟨k - 1, by omega⟩
    simp only [impl_PeriodAt.l0, perGo]
    rw [if_pos (by omega), if_pos h0, if_pos (by omega), wr1 h0 (by omega), ih k (i + 1) (by omega) (by omega) (by omega)]
    split
    · split <;> rfl
    · rfl
theorem spec_PeriodAt_is (l : List Per) (day : Int) : spec_PeriodAt.f 100 l day = some (perV l day) := by
  unfold spec_PeriodAt.f perV
  split
  · rfl
  · exact spec_PeriodAt_l0 l day (by omega) l.length 100 0 (by omega) (by omega) (by omega)
theorem impl_PeriodAt_is (l : List Per) (day : Int) : impl_PeriodAt.f 100 l day = some (perV l day) := by
  unfold impl_PeriodAt.f perV
  split
  · rfl
  · exact impl_PeriodAt_l0 l day (by omega) l.length 100 0 (by omega) (by omega) (by omega)
end Go.Proofs.YtjkjjfbcakbmnaaGreatDoor.Q
namespace Go.Proofs.YtjkjjfbcakbmnaaGreatDoor.Q
open Go.RowKit Go.Proofs.YtjkjjfbcakbmnaaGreatDoorW.PrintWords Go.Proofs.YtjkjjfbcakbmnaaGreatDoorW.PrintLast Go.Proofs.YtjkjjfbcakbmnaaGreatDoorW.PrintMore
attribute [local go_sem] max2_int min2_int max_two min_two max_three min_three max_four min_four   -- for this text's walks alone
set_option linter.unusedVariables false
set_option linter.unusedSimpArgs false
open Classical in
noncomputable def textB (s : ByteArray) : Bool := decide (textUpto s s.size ∧ s.size ≤ 40)
open Classical in
theorem textB_iff {s : ByteArray} : textB s = true ↔ textUpto s s.size ∧ s.size ≤ 40 := by unfold textB; rw [decide_eq_true_eq]
theorem textB_not {s : ByteArray} (h : ¬ (textUpto s s.size ∧ s.size ≤ 40)) : false = textB s := by
  cases hb : textB s with
  | false => rfl
  | true => exact absurd (textB_iff.1 hb) h
set_option maxHeartbeats 4000000 in
set_option maxRecDepth 100000 in
theorem spec_l5TextOk.to (s : ByteArray) (w : World) (hm : s.size ≤ maxLen) : Calls Tryz.prog 99 #[.string s] w fun x w' => x = .returned (.bool (textB s)) ∧ w' = w := by
  have hm' : (s.size : Int) ≤ 9223372036854775807 := by unfold maxLen at hm; omega
  go_enter Tryz.func99, Tryz.ntmps99
  go_wp2_with fail
  go_loop [3] (fun v => ∃ i : Int, 0 ≤ i ∧ i ≤ (s.size : Int) ∧ v = .int .i64 i ∧ Aside0 (textUpto s i)) (fun v => (s.size - (intOf v).toNat))
  case atStart => exact ⟨0, by omega, by omega, rfl, ⟨fun j h0 h1 => by omega⟩⟩
  case round =>
    obtain ⟨i, hi0, hi1, rfl, HT⟩ := hrel
    by_cases hlt : i < (s.size : Int)
    · have hx := bt_at s i
      by_cases hb : 32 ≤ bt s i
      · have HB := Aside0.mk (textUpto_step hi0 HT.out hb)
        go_wp2_with fail
        go_round
        case rel => exact ⟨i + 1, by omega, by omega, rfl, HB⟩
        case measure => simp [intOf]; omega
      · have HB := Aside0.mk (textB_not (fun q => hb (q.1 i hi0 hlt)))
        go_wp2_with fail
        go_ret
        exact ⟨ret_bool HB.out, rfl⟩
    · have HTX := Aside0.mk (show textUpto s s.size from fun j h0 h1 => HT.out j h0 (by omega))
      clear HT
      by_cases h4 : s.size ≤ 40
      · have h4' : (s.size : Int) ≤ 40 := by omega
        go_wp2_with fail
        go_ret
        exact ⟨ret_bool (by rw [textB_iff.2 ⟨HTX.out, h4⟩]), rfl⟩
      · go_wp2_with fail
        go_ret
        exact ⟨ret_bool (by rw [← textB_not (fun q => h4 q.2)]; simp; omega), rfl⟩
open Classical in
noncomputable def lineB (chart : List Acc) (dims curs : Int) (x : Lin) : Bool := decide (lineP chart dims curs x)
open Classical in
theorem lineB_true {chart : List Acc} {dims curs : Int} {x : Lin} : lineB chart dims curs x = true ↔ lineP chart dims curs x := by unfold lineB; rw [decide_eq_true_eq]
theorem lineB_not {chart : List Acc} {dims curs : Int} {x : Lin} (h : ¬ lineP chart dims curs x) : false = lineB chart dims curs x := by
  cases hb : lineB chart dims curs x with
  | false => rfl
  | true => exact absurd (lineB_true.1 hb) h
set_option maxHeartbeats 4000000 in
set_option maxRecDepth 100000 in
theorem spec_l5LineOk.to (A0 : Option Addr) (c0 : Nat) (l0 : List Acc) (dims curs : Int) (x : Lin) (w : World) (hr0 : Kd.C k48 w A0 l0.length l0) (hs : ∀ x ∈ l0, x.f0.size ≤ maxLen) (hch : chartOk l0 = true) (hd : 1 ≤ dims ∧ dims ≤ 20) (hc : 1 ≤ curs ∧ curs ≤ 20) :
    Calls Tryz.prog 100 #[.agg #[.slice A0 l0.length c0, .int .i64 dims, .int .i64 curs], .agg #[.int .i64 x.f0, .int .i64 x.f1, .int .i64 x.f2, .int .i64 x.f3, .int .i64 x.f4]] w fun e w' => e = .returned (.bool (lineB l0 dims curs x)) ∧ Below w.heap.size w w' := by
  have hl := hr0.2.1
  have hlen := (chartOk_iff.1 hch).2.1
  have H0 := Aside0.mk (Kd.C_below hr0 (below_two w (.cells #[.slice A0 l0.length c0, .int .i64 dims, .int .i64 curs] 26) (.cells #[.int .i64 x.f0, .int .i64 x.f1, .int .i64 x.f2, .int .i64 x.f3, .int .i64 x.f4] 88)))
  have HS := Aside0.mk hs
  have HCH := Aside0.mk hch
  obtain ⟨hd0, hd1⟩ := hd
  obtain ⟨hc0, hc1⟩ := hc
  clear hr0 hs hch
  go_enter Tryz.func100, Tryz.ntmps100
  go_wp2_with fail
  refine (spec_l1In.to _ _ _ _).mono ?_
  rintro e w' ⟨rfl, rfl⟩
  cases h1 : inB x.f0 0 ((l0.length : Int) - 1) with
  | false =>
    have HN := Aside0.mk (lineB_not (fun q => inB_false.1 h1 ⟨q.1.1, by have := q.1.2.1; omega⟩) : false = lineB l0 dims curs x)
    clear h1
    go_wp2_with fail
    go_ret
    exact ⟨ret_bool HN.out, below_two _ _ _⟩
  | true =>
    clear h1
    go_wp2_with fail
    refine (spec_Leaf.to A0 c0 l0 x.f0 _ H0.out HS.out).mono ?_
    rintro e w1 ⟨rfl, hb⟩
    have HB := Aside0.mk (y10 (w := w) hb (below_two _ _ _))
    have f1 : w1.cell? ⟨w.heap.size, 1, none⟩ = some (.int .i64 dims) := y00 hb (by go_simp)
    have f2 : w1.cell? ⟨w.heap.size, 2, none⟩ = some (.int .i64 curs) := y00 hb (by go_simp)
    have x1 : w1.cell? ⟨w.heap.size + 1, 1, none⟩ = some (.int .i64 x.f1) := y00 hb (by go_simp)
    have x2 : w1.cell? ⟨w.heap.size + 1, 2, none⟩ = some (.int .i64 x.f2) := y00 hb (by go_simp)
    have x3 : w1.cell? ⟨w.heap.size + 1, 3, none⟩ = some (.int .i64 x.f3) := y00 hb (by go_simp)
    have x4 : w1.cell? ⟨w.heap.size + 1, 4, none⟩ = some (.int .i64 x.f4) := y00 hb (by go_simp)
    clear hb
    rw [HCH.out, Bool.true_and]
    cases h2 : leafB l0 x.f0 with
    | false =>
      have HN := Aside0.mk (lineB_not (fun q => by have := leafB_of q.1; rw [h2] at this; cases this) : false = lineB l0 dims curs x)
      clear h2
      go_wp2_with fail
      go_ret
      exact ⟨ret_bool HN.out, HB.out⟩
    | true =>
      have HLF := Aside0.mk (leafB_true.1 h2)
      clear h2
      go_wp2_with fail
      refine (spec_l1In.to _ _ _ _).mono ?_
      rintro e w' ⟨rfl, rfl⟩
      cases h3 : inB x.f1 0 (dims - 1) with
      | false =>
        have HN := Aside0.mk (lineB_not (fun q => inB_false.1 h3 q.2.1) : false = lineB l0 dims curs x)
        clear h3
        go_wp2_with fail
        go_ret
        exact ⟨ret_bool HN.out, HB.out⟩
      | true =>
        have HDM := Aside0.mk (inB_true.1 h3)
        clear h3
        go_wp2_with fail
        refine (spec_l1In.to _ _ _ _).mono ?_
        rintro e w' ⟨rfl, rfl⟩
        cases h4 : inB x.f2 0 (curs - 1) with
        | false =>
          have HN := Aside0.mk (lineB_not (fun q => inB_false.1 h4 q.2.2.1) : false = lineB l0 dims curs x)
          clear h4
          go_wp2_with fail
          go_ret
          exact ⟨ret_bool HN.out, HB.out⟩
        | true =>
          have HCR := Aside0.mk (inB_true.1 h4)
          clear h4
          go_wp2_with fail
          refine (spec_l1Amount.to _ _).mono ?_
          rintro e w' ⟨rfl, rfl⟩
          cases h5 : inB x.f3 (-100000000000) 100000000000 with
          | false =>
            have HN := Aside0.mk (lineB_not (fun q => inB_false.1 h5 q.2.2.2.1) : false = lineB l0 dims curs x)
            clear h5
            go_wp2_with fail
            go_ret
            exact ⟨ret_bool HN.out, HB.out⟩
          | true =>
            have HAM := Aside0.mk (inB_true.1 h5)
            clear h5
            go_wp2_with fail
            refine (spec_l1Amount.to _ _).mono ?_
            rintro e w' ⟨rfl, rfl⟩
            cases h6 : inB x.f4 (-100000000000) 100000000000 with
            | false =>
              have HN := Aside0.mk (lineB_not (fun q => inB_false.1 h6 q.2.2.2.2.1) : false = lineB l0 dims curs x)
              clear h6
              go_wp2_with fail
              go_ret
              exact ⟨ret_bool HN.out, HB.out⟩
            | true =>
              have HBS := Aside0.mk (inB_true.1 h6)
              clear h6
              by_cases h7 : x.f2 = 0
              · have h7b : (x.f2 != 0) = false := by rw [h7]; rfl
                by_cases h8 : x.f3 = x.f4
                · have HY := Aside0.mk (lineB_true.2 (show lineP l0 dims curs x from ⟨HLF.out, HDM.out, HCR.out, HAM.out, HBS.out, fun _ => h8⟩))
                  have h8b : (x.f3 == x.f4) = true := beq_iff_eq.2 h8
                  clear h7 h8
                  go_wp2_with fail
                  go_ret
                  exact ⟨ret_bool HY.out.symm, HB.out⟩
                · have HN := Aside0.mk (lineB_not (fun q => h8 (q.2.2.2.2.2 h7)) : false = lineB l0 dims curs x)
                  have h8b : (x.f3 == x.f4) = false := beq_eq_false_iff_ne.2 h8
                  clear h7 h8
                  go_wp2_with fail
                  go_ret
                  exact ⟨ret_bool HN.out, HB.out⟩
              · have HY := Aside0.mk (lineB_true.2 (show lineP l0 dims curs x from ⟨HLF.out, HDM.out, HCR.out, HAM.out, HBS.out, fun q => absurd q h7⟩))
                have h7b : (x.f2 != 0) = true := bne_iff_ne.2 h7
                clear h7
                go_wp2_with fail
                go_ret
                exact ⟨ret_bool HY.out.symm, HB.out⟩
set_option maxHeartbeats 4000000 in
set_option maxRecDepth 100000 in
theorem impl_FrameOk.to (A0 : Option Addr) (c0 : Nat) (l0 : List Acc) (dims curs : Int) (w : World) (hr0 : Kd.C k48 w A0 l0.length l0) (hs : ∀ x ∈ l0, x.f0.size ≤ maxLen) :
    Calls Tryz.prog 90 #[.agg #[.slice A0 l0.length c0, .int .i64 dims, .int .i64 curs]] w fun e w' => e = .returned (.bool (frameB l0 dims curs)) ∧ Below w.heap.size w w' := by
  have H0 := Aside0.mk hr0
  clear hr0
  unfold frameB
  go_enter Tryz.func90, Tryz.ntmps90
  go_wp2_with fail
  refine (impl_between.to dims _ _ _).mono ?_
  rintro e w5 ⟨rfl, rfl⟩
  cases hinB : inB dims 1 20 with
  | false =>
    go_wp2_with fail
    go_ret
    exact ⟨ret_bool (by simp [hinB]), y01 (Below.refl _ _) _⟩
  | true =>
    go_wp2_with fail
    refine (impl_between.to curs _ _ _).mono ?_
    rintro e w6 ⟨rfl, rfl⟩
    cases hinC : inB curs 1 20 with
    | false =>
      go_wp2_with fail
      go_ret
      exact ⟨ret_bool (by simp [hinB, hinC]), y01 (Below.refl _ _) _⟩
    | true =>
      go_wp2_with fail
      refine (impl_ChartOk.to A0 c0 l0 _ (Kd.C_below H0.out (y01 (Below.refl _ _) _)) hs).mono ?_
      rintro e w1 ⟨rfl, hb⟩
      have HB := Aside0.mk (y10 (w := w) hb (y01 (Below.refl _ _) _))
      have s0 : w1.cell? ⟨w.heap.size, 0, none⟩ = some (.slice A0 l0.length c0) := y00 hb (by go_simp)
      have s1 : w1.cell? ⟨w.heap.size, 1, none⟩ = some (.int .i64 dims) := y00 hb (by go_simp)
      have s2 : w1.cell? ⟨w.heap.size, 2, none⟩ = some (.int .i64 curs) := y00 hb (by go_simp)
      clear hb
      cases hch : chartOk l0 with
      | false =>
        go_wp2_with fail
        go_ret
        exact ⟨ret_bool (by simp [hinB, hinC, hch]), HB.out⟩
      | true =>
        go_wp2_with fail
        go_ret
        exact ⟨ret_bool (by simp [hinB, hinC, hch]), HB.out⟩
end Go.Proofs.YtjkjjfbcakbmnaaGreatDoor.Q
