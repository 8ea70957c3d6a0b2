/- Parts of the proof: what functions of the program and of the reference answer.
   No condition. -/
import Derived.Test.YtphmnkcfjgallaaZSpread1
import Derived.Test.YtphmnkcfjgallaaZSpread6
import Derived.Test.YtphmnkcfjgallaaZSpread3
import Derived.Test.YtphmnkcfjgallaaZSpread5
import Derived.Test.YtphmnkcfjgallaaZSpread4
import Derived.Test.YtphmnkcfjgallaaZSpread2
import Derived.Test.YtphmnkcfjgallaaZSpread10
import Derived.Test.YtphmnkcfjgallaaZSpread12
namespace Go.Proofs.Ytphmnkcfjgallaa.Q
open Go.RowKit Go.Proofs.YtphmnkcfjgallaaW.PrintWords Go.Proofs.YtphmnkcfjgallaaW.PrintLast Go.Proofs.YtphmnkcfjgallaaW.PrintMore
set_option linter.unusedVariables false
set_option linter.unusedSimpArgs false
def mAll {α : Type} (m : Int → α → α) (nx : Int → α → Int) : Int → List α → List α
  | _, [] => []
  | a, x :: l => m a x :: mAll m nx (nx a x) l
def nAll {α : Type} (nx : Int → α → Int) : Int → List α → Int
  | a, [] => a
  | a, x :: l => nAll nx (nx a x) l
theorem mAll_length {α : Type} (m : Int → α → α) (nx : Int → α → Int) : ∀ (l : List α) (a : Int), (mAll m nx a l).length = l.length
  | [], _ => rfl
  | x :: l, a => by simp only [mAll, List.length_cons, mAll_length m nx l]
theorem nAll_snoc {α : Type} (nx : Int → α → Int) (x : α) : ∀ (l : List α) (a : Int), nAll nx a (l ++ [x]) = nx (nAll nx a l) x
  | [], _ => rfl
  | y :: l, a => nAll_snoc nx x l (nx a y)
theorem mAll_snoc {α : Type} (m : Int → α → α) (nx : Int → α → Int) (x : α) : ∀ (l : List α) (a : Int), mAll m nx a (l ++ [x]) = mAll m nx a l ++ [m (nAll nx a l) x]
  | [], _ => rfl
  | y :: l, a => by simp only [List.cons_append, mAll, nAll, mAll_snoc m nx x l]
theorem nAll_bound {α : Type} {nx : Int → α → Int} {C : Int} : ∀ (l : List α) (a : Int), (∀ x ∈ l, ∀ b, b ≤ nx b x ∧ nx b x ≤ b + C) → a ≤ nAll nx a l ∧ nAll nx a l ≤ a + C * (l.length : Int)
  | [], a, _ => by simp [nAll]
  | x :: l, a, h => by
    have h1 := h x List.mem_cons_self a
    have h2 := nAll_bound l (nx a x) (fun y hy => h y (List.mem_cons_of_mem _ hy))
    have : C * ((x :: l).length : Int) = C + C * (l.length : Int) := by rw [List.length_cons]; push_cast; rw [Int.mul_add]; omega
    simp only [nAll]
    omega
theorem mark_loop {α : Type} (F : Nat → List α → Int → Int → Option (Int × List α)) (m : Int → α → α) (nx : Int → α → Int) (z : α) (D : Nat) (C B : Int) (hC : 0 ≤ C) (ok : α → Prop)
    (hnx : ∀ x, ok x → ∀ b, b ≤ nx b x ∧ nx b x ≤ b + C)
    (hstep : ∀ (k : Nat) (x : List α) (a i : Int), D ≤ k → 0 ≤ i → i < (x.length : Int) → (x.length : Int) ≤ 1048576 → 0 ≤ a → a + C ≤ B → ok (x.getD i.toNat z) → F (k + 1) x a i = F k (x.set i.toNat (m a (x.getD i.toNat z))) (nx a (x.getD i.toNat z)) (i + 1))
    (hend : ∀ (k : Nat) (x : List α) (a i : Int), (x.length : Int) ≤ i → F (k + 1) x a i = some (a, x)) :
    ∀ (rest pre : List α) (k : Nat) (a : Int), rest.length + D < k → (pre ++ rest).length ≤ 1048576 → 0 ≤ a → a + C * (rest.length : Int) ≤ B → (∀ x ∈ rest, ok x) → F k (pre ++ rest) a (pre.length : Int) = some (nAll nx a rest, pre ++ mAll m nx a rest)
  | [], pre, k, a, hk, hl, h0, hB, ho => by
    obtain ⟨k, rfl⟩ : ∃ j, k = j + 1 := ⟨k - 1, by omega⟩
    rw [hend k _ a _ (by simp)]
    rfl
  | x :: rest, pre, k, a, hk, hl, h0, hB, ho => by
    obtain ⟨k, rfl⟩ : ∃ j, k = j + 1 := ⟨k - 1, by omega⟩
    have hx : (pre ++ x :: rest).getD (pre.length : Int).toNat z = x := by simp
    have hox := ho x List.mem_cons_self
    have h1 := hnx x hox a
    have hmul : C * ((x :: rest).length : Int) = C + C * (rest.length : Int) := by rw [List.length_cons]; push_cast; rw [Int.mul_add]; omega
    have hpos : 0 ≤ C * (rest.length : Int) := Int.mul_nonneg hC (by omega)
    simp only [List.length_cons] at hk
    rw [hstep k _ a _ (by omega) (by omega) (by simp; omega) (by omega) h0 (by omega) (by rw [hx]; exact hox), hx]
    have hs : (pre ++ x :: rest).set (pre.length : Int).toNat (m a x) = (pre ++ [m a x]) ++ rest := by simp
    have hp : ((pre.length : Int) + 1) = ((pre ++ [m a x]).length : Int) := by simp
    rw [hs, hp, mark_loop F m nx z D C B hC ok hnx hstep hend rest (pre ++ [m a x]) k (nx a x) (by omega) (by simp at hl ⊢; omega) (by omega) (by omega) (fun y hy => ho y (List.mem_cons_of_mem _ hy))]
    simp [nAll, mAll]
theorem held_loop {α : Type} (F : Nat → List α → Int → Int → Option Int) (m : Int → α → α) (nx : Int → α → Int) (z : α) (D : Nat) (C B : Int) (hC : 0 ≤ C) (ok : α → Prop)
    (hnx : ∀ x, ok x → ∀ b, b ≤ nx b x ∧ nx b x ≤ b + C)
    (hstep : ∀ (k : Nat) (y : List α) (x : α) (a i : Int), D ≤ k → 0 ≤ i → i < (y.length : Int) → (y.length : Int) ≤ 1048576 → 0 ≤ a → a + C ≤ B → ok x → y.getD i.toNat z = m a x → F (k + 1) y a i = F k y (nx a x) (i + 1))
    (hend : ∀ (k : Nat) (x : List α) (a i : Int), (x.length : Int) ≤ i → F (k + 1) x a i = some a) :
    ∀ (rest pre : List α) (k : Nat) (a : Int), rest.length + D < k → (pre ++ rest).length ≤ 1048576 → 0 ≤ a → a + C * (rest.length : Int) ≤ B → (∀ x ∈ rest, ok x) → F k (pre ++ mAll m nx a rest) a (pre.length : Int) = some (nAll nx a rest)
  | [], pre, k, a, hk, hl, h0, hB, ho => by
    obtain ⟨k, rfl⟩ : ∃ j, k = j + 1 := ⟨k - 1, by omega⟩
    rw [hend k _ a _ (by simp [mAll])]
    rfl
  | x :: rest, pre, k, a, hk, hl, h0, hB, ho => by
    obtain ⟨k, rfl⟩ : ∃ j, k = j + 1 := ⟨k - 1, by omega⟩
    have hx : (pre ++ mAll m nx a (x :: rest)).getD (pre.length : Int).toNat z = m a x := by simp [mAll]
    have hox := ho x List.mem_cons_self
    have h1 := hnx x hox a
    have hmul : C * ((x :: rest).length : Int) = C + C * (rest.length : Int) := by rw [List.length_cons]; push_cast; rw [Int.mul_add]; omega
    have hpos : 0 ≤ C * (rest.length : Int) := Int.mul_nonneg hC (by omega)
    simp only [List.length_cons] at hk
    have hlen : (pre ++ mAll m nx a (x :: rest)).length = (pre ++ x :: rest).length := by simp [mAll_length]
    rw [hstep k _ x a _ (by omega) (by omega) (by rw [hlen]; simp; omega) (by rw [hlen]; omega) h0 (by omega) hox hx]
    have hs : pre ++ mAll m nx a (x :: rest) = (pre ++ [m a x]) ++ mAll m nx (nx a x) rest := by simp [mAll]
    have hp : ((pre.length : Int) + 1) = ((pre ++ [m a x]).length : Int) := by simp
    rw [hs, hp, held_loop F m nx z D C B hC ok hnx hstep hend rest (pre ++ [m a x]) k (nx a x) (by omega) (by simp at hl ⊢; omega) (by omega) (by omega) (fun y hy => ho y (List.mem_cons_of_mem _ hy))]
    rfl
theorem tdiv10 {a : Int} (h0 : 0 ≤ a) (h1 : a ≤ 4611686018427387904) : wrap64 (Int.tdiv a 10) = a / 10 := by
  rw [Int.tdiv_eq_ediv_of_nonneg h0]
  unfold wrap64
  omega
theorem markText_l0 : ∀ (n k : Nat) (a : Int) (s : ByteArray), 0 ≤ a → a ≤ 4611686018427387904 → a < 10 ^ n → s.size + n ≤ 1000 → n < k → ∃ t, laws_markText.l0 k a s = some t ∧ t.size ≤ 1001
  | 0, k, a, s, h0, h1, h2, hs, hk => by
    obtain ⟨k, rfl⟩ : ∃ j, k = j + 1 := ⟨k - 1, by omega⟩
    have : a = 0 := by simp at h2; omega
    subst this
    refine ⟨_, by simp only [laws_markText.l0]; rw [if_neg (by omega), if_pos (by omega)], ?_⟩
    rw [ByteArray.size_append]
    show 1 + s.size ≤ _
    omega
  | n + 1, k, a, s, h0, h1, h2, hs, hk => by
    obtain ⟨k, rfl⟩ : ∃ j, k = j + 1 := ⟨k - 1, by omega⟩
    by_cases hp : a > 0
    · simp only [laws_markText.l0]
      rw [if_pos hp]
      simp only [Option.bind_some]
      have h3 : a / 10 < 10 ^ n := Int.ediv_lt_of_lt_mul (by decide) (by rw [← Int.pow_succ]; exact h2)
      have hsz : ∀ x : Int, (strOfNums [x]).size = 1 := fun x => rfl
      rw [if_pos (by rw [hsz]; omega), tdiv10 h0 h1]
      exact markText_l0 n k (a / 10) _ (by omega) (by omega) h3 (by rw [ByteArray.size_append, hsz]; omega) (by omega)
    · have : a = 0 := by omega
      subst this
      refine ⟨_, by simp only [laws_markText.l0]; rw [if_neg (by omega), if_pos (by omega)], ?_⟩
      rw [ByteArray.size_append]
      show 1 + s.size ≤ _
      omega
noncomputable def mText (a : Int) : ByteArray := (laws_markText.f 100 a).getD ⟨#[]⟩
theorem laws_markText_is {a : Int} (h0 : 0 ≤ a) (h1 : a ≤ 4611686018427387904) {k : Nat} (hk : 100 ≤ k) : laws_markText.f k a = some (mText a) := by
  have h : ∃ t, laws_markText.f 100 a = some t := by
    unfold laws_markText.f
    split
    · exact ⟨_, rfl⟩
    · obtain ⟨t, ht, _⟩ := markText_l0 19 100 a ⟨#[]⟩ h0 h1 (by omega) (by decide) (by omega)
      exact ⟨t, ht⟩
  obtain ⟨t, ht⟩ := h
  have hm : mText a = t := by unfold mText; rw [ht]; rfl
  rw [hm]
  exact at_rounds (g := fun k => laws_markText.f k a) (fun k => laws_markText.mono a k) hk ht
theorem wr1 {a : Int} (h0 : 0 ≤ a) (h1 : a ≤ 4611686018427387904) : wrap64 (a + 1) = a + 1 := by unfold wrap64; omega
def mLine (a : Int) (_ : Lin) : Lin := ⟨a, a + 1, a + 1 + 1, a + 1 + 1 + 1, a + 1 + 1 + 1 + 1⟩
def nLine (a : Int) (_ : Lin) : Int := a + 1 + 1 + 1 + 1 + 1
def mPer (a : Int) (_ : Per) : Per := ⟨a, a + 1⟩
def nPer (a : Int) (_ : Per) : Int := a + 1 + 1
noncomputable def mAcc (a : Int) (_ : Acc) : Acc := ⟨mText a, a + 1, a + 1 + 1⟩
def nAcc (a : Int) (_ : Acc) : Int := a + 1 + 1 + 1
noncomputable def mEnt (a : Int) (x : Ent) : Ent := ⟨a, a + 1, mText (a + 1 + 1), mAll mLine nLine (a + 1 + 1 + 1) x.f3⟩
def nEnt (a : Int) (x : Ent) : Int := nAll nLine (a + 1 + 1 + 1) x.f3
theorem rdset112 {x : List S112} {i : Int} (h : i < (x.length : Int)) (h0 : 0 ≤ i) (v : S112) : rd_T112 (x.set i.toNat v) i = v := by
  unfold rd_T112; rw [List.getD_eq_getElem?_getD, List.getElem?_set_self (by omega)]; rfl
theorem rdset131 {x : List S131} {i : Int} (h : i < (x.length : Int)) (h0 : 0 ≤ i) (v : S131) : rd_T131 (x.set i.toNat v) i = v := by
  unfold rd_T131; rw [List.getD_eq_getElem?_getD, List.getElem?_set_self (by omega)]; rfl
theorem rdset133 {x : List S133} {i : Int} (h : i < (x.length : Int)) (h0 : 0 ≤ i) (v : S133) : rd_T133 (x.set i.toNat v) i = v := by
  unfold rd_T133; rw [List.getD_eq_getElem?_getD, List.getElem?_set_self (by omega)]; rfl
theorem nLine_b (l : List Lin) (a : Int) : a ≤ nAll nLine a l ∧ nAll nLine a l ≤ a + 5 * (l.length : Int) := nAll_bound l a (fun x _ b => by unfold nLine; omega)
theorem laws_markLineS_is (l : List Lin) (k : Nat) (a : Int) (hk : l.length < k) (hl : l.length ≤ 1048576) (h0 : 0 ≤ a) (h1 : a ≤ 1000000000000000) : laws_markLineS.f k l a = some (nAll nLine a l, mAll mLine nLine a l) := by
  have := mark_loop laws_markLineS.l0 mLine nLine z112 0 5 4611686018427387000 (by omega) (fun _ => True) (fun x _ b => by unfold nLine; omega) (fun k x a i _ hi hi2 hl h0 hB _ => by
    simp only [laws_markLineS.l0, Option.bind_some]
    rw [if_pos hi2, if_pos hi, wr1 h0 (by omega), wr1 (a := a + 1) (by omega) (by omega), wr1 (a := a + 1 + 1) (by omega) (by omega), wr1 (a := a + 1 + 1 + 1) (by omega) (by omega), wr1 (a := a + 1 + 1 + 1 + 1) (by omega) (by omega), wr1 hi (by omega)]
    simp only [List.set_set, rdset112 hi2 hi]
    rfl) (fun k x a i h => by simp only [laws_markLineS.l0]; rw [if_neg (by omega)]) l [] k a (by omega) (by simpa using hl) h0 (by omega) (fun _ _ => trivial)
  exact this
theorem laws_markPeriodS_is (l : List Per) (k : Nat) (a : Int) (hk : l.length < k) (hl : l.length ≤ 1048576) (h0 : 0 ≤ a) (h1 : a ≤ 1000000000000000) : laws_markPeriodS.f k l a = some (nAll nPer a l, mAll mPer nPer a l) := by
  have := mark_loop laws_markPeriodS.l0 mPer nPer z133 0 2 4611686018427387000 (by omega) (fun _ => True) (fun x _ b => by unfold nPer; omega) (fun k x a i _ hi hi2 hl h0 hB _ => by
    simp only [laws_markPeriodS.l0, Option.bind_some]
    rw [if_pos hi2, if_pos hi, wr1 h0 (by omega), wr1 (a := a + 1) (by omega) (by omega), wr1 hi (by omega)]
    simp only [List.set_set, rdset133 hi2 hi]
    rfl) (fun k x a i h => by simp only [laws_markPeriodS.l0]; rw [if_neg (by omega)]) l [] k a (by omega) (by simpa using hl) h0 (by omega) (fun _ _ => trivial)
  exact this
theorem laws_markAccountS_is (l : List Acc) (k : Nat) (a : Int) (hk : l.length + 100 < k) (hl : l.length ≤ 1048576) (h0 : 0 ≤ a) (h1 : a ≤ 1000000000000000) : laws_markAccountS.f k l a = some (nAll nAcc a l, mAll mAcc nAcc a l) := by
  have := mark_loop laws_markAccountS.l0 mAcc nAcc z131 100 3 4611686018427387000 (by omega) (fun _ => True) (fun x _ b => by unfold nAcc; omega) (fun k x a i hD hi hi2 hl h0 hB _ => by
    simp only [laws_markAccountS.l0]
    rw [if_pos hi2, laws_markText_is h0 (by omega) hD]
    simp only [Option.bind_some]
    rw [if_pos hi, wr1 h0 (by omega), wr1 (a := a + 1) (by omega) (by omega), wr1 (a := a + 1 + 1) (by omega) (by omega), wr1 hi (by omega)]
    simp only [List.set_set, rdset131 hi2 hi]
    rfl) (fun k x a i h => by simp only [laws_markAccountS.l0]; rw [if_neg (by omega)]) l [] k a (by omega) (by simpa using hl) h0 (by omega) (fun _ _ => trivial)
  exact this
theorem nAcc_b (l : List Acc) (a : Int) : a ≤ nAll nAcc a l ∧ nAll nAcc a l ≤ a + 3 * (l.length : Int) := nAll_bound l a (fun x _ b => by unfold nAcc; omega)
theorem nPer_b (l : List Per) (a : Int) : a ≤ nAll nPer a l ∧ nAll nPer a l ≤ a + 2 * (l.length : Int) := nAll_bound l a (fun x _ b => by unfold nPer; omega)
theorem nEnt_b (l : List Ent) (h : ∀ x ∈ l, x.f3.length ≤ 1048576) (a : Int) : a ≤ nAll nEnt a l ∧ nAll nEnt a l ≤ a + 5242883 * (l.length : Int) := nAll_bound l a (fun x hx b => by have h1 := h x hx; have h2 := nLine_b x.f3 (b + 1 + 1 + 1); unfold nEnt; omega)
end Go.Proofs.Ytphmnkcfjgallaa.Q
namespace Go.Proofs.Ytphmnkcfjgallaa.Q
open Go.RowKit Go.Proofs.YtphmnkcfjgallaaW.PrintWords Go.Proofs.YtphmnkcfjgallaaW.PrintLast Go.Proofs.YtphmnkcfjgallaaW.PrintMore
attribute [local go_sem] max2_int min2_int max_two min_two max_three min_three max_four min_four   -- for this text's walks alone
set_option linter.unusedVariables false
set_option linter.unusedSimpArgs false
end Go.Proofs.Ytphmnkcfjgallaa.Q
namespace Go.Proofs.Ytphmnkcfjgallaa.Q
open Go.RowKit Go.Proofs.YtphmnkcfjgallaaW.PrintWords Go.Proofs.YtphmnkcfjgallaaW.PrintLast Go.Proofs.YtphmnkcfjgallaaW.PrintMore
attribute [local go_sem] max2_int min2_int max_two min_two max_three min_three max_four min_four   -- for this text's walks alone
set_option linter.unusedVariables false
set_option linter.unusedSimpArgs false
end Go.Proofs.Ytphmnkcfjgallaa.Q
namespace Go.Proofs.Ytphmnkcfjgallaa.Q
open Go.RowKit Go.Proofs.YtphmnkcfjgallaaW.PrintWords Go.Proofs.YtphmnkcfjgallaaW.PrintLast Go.Proofs.YtphmnkcfjgallaaW.PrintMore
attribute [local go_sem] max2_int min2_int max_two min_two max_three min_three max_four min_four   -- for this text's walks alone
set_option linter.unusedVariables false
set_option linter.unusedSimpArgs false
set_option maxHeartbeats 4000000 in
set_option maxRecDepth 100000 in
theorem impl_FrameOk.to (A0 : Option Addr) (c0 : Nat) (l0 : List Acc) (dims curs : Int) (w : World) (hr0 : Kd.C k131 w A0 l0.length l0) (hs : ∀ x ∈ l0, x.f0.size ≤ maxLen) :
    Calls Try.prog 93 #[.agg #[.slice A0 l0.length c0, .int .i64 dims, .int .i64 curs]] w fun e w' => e = .returned (.bool (frameB l0 dims curs)) ∧ Below w.heap.size w w' := by
  have H0 := Aside0.mk hr0
  clear hr0
  unfold frameB
  go_enter Try.func93, Try.ntmps93
  go_wp2_with fail
  refine (impl_between.to dims _ _ _).mono ?_
  rintro e w5 ⟨rfl, rfl⟩
  cases hinB : inB dims 1 20 with
  | false =>
    go_wp2_with fail
    go_ret
    exact ⟨ret_bool (by simp [hinB]), below_alloc (Below.refl _ _) _⟩
  | true =>
    go_wp2_with fail
    refine (impl_between.to curs _ _ _).mono ?_
    rintro e w6 ⟨rfl, rfl⟩
    cases hinC : inB curs 1 20 with
    | false =>
      go_wp2_with fail
      go_ret
      exact ⟨ret_bool (by simp [hinB, hinC]), below_alloc (Below.refl _ _) _⟩
    | true =>
      go_wp2_with fail
      refine (impl_ChartOk.to A0 c0 l0 _ (Kd.C_below H0.out (below_alloc (Below.refl _ _) _)) hs).mono ?_
      rintro e w1 ⟨rfl, hb⟩
      have HB := Aside0.mk (below_into (w := w) hb (below_alloc (Below.refl _ _) _))
      have s0 : w1.cell? ⟨w.heap.size, 0, none⟩ = some (.slice A0 l0.length c0) := pw_cell_below hb (by go_simp)
      have s1 : w1.cell? ⟨w.heap.size, 1, none⟩ = some (.int .i64 dims) := pw_cell_below hb (by go_simp)
      have s2 : w1.cell? ⟨w.heap.size, 2, none⟩ = some (.int .i64 curs) := pw_cell_below hb (by go_simp)
      clear hb
      cases hch : chartOk l0 with
      | false =>
        go_wp2_with fail
        go_ret
        exact ⟨ret_bool (by simp [hinB, hinC, hch]), HB.out⟩
      | true =>
        go_wp2_with fail
        go_ret
        exact ⟨ret_bool (by simp [hinB, hinC, hch]), HB.out⟩
open Classical in
noncomputable def impl_FrameOk.f (l0 : List Acc) (dims curs : Int) : Option Bool := if (∀ x ∈ l0, x.f0.size ≤ maxLen) then some (frameB l0 dims curs) else none
theorem impl_FrameOk.calls (A0 : Option Addr) (c0 : Nat) (l0 : List Acc) (dims curs : Int) (r : Bool) (w : World) (hr0 : Kd.C k131 w A0 l0.length l0) (hc0 : l0.length ≤ c0) (hf : impl_FrameOk.f l0 dims curs = some r) :
    Calls Try.prog 93 #[.agg #[.slice A0 l0.length c0, .int .i64 dims, .int .i64 curs]] w fun e w' => e = .returned (.bool r) ∧ Below w.heap.size w w' := by
  unfold impl_FrameOk.f at hf
  split at hf
  · rename_i q
    cases hf
    exact impl_FrameOk.to A0 c0 l0 dims curs w hr0 q
  · cases hf
end Go.Proofs.Ytphmnkcfjgallaa.Q
namespace Go.Proofs.Ytphmnkcfjgallaa.Q
open Go.RowKit Go.Proofs.YtphmnkcfjgallaaW.PrintWords Go.Proofs.YtphmnkcfjgallaaW.PrintLast Go.Proofs.YtphmnkcfjgallaaW.PrintMore
attribute [local go_sem] max2_int min2_int max_two min_two max_three min_three max_four min_four   -- for this text's walks alone
set_option linter.unusedVariables false
set_option linter.unusedSimpArgs false
open Classical in
noncomputable def textB (s : ByteArray) : Bool := decide (textUpto s s.size ∧ s.size ≤ 40)
open Classical in
theorem textB_iff {s : ByteArray} : textB s = true ↔ textUpto s s.size ∧ s.size ≤ 40 := by unfold textB; rw [decide_eq_true_eq]
theorem textB_not {s : ByteArray} (h : ¬ (textUpto s s.size ∧ s.size ≤ 40)) : false = textB s := by
  cases hb : textB s with
  | false => rfl
  | true => exact absurd (textB_iff.1 hb) h
set_option maxHeartbeats 4000000 in
set_option maxRecDepth 100000 in
theorem spec_l5TextOk.to (s : ByteArray) (w : World) (hm : s.size ≤ maxLen) : Calls Try.prog 135 #[.string s] w fun x w' => x = .returned (.bool (textB s)) ∧ w' = w := by
  have hm' : (s.size : Int) ≤ 9223372036854775807 := by unfold maxLen at hm; omega
  go_enter Try.func135, Try.ntmps135
  go_wp2_with fail
  go_loop [3] (fun v => ∃ i : Int, 0 ≤ i ∧ i ≤ (s.size : Int) ∧ v = .int .i64 i ∧ Aside0 (textUpto s i)) (fun v => (s.size - (intOf v).toNat))
  case atStart => exact ⟨0, by omega, by omega, rfl, ⟨fun j h0 h1 => by omega⟩⟩
  case round =>
    obtain ⟨i, hi0, hi1, rfl, HT⟩ := hrel
    by_cases hlt : i < (s.size : Int)
    · have hx := bt_at s i
      by_cases hb : 32 ≤ bt s i
      · have HB := Aside0.mk (textUpto_step hi0 HT.out hb)
        go_wp2_with fail
        go_round
        case rel => exact ⟨i + 1, by omega, by omega, rfl, HB⟩
        case measure => simp [intOf]; omega
      · have HB := Aside0.mk (textB_not (fun q => hb (q.1 i hi0 hlt)))
        go_wp2_with fail
        go_ret
        exact ⟨ret_bool HB.out, rfl⟩
    · have HTX := Aside0.mk (show textUpto s s.size from fun j h0 h1 => HT.out j h0 (by omega))
      clear HT
      by_cases h4 : s.size ≤ 40
      · have h4' : (s.size : Int) ≤ 40 := by omega
        go_wp2_with fail
        go_ret
        exact ⟨ret_bool (by rw [textB_iff.2 ⟨HTX.out, h4⟩]), rfl⟩
      · go_wp2_with fail
        go_ret
        exact ⟨ret_bool (by rw [← textB_not (fun q => h4 q.2)]; simp; omega), rfl⟩
open Classical in
noncomputable def lineB (chart : List Acc) (dims curs : Int) (x : Lin) : Bool := decide (lineP chart dims curs x)
open Classical in
theorem lineB_true {chart : List Acc} {dims curs : Int} {x : Lin} : lineB chart dims curs x = true ↔ lineP chart dims curs x := by unfold lineB; rw [decide_eq_true_eq]
theorem lineB_not {chart : List Acc} {dims curs : Int} {x : Lin} (h : ¬ lineP chart dims curs x) : false = lineB chart dims curs x := by
  cases hb : lineB chart dims curs x with
  | false => rfl
  | true => exact absurd (lineB_true.1 hb) h
set_option maxHeartbeats 4000000 in
set_option maxRecDepth 100000 in
theorem spec_l5LineOk.to (A0 : Option Addr) (c0 : Nat) (l0 : List Acc) (dims curs : Int) (x : Lin) (w : World) (hr0 : Kd.C k131 w A0 l0.length l0) (hs : ∀ x ∈ l0, x.f0.size ≤ maxLen) (hch : chartOk l0 = true) (hd : 1 ≤ dims ∧ dims ≤ 20) (hc : 1 ≤ curs ∧ curs ≤ 20) :
    Calls Try.prog 136 #[.agg #[.slice A0 l0.length c0, .int .i64 dims, .int .i64 curs], .agg #[.int .i64 x.f0, .int .i64 x.f1, .int .i64 x.f2, .int .i64 x.f3, .int .i64 x.f4]] w fun e w' => e = .returned (.bool (lineB l0 dims curs x)) ∧ Below w.heap.size w w' := by
  have hl := hr0.2.1
  have hlen := (chartOk_iff.1 hch).2.1
  have H0 := Aside0.mk (Kd.C_below hr0 (below_two w (.cells #[.slice A0 l0.length c0, .int .i64 dims, .int .i64 curs] 26) (.cells #[.int .i64 x.f0, .int .i64 x.f1, .int .i64 x.f2, .int .i64 x.f3, .int .i64 x.f4] 112)))
  have HS := Aside0.mk hs
  have HCH := Aside0.mk hch
  obtain ⟨hd0, hd1⟩ := hd
  obtain ⟨hc0, hc1⟩ := hc
  clear hr0 hs hch
  go_enter Try.func136, Try.ntmps136
  go_wp2_with fail
  refine (spec_l1In.to _ _ _ _).mono ?_
  rintro e w' ⟨rfl, rfl⟩
  cases h1 : inB x.f0 0 ((l0.length : Int) - 1) with
  | false =>
    have HN := Aside0.mk (lineB_not (fun q => inB_false.1 h1 ⟨q.1.1, by have := q.1.2.1; omega⟩) : false = lineB l0 dims curs x)
    clear h1
    go_wp2_with fail
    go_ret
    exact ⟨ret_bool HN.out, below_two _ _ _⟩
  | true =>
    clear h1
    go_wp2_with fail
    refine (spec_Leaf.to A0 c0 l0 x.f0 _ H0.out HS.out).mono ?_
    rintro e w1 ⟨rfl, hb⟩
    have HB := Aside0.mk (below_into (w := w) hb (below_two _ _ _))
    have f1 : w1.cell? ⟨w.heap.size, 1, none⟩ = some (.int .i64 dims) := pw_cell_below hb (by go_simp)
    have f2 : w1.cell? ⟨w.heap.size, 2, none⟩ = some (.int .i64 curs) := pw_cell_below hb (by go_simp)
    have x1 : w1.cell? ⟨w.heap.size + 1, 1, none⟩ = some (.int .i64 x.f1) := pw_cell_below hb (by go_simp)
    have x2 : w1.cell? ⟨w.heap.size + 1, 2, none⟩ = some (.int .i64 x.f2) := pw_cell_below hb (by go_simp)
    have x3 : w1.cell? ⟨w.heap.size + 1, 3, none⟩ = some (.int .i64 x.f3) := pw_cell_below hb (by go_simp)
    have x4 : w1.cell? ⟨w.heap.size + 1, 4, none⟩ = some (.int .i64 x.f4) := pw_cell_below hb (by go_simp)
    clear hb
    rw [HCH.out, Bool.true_and]
    cases h2 : leafB l0 x.f0 with
    | false =>
      have HN := Aside0.mk (lineB_not (fun q => by have := leafB_of q.1; rw [h2] at this; cases this) : false = lineB l0 dims curs x)
      clear h2
      go_wp2_with fail
      go_ret
      exact ⟨ret_bool HN.out, HB.out⟩
    | true =>
      have HLF := Aside0.mk (leafB_true.1 h2)
      clear h2
      go_wp2_with fail
      refine (spec_l1In.to _ _ _ _).mono ?_
      rintro e w' ⟨rfl, rfl⟩
      cases h3 : inB x.f1 0 (dims - 1) with
      | false =>
        have HN := Aside0.mk (lineB_not (fun q => inB_false.1 h3 q.2.1) : false = lineB l0 dims curs x)
        clear h3
        go_wp2_with fail
        go_ret
        exact ⟨ret_bool HN.out, HB.out⟩
      | true =>
        have HDM := Aside0.mk (inB_true.1 h3)
        clear h3
        go_wp2_with fail
        refine (spec_l1In.to _ _ _ _).mono ?_
        rintro e w' ⟨rfl, rfl⟩
        cases h4 : inB x.f2 0 (curs - 1) with
        | false =>
          have HN := Aside0.mk (lineB_not (fun q => inB_false.1 h4 q.2.2.1) : false = lineB l0 dims curs x)
          clear h4
          go_wp2_with fail
          go_ret
          exact ⟨ret_bool HN.out, HB.out⟩
        | true =>
          have HCR := Aside0.mk (inB_true.1 h4)
          clear h4
          go_wp2_with fail
          refine (spec_l1Amount.to _ _).mono ?_
          rintro e w' ⟨rfl, rfl⟩
          cases h5 : inB x.f3 (-100000000000) 100000000000 with
          | false =>
            have HN := Aside0.mk (lineB_not (fun q => inB_false.1 h5 q.2.2.2.1) : false = lineB l0 dims curs x)
            clear h5
            go_wp2_with fail
            go_ret
            exact ⟨ret_bool HN.out, HB.out⟩
          | true =>
            have HAM := Aside0.mk (inB_true.1 h5)
            clear h5
            go_wp2_with fail
            refine (spec_l1Amount.to _ _).mono ?_
            rintro e w' ⟨rfl, rfl⟩
            cases h6 : inB x.f4 (-100000000000) 100000000000 with
            | false =>
              have HN := Aside0.mk (lineB_not (fun q => inB_false.1 h6 q.2.2.2.2.1) : false = lineB l0 dims curs x)
              clear h6
              go_wp2_with fail
              go_ret
              exact ⟨ret_bool HN.out, HB.out⟩
            | true =>
              have HBS := Aside0.mk (inB_true.1 h6)
              clear h6
              by_cases h7 : x.f2 = 0
              · have h7b : (x.f2 != 0) = false := by rw [h7]; rfl
                by_cases h8 : x.f3 = x.f4
                · have HY := Aside0.mk (lineB_true.2 (show lineP l0 dims curs x from ⟨HLF.out, HDM.out, HCR.out, HAM.out, HBS.out, fun _ => h8⟩))
                  have h8b : (x.f3 == x.f4) = true := beq_iff_eq.2 h8
                  clear h7 h8
                  go_wp2_with fail
                  go_ret
                  exact ⟨ret_bool HY.out.symm, HB.out⟩
                · have HN := Aside0.mk (lineB_not (fun q => h8 (q.2.2.2.2.2 h7)) : false = lineB l0 dims curs x)
                  have h8b : (x.f3 == x.f4) = false := beq_eq_false_iff_ne.2 h8
                  clear h7 h8
                  go_wp2_with fail
                  go_ret
                  exact ⟨ret_bool HN.out, HB.out⟩
              · have HY := Aside0.mk (lineB_true.2 (show lineP l0 dims curs x from ⟨HLF.out, HDM.out, HCR.out, HAM.out, HBS.out, fun q => absurd q h7⟩))
                have h7b : (x.f2 != 0) = true := bne_iff_ne.2 h7
                clear h7
                go_wp2_with fail
                go_ret
                exact ⟨ret_bool HY.out.symm, HB.out⟩
end Go.Proofs.Ytphmnkcfjgallaa.Q
namespace Go.Proofs.Ytphmnkcfjgallaa.Q
open Go.RowKit Go.Proofs.YtphmnkcfjgallaaW.PrintWords Go.Proofs.YtphmnkcfjgallaaW.PrintLast Go.Proofs.YtphmnkcfjgallaaW.PrintMore
set_option linter.unusedVariables false
set_option linter.unusedSimpArgs false
theorem laws_heldLineS_is (l : List Lin) (k : Nat) (a : Int) (hk : l.length < k) (hl : l.length ≤ 1048576) (h0 : 0 ≤ a) (h1 : a ≤ 1000000000000000) : laws_heldLineS.f k (mAll mLine nLine a l) a = some (nAll nLine a l) := by
  have := held_loop laws_heldLineS.l0 mLine nLine z112 0 5 4611686018427387000 (by omega) (fun _ => True) (fun x _ b => by unfold nLine; omega) (fun k y x a i _ hi hi2 hl h0 hB _ hy => by
    have hy' : rd_T112 y i = mLine a x := hy
    simp only [laws_heldLineS.l0]
    rw [if_pos hi2, if_pos hi, hy', wr1 h0 (by omega), wr1 (a := a + 1) (by omega) (by omega), wr1 (a := a + 1 + 1) (by omega) (by omega), wr1 (a := a + 1 + 1 + 1) (by omega) (by omega), wr1 (a := a + 1 + 1 + 1 + 1) (by omega) (by omega), wr1 hi (by omega)]
    simp only [mLine, if_true]
    rfl) (fun k x a i h => by simp only [laws_heldLineS.l0]; rw [if_neg (by omega)]) l [] k a (by omega) (by simpa using hl) h0 (by omega) (fun _ _ => trivial)
  exact this
theorem mAll_at {α : Type} (m : Int → α → α) (nx : Int → α → Int) (z : α) : ∀ (l : List α) (a : Int) (i : Nat), i < l.length → (mAll m nx a l).getD i z = m (nAll nx a (l.take i)) (l.getD i z)
  | [], a, i, h => by simp at h
  | x :: l, a, 0, h => rfl
  | x :: l, a, i + 1, h => by
    have := mAll_at m nx z l (nx a x) i (by simpa using h)
    simpa [mAll, nAll] using this
theorem nAll_step {α : Type} (nx : Int → α → Int) (z : α) (l : List α) (a : Int) (i : Int) (h0 : 0 ≤ i) (h1 : i < (l.length : Int)) : nAll nx a (l.take (i + 1).toNat) = nx (nAll nx a (l.take i.toNat)) (l.getD i.toNat z) := by
  rw [show (i + 1).toNat = i.toNat + 1 by omega, List.take_add_one, List.getElem?_eq_getElem (by omega), List.getD_eq_getElem?_getD, List.getElem?_eq_getElem (by omega)]
  exact nAll_snoc nx _ _ a
set_option maxHeartbeats 16000000 in
set_option maxRecDepth 100000 in
theorem laws_heldEntryS.to (A : Option Addr) (c : Nat) (l : List Ent) (a1 : Int) (w : World) (hr : Kd.C k34 w A l.length (mAll mEnt nEnt a1 l)) (h0 : 0 ≤ a1) (h1 : a1 ≤ 100000000000000) (hl : l.length ≤ 1048576) (hs : ∀ x ∈ l, x.f3.length ≤ 1048576) :
    Calls Try.prog 46 #[.slice A l.length c, .int .i64 a1] w fun e w' => e = .returned (.int .i64 (nAll nEnt a1 l)) ∧ Below w.heap.size w w' := by
  have HR := Aside0.mk hr
  have HL := Aside0.mk hs
  have ha1 := h1
  clear hr hs
  go_enter Try.func46, Try.ntmps46
  go_wp2_with fail
  go_loopw [1, 5] (fun v u wr => ∃ i a : Int, 0 ≤ i ∧ i ≤ (l.length : Int) ∧ u = .int .i64 i ∧ v = .int .i64 a ∧ 0 ≤ a ∧ a ≤ 100000000000000 + 5242883 * 1048576 ∧ Aside0 (a = nAll nEnt a1 (l.take i.toNat)) ∧ Aside0 (Below w.heap.size w wr)) (fun _ u _ => (l.length - (intOf u).toNat))
  case atStart => exact ⟨0, a1, by omega, by omega, rfl, rfl, h0, by omega, ⟨rfl⟩, ⟨Below.refl _ _⟩⟩
  case round =>
    clear h0 h1
    obtain ⟨i, a, hi0, hi1, rfl, rfl, h0, h1, HA, HB⟩ := hrel
    by_cases hlt : i < (l.length : Int)
    · obtain ⟨ad, A3, c3, e0, x0, x1, x2, x3, hc3, hC3⟩ := at_T34 (Kd.C_below HR.out HB.out) i hi0 hlt
      cases e0
      have hm : rd_T34 (mAll mEnt nEnt a1 l) i = mEnt a (rd_T34 l i) := by
        rw [HA.out]
        exact mAll_at mEnt nEnt z34 l a1 i.toNat (by omega)
      rw [hm] at x0 x1 x2 x3 hc3 hC3
      have hxl : (rd_T34 l i).f3.length ≤ 1048576 := all_at (z := z34) (p := fun x => x.f3.length ≤ 1048576) hi0 hlt HL.out
      have hnx : nAll nEnt a1 (l.take (i + 1).toNat) = nEnt a (rd_T34 l i) := by rw [HA.out]; exact nAll_step nEnt z34 l a1 i hi0 hlt
      have hnb := nEnt_b (l.take (i + 1).toNat) (fun x hx => HL.out x (List.mem_of_mem_take hx)) a1
      have htl : (l.take (i + 1).toNat).length ≤ 1048576 := by rw [List.length_take]; omega
      rw [hnx] at hnb
      have HNX := Aside0.mk hnx
      simp only [mEnt] at x0 x1 x2 x3 hc3 hC3
      have HLI := Aside0.mk (laws_heldLineS_is (rd_T34 l i).f3 ((rd_T34 l i).f3.length + 1) (a + 1 + 1 + 1) (by omega) hxl (by omega) (by omega))
      have hne : nEnt a (rd_T34 l i) = nAll nLine (a + 1 + 1 + 1) (rd_T34 l i).f3 := rfl
      rw [hne] at hnb
      have HNE := Aside0.mk hne
      have hln := nLine_b (rd_T34 l i).f3 (a + 1 + 1 + 1)
      generalize (rd_T34 l i).f3 = ls at *
      generalize nAll nLine (a + 1 + 1 + 1) ls = nk at *
      generalize mAll mLine nLine (a + 1 + 1 + 1) ls = ml at *
      have MT := Aside0.mk (laws_markText_is (a := a + 1 + 1) (by omega) (by omega) (Nat.le_refl 100))
      generalize mText (a + 1 + 1) = mt at *
      have X3 := Aside0.mk x3
      have HC3 := Aside0.mk hC3
      have HCC := Aside0.mk hc3
      have w1 : IntKind.i64.wrap (a + 1 + 1) = a + 1 + 1 := by rw [IntKind.wrap_i64]; omega
      have hq : decide (nk < 0) = false := decide_eq_false (by omega)
      clear hm hnx hne hC3 hc3
      go_wp2_with fail
      have HV := Aside0.mk (Below.refl wr.heap.size wr)
      go_region_held3 (fun w' => w'.cell? ⟨(ad.add (i.toNat * 4)).block, (ad.add (i.toNat * 4)).off + 2, none⟩ = some (.string mt) ∧ w'.cell? ⟨(ad.add (i.toNat * 4)).block, (ad.add (i.toNat * 4)).off + 3, none⟩ = some (.slice A3 ml.length c3)) ((first | go_keep | exact ⟨pw_cell_below hb (by assumption), pw_cell_below hb (by assumption)⟩))
        ((go_at_call 111; refine (laws_markText.calls 100 (a + 1 + 1) mt _ MT.out).mono ?_; rintro x w2 ⟨rfl, hb⟩; have HV2 := Aside0.mk (below_into (w := wr) hb (by repeat (first | exact HV.out | refine below_drew1 ?_ | refine pw_below_drewN ?_ _)))))
      clear x0 x1 x2 x3 w1
      have hH := ‹_ ∧ _›
      obtain ⟨x2, x3⟩ := hH
      have hmb : (!mt.toList == mt.toList) = false := by simp
      have HB2 := Aside0.mk (below_into (w := w) HV2.out HB.out)
      have HC4 := Aside0.mk (Kd.C_below HC3.out HV2.out)
      have w1 : IntKind.i64.wrap (a + 1 + 1 + 1) = a + 1 + 1 + 1 := by rw [IntKind.wrap_i64]; omega
      go_wp2_with fail
      refine (laws_heldLineS.calls (ls.length + 1) A3 c3 ml (a + 1 + 1 + 1) nk _ HC4.out HCC.out HLI.out).mono ?_
      rintro x w3 ⟨rfl, hd⟩
      have HB3 := Aside0.mk (below_into (w := w) hd.below HB2.out)
      clear hd
      go_wp2_with fail
      go_roundw
      case rel => exact ⟨i + 1, nk, by omega, by omega, rfl, rfl, by omega, by omega, ⟨by rw [HNX.out]; exact HNE.out.symm⟩, HB3⟩
      case measure => simp [intOf]; omega
    · go_wp2_with fail
      go_ret
      exact ⟨ret_i (by rw [HA.out, List.take_of_length_le (by omega)]), HB.out⟩
end Go.Proofs.Ytphmnkcfjgallaa.Q
namespace Go.Proofs.Ytphmnkcfjgallaa.Q
open Go.RowKit Go.Proofs.YtphmnkcfjgallaaW.PrintWords Go.Proofs.YtphmnkcfjgallaaW.PrintLast Go.Proofs.YtphmnkcfjgallaaW.PrintMore
set_option linter.unusedVariables false
set_option linter.unusedSimpArgs false
theorem mark_step {l : List Ent} {a : Int} {i : Int} (h0 : 0 ≤ i) (h1 : i < (l.length : Int)) {x' : Ent} (hx : x' = mEnt (nAll nEnt a (l.take i.toNat)) (rd_T34 l i)) :
    (mAll mEnt nEnt a (l.take i.toNat) ++ l.drop i.toNat).set i.toNat x' = mAll mEnt nEnt a (l.take (i + 1).toNat) ++ l.drop (i + 1).toNat ∧ nAll nEnt a (l.take (i + 1).toNat) = nEnt (nAll nEnt a (l.take i.toNat)) (rd_T34 l i) ∧ rd_T34 (mAll mEnt nEnt a (l.take i.toNat) ++ l.drop i.toNat) i = rd_T34 l i := by
  subst hx
  have ht : l.take (i + 1).toNat = l.take i.toNat ++ [rd_T34 l i] := by
    rw [show (i + 1).toNat = i.toNat + 1 by omega, List.take_add_one, List.getElem?_eq_getElem (by omega)]
    unfold rd_T34
    rw [List.getD_eq_getElem?_getD, List.getElem?_eq_getElem (by omega)]
    rfl
  have hl : (mAll mEnt nEnt a (l.take i.toNat)).length = i.toNat := by rw [mAll_length, List.length_take]; omega
  have hd : l.drop i.toNat = rd_T34 l i :: l.drop (i + 1).toNat := by
    rw [show (i + 1).toNat = i.toNat + 1 by omega, List.drop_eq_getElem_cons (by omega)]
    unfold rd_T34
    rw [List.getD_eq_getElem?_getD, List.getElem?_eq_getElem (by omega)]
    rfl
  refine ⟨?_, ?_, ?_⟩
  · rw [ht, mAll_snoc, hd, List.set_append_right _ _ (by omega), hl, Nat.sub_self]
    simp
  · rw [ht, nAll_snoc]
  · rw [hd]
    show ((mAll mEnt nEnt a (l.take i.toNat)) ++ rd_T34 l i :: l.drop (i + 1).toNat).getD i.toNat z34 = _
    rw [List.getD_eq_getElem?_getD, List.getElem?_append_right (by omega), hl, Nat.sub_self]
    rfl
set_option maxHeartbeats 16000000 in
set_option maxRecDepth 100000 in
theorem laws_markEntryS.to (P0_ : Nat → Prop) (A : Option Addr) (c : Nat) (l0 : List Ent) (a1 : Int) (w0 w : World) (hB : Below w0.heap.size w0 w) (hS : Kd.S k34 34 w w0.heap.size P0_ (.slice A l0.length c) l0) (h0 : 0 ≤ a1) (h1 : a1 ≤ 100000000000000) (hl : l0.length ≤ 1048576) (hs : ∀ x ∈ l0, x.f3.length ≤ 1048576) :
    Calls Try.prog 45 #[.slice A l0.length c, .int .i64 a1] w fun e w' => e = .returned (.int .i64 (nAll nEnt a1 l0)) ∧ Kd.S k34 34 w' w0.heap.size P0_ (.slice A l0.length c) (mAll mEnt nEnt a1 l0) ∧ Below w0.heap.size w0 w' ∧ Kept w w' P0_ := by
  have HB := Aside0.mk hB
  have HS := Aside0.mk (show Kd.S k34 34 w w0.heap.size P0_ (.slice A l0.length c) (mAll mEnt nEnt a1 (l0.take (0 : Int).toNat) ++ l0.drop (0 : Int).toNat) from hS)
  have HL := Aside0.mk hs
  clear hB hS hs
  go_enter Try.func45, Try.ntmps45
  go_wp2_with fail
  go_loopw [1, 5] (fun v u wr => ∃ i a : Int, 0 ≤ i ∧ i ≤ (l0.length : Int) ∧ u = .int .i64 i ∧ v = .int .i64 a ∧ 0 ≤ a ∧ a ≤ 100000000000000 + 5242883 * 1048576 ∧ Aside0 (a = nAll nEnt a1 (l0.take i.toNat)) ∧ Aside0 (Kd.S k34 34 wr w0.heap.size P0_ (.slice A l0.length c) (mAll mEnt nEnt a1 (l0.take i.toNat) ++ l0.drop i.toNat)) ∧ Aside0 (Below w0.heap.size w0 wr) ∧ Aside0 (Kept w wr P0_)) (fun _ u _ => (l0.length - (intOf u).toNat))
  case atStart => exact ⟨0, a1, by omega, by omega, rfl, rfl, h0, by omega, ⟨rfl⟩, HS, HB, ⟨Kept.refl w P0_⟩⟩
  case round =>
    have A1 := h1
    clear HS HB h0 h1
    obtain ⟨i, a, hi0, hi1, rfl, rfl, h0, h1, HA, HS, HB, HK⟩ := hrel
    by_cases hlt : i < (l0.length : Int)
    · have hcl : (mAll mEnt nEnt a1 (l0.take i.toNat) ++ l0.drop i.toNat).length = l0.length := by rw [List.length_append, mAll_length, List.length_take, List.length_drop]; omega
      obtain ⟨g, cap, e1, hg0, hg1, _⟩ := Kd.S_form HS.out (by rw [hcl]; omega)
      rw [hcl] at e1
      have HCL := Aside0.mk hcl
      clear hcl
      cases e1
      have MS := Aside0.mk (mark_step (a := a1) hi0 hlt rfl)
      have HPG := Aside0.mk ((Kd.S_R HS.out).1 g rfl)
      obtain ⟨XS, hXS⟩ : ∃ X, X = mAll mEnt nEnt a1 (l0.take i.toNat) ++ l0.drop i.toNat := ⟨_, rfl⟩
      rw [← hXS] at HS MS
      have HXS := Aside0.mk hXS
      clear hXS
      obtain ⟨oki, cs, hcl, hM, hcc, hfr, hoki, hH⟩ := Kd.S_elem HS.out z34 i hi0 hlt
      rw [show XS.getD i.toNat z34 = rd_T34 l0 i from MS.out.2.2] at hM
      obtain ⟨v3, rfl, hR⟩ := k34_openM hM
      obtain ⟨A3, c3, rfl, hc3, hC3⟩ := Kd.R_reads hR
      have x0 := hcc 0 _ rfl
      have x1 := hcc 1 _ rfl
      have x2 := hcc 2 _ rfl
      have x3 := hcc 3 _ rfl
      have f0 := hfr 0
      have f1 := hfr 1
      have f2 := hfr 2
      simp only [show k34.sz = 4 from rfl, Nat.add_zero] at x0 x1 x2 x3 f0 f1 f2
      have HH := Aside0.mk hH
      have HR := Aside0.mk hR
      have HOK := Aside0.mk hoki
      have w1 : IntKind.i64.wrap (a + 1) = a + 1 := by unfold IntKind.wrap; simp [IntKind.bits]; omega
      have hxl : (rd_T34 l0 i).f3.length ≤ 1048576 := all_at (z := z34) (p := fun x => x.f3.length ≤ 1048576) hi0 hlt HL.out
      clear hcl hM hcc hfr hoki hH hR hC3 HS
      generalize hls : (rd_T34 l0 i).f3 = ls at *
      have HLS := Aside0.mk hls
      clear hls
      go_wp2_with fail
      refine (laws_markText.calls 100 (a + 1 + 1) (mText (a + 1 + 1)) _ (laws_markText_is (by omega) (by omega) (Nat.le_refl _))).mono ?_
      rintro e w2 ⟨rfl, hb⟩
      have x2' : w2.cell? ⟨g, i.toNat * 4 + 2, none⟩ = some (.string (rd_T34 l0 i).f2) := pw_cell_below hb (by go_simp)
      have x3' : w2.cell? ⟨g, i.toNat * 4 + 3, none⟩ = some (.slice A3 ls.length c3) := pw_cell_below hb (by go_simp)
      have f2' : w2.frozen? ⟨g, i.toNat * 4 + 2, none⟩ = false := (hb.frozen (p := ⟨g, i.toNat * 4 + 2, none⟩) (by simp; omega)).trans (by go_simp)
      have HH1 : Kd.H k34 34 (wr.setCell ⟨g, i.toNat * 4, none⟩ (.int .i64 a)) w0.heap.size P0_ (.slice (some ⟨g, 0, none⟩) l0.length c) XS i oki [.int .i64 a, .int .i64 (rd_T34 l0 i).f1, .string (rd_T34 l0 i).f2, .slice A3 ls.length c3] := (Kd.H_seg HH.out hi0 hlt (seg := [.int .i64 a]) (j := 0) (show 1 ≤ 4 from by decide) (by simp [Value.oneCell'])).1
      have HH2 : Kd.H k34 34 ((wr.setCell ⟨g, i.toNat * 4, none⟩ (.int .i64 a)).setCell ⟨g, i.toNat * 4 + 1, none⟩ (.int .i64 (a + 1))) w0.heap.size P0_ (.slice (some ⟨g, 0, none⟩) l0.length c) XS i oki [.int .i64 a, .int .i64 (a + 1), .string (rd_T34 l0 i).f2, .slice A3 ls.length c3] := (Kd.H_seg HH1 hi0 hlt (seg := [.int .i64 (a + 1)]) (j := 1) (show 2 ≤ 4 from by decide) (by simp [Value.oneCell'])).1
      have HH3 := Kd.H_below HH2 hb
      have HH4 : Kd.H k34 34 (w2.setCell ⟨g, i.toNat * 4 + 2, none⟩ (.string (mText (a + 1 + 1)))) w0.heap.size P0_ (.slice (some ⟨g, 0, none⟩) l0.length c) XS i oki [.int .i64 a, .int .i64 (a + 1), .string (mText (a + 1 + 1)), .slice A3 ls.length c3] := (Kd.H_seg HH3 hi0 hlt (seg := [.string (mText (a + 1 + 1))]) (j := 2) (show 3 ≤ 4 from by decide) (by simp [Value.oneCell'])).1
      have hne : ∀ k, oki k → k ≠ g := fun k hk => (HOK.out k hk).2
      have hR3 := Aside0.mk (Kd.R_far (p := ⟨g, i.toNat * 4 + 2, none⟩) (Kd.R_below (Kd.R_far (p := ⟨g, i.toNat * 4 + 1, none⟩) (Kd.R_far (p := ⟨g, i.toNat * 4, none⟩) HR.out hne (.int .i64 a)) hne (.int .i64 (a + 1))) hb) hne (.string (mText (a + 1 + 1))))
      have HB3 := Aside0.mk (below_set (j := i.toNat * 4 + 2) (v := .string (mText (a + 1 + 1))) (below_into (w := w0) hb (below_set (below_set HB.out hg0) hg0)) hg0)
      have HK3 := Aside0.mk (Kept.setCell (Kept.below (Kept.setCell (Kept.setCell HK.out (p := ⟨g, i.toNat * 4, none⟩) (.inl HPG.out) (.int .i64 a)) (p := ⟨g, i.toNat * 4 + 1, none⟩) (.inl HPG.out) (.int .i64 (a + 1))) hb) (p := ⟨g, i.toNat * 4 + 2, none⟩) (.inl HPG.out) (.string (mText (a + 1 + 1))))
      replace HH := Aside0.mk HH4
      have HNE := Aside0.mk hne
      clear HH1 HH2 HH3 HH4 hne hb x0 x1 x2 x3 f0 f1 f2 w1
      go_wp2_with fail
      refine (laws_markLineS.calls (ls.length + 1) oki (.slice A3 ls.length c3) ls (a + 1 + 1 + 1) _ _ w0 _ HB3.out hR3.out (laws_markLineS_is ls _ _ (by omega) hxl (by omega) (by omega))).mono ?_
      rintro e w4 ⟨rfl, hR4, hB4, hK4⟩
      have HX : (⟨a, a + 1, mText (a + 1 + 1), mAll mLine nLine (a + 1 + 1 + 1) ls⟩ : Ent) = mEnt (nAll nEnt a1 (l0.take i.toNat)) (rd_T34 l0 i) := by rw [← HA.out]; unfold mEnt; rw [HLS.out]
      have HS4 := Aside0.mk (Kd.H_back (Kd.H_step HH.out (fun k _ hn hlt => hK4.2 k hlt hn)) (k34_mkM _ _ _ (⟨a, a + 1, mText (a + 1 + 1), mAll mLine nLine (a + 1 + 1 + 1) ls⟩ : Ent) (Kd.R_tight rfl hR4)) (fun k hk => HR.out.1 k hk.symm))
      have HB4 := Aside0.mk hB4
      have HK4 := Aside0.mk (HK3.out.then_ hK4 (fun k hk => .inl (HOK.out k hk).1))
      have hnb := nEnt_b (l0.take (i + 1).toNat) (fun x hx => HL.out x (List.mem_of_mem_take hx)) a1
      have hnx : nAll nEnt a1 (l0.take (i + 1).toNat) = nAll nLine (a + 1 + 1 + 1) ls := by rw [MS.out.2.1, ← HA.out]; unfold nEnt; rw [HLS.out]
      have hnl := nLine_b ls (a + 1 + 1 + 1)
      have htl : (l0.take (i + 1).toNat).length ≤ 1048576 := by rw [List.length_take]; omega
      rw [hnx] at hnb
      have HNX := Aside0.mk hnx
      clear hR4 hB4 hK4 hnx
      go_wp2_with fail
      go_roundw
      case rel => exact ⟨i + 1, nAll nLine (a + 1 + 1 + 1) ls, by omega, by omega, rfl, rfl, by omega, by omega, ⟨HNX.out.symm⟩, ⟨by have := HS4.out; rw [HX, MS.out.1] at this; exact this⟩, HB4, HK4⟩
      case measure => simp [intOf]; omega
    · go_wp2_with fail
      go_ret
      have e1 : l0.take i.toNat = l0 := List.take_of_length_le (by omega)
      have e2 : l0.drop i.toNat = [] := List.drop_of_length_le (by omega)
      have h := HS.out
      have ha := HA.out
      rw [e1] at ha h
      rw [e2, List.append_nil] at h
      exact ⟨ret_i ha, h, HB.out, HK.out⟩
end Go.Proofs.Ytphmnkcfjgallaa.Q
