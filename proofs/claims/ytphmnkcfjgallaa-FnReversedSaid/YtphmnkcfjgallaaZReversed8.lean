/- Parts of the proof: what functions of the program and of the reference answer.
   No condition. -/
import Derived.Test.YtphmnkcfjgallaaZReversed1
import Derived.Test.YtphmnkcfjgallaaZReversed4
import Derived.Test.YtphmnkcfjgallaaZReversed6
import Derived.Test.YtphmnkcfjgallaaZReversed2
import Derived.Test.YtphmnkcfjgallaaZReversed7
namespace Go.Proofs.Ytphmnkcfjgallaa.Q
open Go.RowKit Go.Proofs.YtphmnkcfjgallaaW.PrintWords Go.Proofs.YtphmnkcfjgallaaW.PrintLast Go.Proofs.YtphmnkcfjgallaaW.PrintMore
set_option linter.unusedVariables false
set_option linter.unusedSimpArgs false
theorem i64_and255 (n : Int) : Go.bits .and .i64 n 255 = n % 256 := by
  have h127 : (BitVec.ofInt 64 255).toNat = 2 ^ 8 - 1 := by decide
  have key : (BitVec.ofInt 64 n &&& BitVec.ofInt 64 255).toNat = (n % ((2 ^ 64 : Nat) : Int)).toNat % 2 ^ 8 := by
    rw [BitVec.toNat_and, BitVec.toNat_ofInt, h127, Nat.and_two_pow_sub_one_eq_mod]
  show IntKind.i64.wrap ((BitVec.ofInt 64 n &&& BitVec.ofInt 64 255).toNat : Nat) = n % 256
  rw [key, IntKind.wrap_i64]
  omega
theorem l1Byte_is (c : List Int) (i h : Int) (h0 : 0 ≤ i) (h1 : i ≤ (c.length : Int)) (hc : c.length ≤ 1048576) : ∃ r j h', spec_l1Byte.f c i h = some (r, j, h') ∧ (0 ≤ r ∧ r ≤ 255) ∧ 0 ≤ j ∧ j ≤ (c.length : Int) := by
  unfold spec_l1Byte.f
  by_cases q : i < (c.length : Int)
  · rw [if_pos q, if_pos h0]
    refine ⟨_, _, _, rfl, ?_, ?_⟩
    · rw [i64_and255]; omega
    · rw [show wrap64 (i + 1) = i + 1 by unfold wrap64; omega]; omega
  · rw [if_neg q]
    exact ⟨_, _, _, rfl, by rw [i64_and255]; omega, h0, h1⟩
theorem l1Below_is (c : List Int) (i h n : Int) (h0 : 0 ≤ i) (h1 : i ≤ (c.length : Int)) (hc : c.length ≤ 1048576) (hn : n ≤ 2147483648) : ∃ r j h', spec_l1Below.f c i h n = some (r, j, h') ∧ (0 ≤ r ∧ (0 < n → r < n) ∧ (n ≤ 0 → r = 0)) ∧ 0 ≤ j ∧ j ≤ (c.length : Int) := by
  unfold spec_l1Below.f
  by_cases q : n ≤ 0
  · rw [if_pos q]
    exact ⟨0, i, h, rfl, ⟨by omega, fun _ => by omega, fun _ => rfl⟩, h0, h1⟩
  · rw [if_neg q]
    by_cases q2 : n ≤ 256
    · rw [if_pos q2]
      obtain ⟨r, j, h', e, hr, hj⟩ := l1Byte_is c i h h0 h1 hc
      rw [e]
      simp only [Option.bind_some]
      rw [if_neg (by omega)]
      exact ⟨_, _, _, rfl, ⟨Int.tmod_nonneg _ hr.1, fun hp => Int.tmod_lt_of_pos _ hp, fun hp => absurd hp q⟩, hj⟩
    · rw [if_neg q2]
      obtain ⟨r, j, h', e, hr, hj⟩ := l1Byte_is c i h h0 h1 hc
      rw [e]
      simp only [Option.bind_some]
      obtain ⟨r1, j1, h1', e1, hr1, hj1⟩ := l1Byte_is c j h' hj.1 hj.2 hc
      rw [e1]
      simp only [Option.bind_some]
      obtain ⟨r2, j2, h2', e2, hr2, hj2⟩ := l1Byte_is c j1 h1' hj1.1 hj1.2 hc
      rw [e2]
      simp only [Option.bind_some]
      obtain ⟨r3, j3, h3', e3, hr3, hj3⟩ := l1Byte_is c j2 h2' hj2.1 hj2.2 hc
      rw [e3]
      simp only [Option.bind_some]
      rw [if_neg (by omega)]
      refine ⟨_, _, _, rfl, ⟨Int.tmod_nonneg _ ?_, fun hp => Int.tmod_lt_of_pos _ hp, fun hp => absurd hp q⟩, hj3⟩
      unfold wrap64
      omega
def Cur (w0 W : World) (g : Nat) (c : List Int) : Prop := ∃ i h, IsS159 w0 W g c i h ∧ 0 ≤ i ∧ i ≤ (c.length : Int)
structure Drew (w0 w w' : World) (g : Nat) (c : List Int) : Prop where
  cur : Cur w0 w' g c
  bel : Below w0.heap.size w0 w'
  keep : KeepBut w w' g none
theorem Cur.ge {w0 W : World} {g : Nat} {c : List Int} (h : Cur w0 W g c) : w0.heap.size ≤ g := by obtain ⟨_, _, h, _⟩ := h; exact h.ge
theorem Cur.lt {w0 W : World} {g : Nat} {c : List Int} (h : Cur w0 W g c) : g < W.heap.size := by obtain ⟨_, _, h, _⟩ := h; exact h.lt
theorem Cur.below {w0 W W1 : World} {g : Nat} {c : List Int} (h : Cur w0 W g c) (hw : Below W.heap.size W W1) : Cur w0 W1 g c := by obtain ⟨i, j, h, k⟩ := h; exact ⟨i, j, h.below hw, k⟩
theorem Cur.grown {w0 W W1 : World} {g : Nat} {c : List Int} {row : Option Nat} (h : Cur w0 W g c) (hw : W.grownBy W1 row) (hne : some g ≠ row) : Cur w0 W1 g c := by obtain ⟨i, j, h, k⟩ := h; exact ⟨i, j, h.grown hw hne, k⟩
theorem Cur.far {w0 W : World} {g : Nat} {c : List Int} {p : Addr} (h : Cur w0 W g c) (hne : g ≠ p.block) (u : Value) : Cur w0 (W.setCell p u) g c := by obtain ⟨i, j, h, k⟩ := h; exact ⟨i, j, h.far hne u, k⟩
theorem Cur.drewN {w0 W : World} {g : Nat} {c : List Int} (h : Cur w0 W g c) (m : Nat) : Cur w0 (W.drewN m) g c := by obtain ⟨i, j, h, k⟩ := h; exact ⟨i, j, h.drewN m, k⟩
theorem Cur.drew {w0 W : World} {g : Nat} {c : List Int} (h : Cur w0 W g c) : Cur w0 W.drew g c := by obtain ⟨i, j, h, k⟩ := h; exact ⟨i, j, h.drew, k⟩
theorem Cur.own_ne {w0 W : World} {g : Nat} {c : List Int} {α : Type} {d : Kd α} {e : Nat} {base : Nat} {ok : Nat → Prop} {v : Value} {xs : List α} (h : Cur w0 W g c) (ho : d.R e W base ok v xs) (ht : e ≠ 159) : some g ≠ v.ownBlock := by obtain ⟨i, j, h, k⟩ := h; exact h.own_ne ho ht
theorem Cur.apart {w0 W : World} {g : Nat} {c : List Int} {α : Type} {d : Kd α} {e : Nat} {base : Nat} {ok : Nat → Prop} {v : Value} {xs : List α} (h : Cur w0 W g c) (ho : d.R e W base ok v xs) (ht : ∀ q, q ∈ e :: d.E → q ≠ 159) : d.R e W base (fun k => ok k ∧ k ≠ g) v xs := by obtain ⟨i, j, h, k⟩ := h; exact h.apart ho ht
theorem Cur.apartS {w0 W : World} {g : Nat} {c : List Int} {α : Type} {d : Kd α} {e : Nat} {base : Nat} {ok : Nat → Prop} {v : Value} {xs : List α} (h : Cur w0 W g c) (ho : d.S e W base ok v xs) (ht : ∀ q, q ∈ e :: d.E → q ≠ 159) : d.S e W base (fun k => ok k ∧ k ≠ g) v xs := by obtain ⟨i, j, h, k⟩ := h; exact h.apartS ho ht
theorem KeepBut.thenK {w w1 w2 : World} {g : Nat} (h : KeepBut w w1 g none) (k : KeepBut w1 w2 g none) : KeepBut w w2 g none := h.trans k (.inl rfl)
theorem KeepBut.cell {w w1 : World} {g : Nat} (h : KeepBut w w1 g none) {p : Addr} {v : Value} (hc : w.cell? p = some v) (hne : p.block ≠ g) : w1.cell? p = some v :=
  (World.cell?_of_block (h.2 p.block (World.block_lt_of_cell? w p hc) hne (by simp))).trans hc
theorem spec_l1New_l0 (c : List Int) (hc : c.length ≤ 1048576) : ∀ (n k : Nat) (h i : Int), 0 ≤ i → 4000 ≤ i + n → n < k → ∃ h', spec_l1New.l0 k c h i = some (c, 0, h') := by
  intro n
  induction n with
  | zero =>
    intro k h i h0 hi hk
    obtain ⟨k, rfl⟩ : ∃ j, k = j + 1 := ⟨k - 1, by omega⟩
    simp only [spec_l1New.l0]
    by_cases q : i < (c.length : Int)
    · rw [if_pos q, if_neg (by omega)]; exact ⟨_, rfl⟩
    · rw [if_neg q]; exact ⟨_, rfl⟩
  | succ n ih =>
    intro k h i h0 hi hk
    obtain ⟨k, rfl⟩ : ∃ j, k = j + 1 := ⟨k - 1, by omega⟩
    simp only [spec_l1New.l0]
    by_cases q : i < (c.length : Int)
    · rw [if_pos q]
      by_cases q2 : i < 4000
      · rw [if_pos q2, if_pos h0, show wrap64 (i + 1) = i + 1 by unfold wrap64; omega]
        exact ih k _ _ (by omega) (by omega) (by omega)
      · rw [if_neg q2]; exact ⟨_, rfl⟩
    · rw [if_neg q]; exact ⟨_, rfl⟩
theorem spec_l1New.e (A0 : Option Addr) (c0 : Nat) (c : List Int) (w : World) (hr0 : Kd.C (Kd.int .u8) w A0 c.length c) (hc0 : c.length ≤ c0) (hl : c.length ≤ 1048576) :
    Calls Try.prog 68 #[.slice A0 c.length c0] w fun e w' => ∃ g : Nat, e = .returned (.pointer (some ⟨g, 0, none⟩)) ∧ Cur w w' g c ∧ Below w.heap.size w w' := by
  obtain ⟨h', e⟩ := spec_l1New_l0 c hl 4000 4001 (wrap64 (71933 + (c.length : Int))) 0 (by omega) (by omega) (by omega)
  refine (spec_l1New.calls 4001 A0 c0 c c 0 h' w w (Below.refl _ _) hr0 hc0 e).mono ?_
  rintro e w' ⟨g, he, hI, hB, _⟩
  exact ⟨g, he, ⟨0, h', hI, by omega, by omega⟩, hB⟩
section
variable {w0 w : World} {g : Nat} {c : List Int}
theorem spec_l1Below.e (n : Int) (hI : Cur w0 w g c) (hB : Below w0.heap.size w0 w) (hc : c.length ≤ 1048576) (hn : n ≤ 2147483648) :
    Calls Try.prog 72 #[.pointer (some ⟨g, 0, none⟩), .int .i64 n] w fun e w' => ∃ r : Int, e = .returned (.int .i64 r) ∧ (0 ≤ r ∧ (0 < n → r < n) ∧ (n ≤ 0 → r = 0)) ∧ Drew w0 w w' g c := by
  obtain ⟨i, h, hI, h0, h1⟩ := hI
  obtain ⟨r, j, h', e, hr, hj0, hj1⟩ := l1Below_is c i h n h0 h1 hc hn
  refine (spec_l1Below.calls g c i h n r j h' w0 w hI hB e).mono ?_
  rintro e w' ⟨he, hI', hB', hK⟩
  exact ⟨r, he, hr, ⟨⟨j, h', hI', hj0, hj1⟩, hB', hK⟩⟩
theorem spec_l1Once.e (n : Int) (hI : Cur w0 w g c) (hB : Below w0.heap.size w0 w) (hc : c.length ≤ 1048576) (hn : n ≤ 2147483648) :
    Calls Try.prog 128 #[.pointer (some ⟨g, 0, none⟩), .int .i64 n] w fun e w' => ∃ r : Bool, e = .returned (.bool r) ∧ Drew w0 w w' g c := by
  obtain ⟨i, h, hI, h0, h1⟩ := hI
  obtain ⟨r, j, h', e, hr, hj0, hj1⟩ := l1Below_is c i h n h0 h1 hc hn
  refine (spec_l1Once.calls g c i h n (r == 0) j h' w0 w hI hB (by unfold spec_l1Once.f; rw [e]; rfl)).mono ?_
  rintro e w' ⟨he, hI', hB', hK⟩
  exact ⟨_, he, ⟨⟨j, h', hI', hj0, hj1⟩, hB', hK⟩⟩
theorem spec_l1Pick.e (A1 : Option Addr) (c1 : Nat) (l1 : List ByteArray) (hI : Cur w0 w g c) (hB : Below w0.heap.size w0 w) (hc : c.length ≤ 1048576) (hr1 : Kd.C Kd.string w A1 l1.length l1) (hc1 : l1.length ≤ c1) (hf1 : ∀ ad, A1 = some ad → 0 < l1.length → ad.block ≠ g) (hl : 0 < l1.length) (hl2 : l1.length ≤ 1048576) :
    Calls Try.prog 132 #[.pointer (some ⟨g, 0, none⟩), .slice A1 l1.length c1] w fun e w' => ∃ r : ByteArray, e = .returned (.string r) ∧ r ∈ l1 ∧ Drew w0 w w' g c := by
  obtain ⟨i, h, hI, h0, h1⟩ := hI
  obtain ⟨r, j, h', e, ⟨hr0, hr1', _⟩, hj0, hj1⟩ := l1Below_is c i h (l1.length : Int) h0 h1 hc (by omega)
  have hr2 := hr1' (by omega)
  refine (spec_l1Pick.calls g c i h A1 c1 l1 (rdOf ByteArray.empty l1 r) j h' w0 w hI hB hr1 hc1 hf1 (by unfold spec_l1Pick.f; rw [e]; simp only [Option.bind_some]; rw [if_pos hr0, if_pos hr2])).mono ?_
  rintro e w' ⟨he, hI', hB', hK⟩
  exact ⟨_, he, by unfold rdOf; exact mem_at hr0 hr2, ⟨⟨j, h', hI', hj0, hj1⟩, hB', hK⟩⟩
theorem l1PickInt_is (c : List Int) (i h : Int) (l : List Int) (h0 : 0 ≤ i) (h1 : i ≤ (c.length : Int)) (hc : c.length ≤ 1048576) (hl : 0 < l.length) (hl2 : l.length ≤ 1048576) : ∃ r j h', spec_l1PickInt.f c i h l = some (r, j, h') ∧ r ∈ l ∧ 0 ≤ j ∧ j ≤ (c.length : Int) := by
  obtain ⟨r, j, h', e, ⟨hr0, hr1', _⟩, hj0, hj1⟩ := l1Below_is c i h (l.length : Int) h0 h1 hc (by omega)
  have hr2 := hr1' (by omega)
  exact ⟨rd l r, j, h', by unfold spec_l1PickInt.f; rw [e]; simp only [Option.bind_some]; rw [if_pos hr0, if_pos hr2], by unfold rd; exact mem_at hr0 hr2, hj0, hj1⟩
theorem spec_l1PickInt.e (A1 : Option Addr) (c1 : Nat) (l1 : List Int) (hI : Cur w0 w g c) (hB : Below w0.heap.size w0 w) (hc : c.length ≤ 1048576) (hr1 : Kd.C (Kd.int .i64) w A1 l1.length l1) (hc1 : l1.length ≤ c1) (hf1 : ∀ ad, A1 = some ad → 0 < l1.length → ad.block ≠ g) (hl : 0 < l1.length) (hl2 : l1.length ≤ 1048576) :
    Calls Try.prog 129 #[.pointer (some ⟨g, 0, none⟩), .slice A1 l1.length c1] w fun e w' => ∃ r : Int, e = .returned (.int .i64 r) ∧ r ∈ l1 ∧ Drew w0 w w' g c := by
  obtain ⟨i, h, hI, h0, h1⟩ := hI
  obtain ⟨r, j, h', e, hm, hj0, hj1⟩ := l1PickInt_is c i h l1 h0 h1 hc hl hl2
  refine (spec_l1PickInt.calls g c i h A1 c1 l1 r j h' w0 w hI hB hr1 hc1 hf1 e).mono ?_
  rintro e w' ⟨he, hI', hB', hK⟩
  exact ⟨_, he, hm, ⟨⟨j, h', hI', hj0, hj1⟩, hB', hK⟩⟩
theorem l1Spoil_is (c : List Int) (i h a : Int) (l : List Int) (h0 : 0 ≤ i) (h1 : i ≤ (c.length : Int)) (hc : c.length ≤ 1048576) (hl : 0 < l.length) (hl2 : l.length ≤ 1048576) : ∃ r j h', spec_l1Spoil.f c i h a l = some (r, j, h') ∧ (r = a ∨ r ∈ l) ∧ 0 ≤ j ∧ j ≤ (c.length : Int) := by
  obtain ⟨r, j, h', e, _, hj0, hj1⟩ := l1Below_is c i h 40 h0 h1 hc (by omega)
  unfold spec_l1Spoil.f spec_l1Once.f
  rw [e]
  simp only [Option.bind_some]
  by_cases q : (r == 0) = true
  · rw [if_pos q]
    obtain ⟨r2, j2, h2', e2, hm, hj⟩ := l1PickInt_is c j h' l hj0 hj1 hc hl hl2
    rw [e2]
    exact ⟨_, _, _, rfl, .inr hm, hj⟩
  · rw [if_neg q]
    exact ⟨_, _, _, rfl, .inl rfl, hj0, hj1⟩
theorem spec_l1Spoil.e (a1 : Int) (A2 : Option Addr) (c2 : Nat) (l2 : List Int) (hI : Cur w0 w g c) (hB : Below w0.heap.size w0 w) (hc : c.length ≤ 1048576) (hr2 : Kd.C (Kd.int .i64) w A2 l2.length l2) (hc2 : l2.length ≤ c2) (hf2 : ∀ ad, A2 = some ad → 0 < l2.length → ad.block ≠ g) (hl : 0 < l2.length) (hl2 : l2.length ≤ 1048576) :
    Calls Try.prog 73 #[.pointer (some ⟨g, 0, none⟩), .int .i64 a1, .slice A2 l2.length c2] w fun e w' => ∃ r : Int, e = .returned (.int .i64 r) ∧ (r = a1 ∨ r ∈ l2) ∧ Drew w0 w w' g c := by
  obtain ⟨i, h, hI, h0, h1⟩ := hI
  obtain ⟨r, j, h', e, hm, hj0, hj1⟩ := l1Spoil_is c i h a1 l2 h0 h1 hc hl hl2
  refine (spec_l1Spoil.calls g c i h a1 A2 c2 l2 r j h' w0 w hI hB hr2 hc2 hf2 e).mono ?_
  rintro e w' ⟨he, hI', hB', hK⟩
  exact ⟨_, he, hm, ⟨⟨j, h', hI', hj0, hj1⟩, hB', hK⟩⟩
theorem spec_l2BadDay.e (a1 : Int) (hI : Cur w0 w g c) (hB : Below w0.heap.size w0 w) (hc : c.length ≤ 1048576) :
    Calls Try.prog 74 #[.pointer (some ⟨g, 0, none⟩), .int .i64 a1] w fun e w' => ∃ r : Int, e = .returned (.int .i64 r) ∧ Drew w0 w w' g c := by
  obtain ⟨i, h, hI, h0, h1⟩ := hI
  obtain ⟨r, j, h', e, hm, hj0, hj1⟩ := l1Spoil_is c i h a1 [(-1), 40001, (-9223372036854775808)] h0 h1 hc (by simp) (by simp)
  refine (spec_l2BadDay.calls g c i h a1 r j h' w0 w hI hB (by unfold spec_l2BadDay.f; rw [e]; rfl)).mono ?_
  rintro e w' ⟨he, hI', hB', hK⟩
  exact ⟨_, he, ⟨⟨j, h', hI', hj0, hj1⟩, hB', hK⟩⟩
theorem spec_l1DrawName.e (hI : Cur w0 w g c) (hB : Below w0.heap.size w0 w) (hc : c.length ≤ 1048576) :
    Calls Try.prog 154 #[.pointer (some ⟨g, 0, none⟩)] w fun e w' => ∃ r : ByteArray, e = .returned (.string r) ∧ r.size ≤ 20 ∧ Drew w0 w w' g c := by
  obtain ⟨i, h, hI, h0, h1⟩ := hI
  obtain ⟨r, j, h', e, ⟨hr0, hr1', _⟩, hj0, hj1⟩ := l1Below_is c i h 15 h0 h1 hc (by omega)
  have hr2 := hr1' (by omega)
  have key : ∀ l : List ByteArray, l.length = 15 → (∀ x ∈ l, x.size ≤ 20) → ∃ s, s.size ≤ 20 ∧ spec_l1Pick.f c i h l = some (s, j, h') := by
    intro l hl hx
    refine ⟨rdOf ByteArray.empty l r, hx _ (by unfold rdOf; exact mem_at hr0 (by omega)), ?_⟩
    unfold spec_l1Pick.f
    rw [show ((l.length : Nat) : Int) = 15 by omega, e]
    simp only [Option.bind_some]
    rw [if_pos hr0, if_pos hr2]
  obtain ⟨s, hs, es⟩ := key [(⟨#[98, 97, 110, 107]⟩ : ByteArray), (⟨#[99, 97, 115, 104]⟩ : ByteArray), (⟨#[115, 97, 108, 101, 115]⟩ : ByteArray), (⟨#[115, 116, 111, 99, 107]⟩ : ByteArray), (⟨#[97]⟩ : ByteArray), (⟨#[98]⟩ : ByteArray), (⟨#[99, 45, 49]⟩ : ByteArray), (⟨#[100, 117, 101, 115]⟩ : ByteArray), (⟨#[116, 97, 120, 46, 100, 117, 101]⟩ : ByteArray), (⟨#[82, 50]⟩ : ByteArray), (⟨#[103, 111, 111, 100, 115]⟩ : ByteArray), (⟨#[119, 97, 103, 101, 115]⟩ : ByteArray), (⟨#[114, 101, 110, 116]⟩ : ByteArray), (⟨#[120, 95, 121]⟩ : ByteArray), (⟨#[112, 108, 97, 110, 116]⟩ : ByteArray)] rfl (by decide)
  refine (spec_l1DrawName.calls g c i h s j h' w0 w hI hB (by unfold spec_l1DrawName.f; rw [es]; rfl)).mono ?_
  rintro e w' ⟨he, hI', hB', hK⟩
  exact ⟨s, he, hs, ⟨⟨j, h', hI', hj0, hj1⟩, hB', hK⟩⟩
end
end Go.Proofs.Ytphmnkcfjgallaa.Q
namespace Go.Proofs.Ytphmnkcfjgallaa.Q
open Go.RowKit Go.Proofs.YtphmnkcfjgallaaW.PrintWords Go.Proofs.YtphmnkcfjgallaaW.PrintLast Go.Proofs.YtphmnkcfjgallaaW.PrintMore
attribute [local go_sem] max2_int min2_int max_two min_two max_three min_three max_four min_four   -- for this text's walks alone
set_option linter.unusedVariables false
set_option linter.unusedSimpArgs false
end Go.Proofs.Ytphmnkcfjgallaa.Q
namespace Go.Proofs.Ytphmnkcfjgallaa.Q
open Go.RowKit Go.Proofs.YtphmnkcfjgallaaW.PrintWords Go.Proofs.YtphmnkcfjgallaaW.PrintLast Go.Proofs.YtphmnkcfjgallaaW.PrintMore
set_option linter.unusedVariables false
set_option linter.unusedSimpArgs false
end Go.Proofs.Ytphmnkcfjgallaa.Q
namespace Go.Proofs.Ytphmnkcfjgallaa.Q
open Go.RowKit Go.Proofs.YtphmnkcfjgallaaW.PrintWords Go.Proofs.YtphmnkcfjgallaaW.PrintLast Go.Proofs.YtphmnkcfjgallaaW.PrintMore
attribute [local go_sem] max2_int min2_int max_two min_two max_three min_three max_four min_four   -- for this text's walks alone
set_option linter.unusedVariables false
set_option linter.unusedSimpArgs false
theorem ret_ii {a b a' b' : Int} (h : a = a') (h' : b = b') : Ending.returned (Value.tuple #[Value.int .i64 a, Value.int .i64 b]) = Ending.returned (Value.tuple #[Value.int .i64 a', Value.int .i64 b']) := by rw [h, h']
theorem amtV_b (a d c fr tt : Int) (l : List Ent) (h : ∀ e ∈ l, entFine e) : -6000000000000 * (l.length : Int) ≤ amtV a d c fr tt l ∧ amtV a d c fr tt l ≤ 6000000000000 * (l.length : Int) := by
  induction l with
  | nil => simp [amtV]
  | cons x l ih =>
    have h1 := ih (fun y hy => h y (List.mem_cons_of_mem _ hy))
    have h2 := h x List.mem_cons_self
    have h3 := amtL_b a d c x.f3 h2.2
    have h4 := h2.1
    simp only [amtV, List.length_cons]
    split <;> (push_cast; omega)
end Go.Proofs.Ytphmnkcfjgallaa.Q
namespace Go.Proofs.Ytphmnkcfjgallaa.Q
open Go.RowKit Go.Proofs.YtphmnkcfjgallaaW.PrintWords Go.Proofs.YtphmnkcfjgallaaW.PrintLast Go.Proofs.YtphmnkcfjgallaaW.PrintMore
attribute [local go_sem] max2_int min2_int max_two min_two max_three min_three max_four min_four   -- for this text's walks alone
set_option linter.unusedVariables false
set_option linter.unusedSimpArgs false
end Go.Proofs.Ytphmnkcfjgallaa.Q
namespace Go.Proofs.Ytphmnkcfjgallaa.Q
open Go.RowKit Go.Proofs.YtphmnkcfjgallaaW.PrintWords Go.Proofs.YtphmnkcfjgallaaW.PrintLast Go.Proofs.YtphmnkcfjgallaaW.PrintMore
set_option linter.unusedVariables false
set_option linter.unusedSimpArgs false
theorem wr1 {a : Int} (h0 : 0 ≤ a) (h1 : a ≤ 4611686018427387904) : wrap64 (a + 1) = a + 1 := by unfold wrap64; omega
end Go.Proofs.Ytphmnkcfjgallaa.Q
namespace Go.Proofs.Ytphmnkcfjgallaa.Q
open Go.RowKit Go.Proofs.YtphmnkcfjgallaaW.PrintWords Go.Proofs.YtphmnkcfjgallaaW.PrintLast Go.Proofs.YtphmnkcfjgallaaW.PrintMore
attribute [local go_sem] max2_int min2_int max_two min_two max_three min_three max_four min_four   -- for this text's walks alone
set_option linter.unusedVariables false
set_option linter.unusedSimpArgs false
theorem infoEntry : (Try.prog.info? 34).map (fun i => (i.zero, i.size, i.bytes)) = some (some (.agg #[(.int .i64 0), (.int .i64 0), (.string ⟨#[]⟩), (.slice none 0 0)]), 4, 56) := by kernel_rfl
end Go.Proofs.Ytphmnkcfjgallaa.Q
namespace Go.Proofs.Ytphmnkcfjgallaa.Q
open Go.RowKit Go.Proofs.YtphmnkcfjgallaaW.PrintWords Go.Proofs.YtphmnkcfjgallaaW.PrintLast Go.Proofs.YtphmnkcfjgallaaW.PrintMore
attribute [local go_sem] max2_int min2_int max_two min_two max_three min_three max_four min_four   -- for this text's walks alone
set_option linter.unusedVariables false
set_option linter.unusedSimpArgs false
theorem impl_entryIn.key : WideMaps.ArrKey Try.prog 165 3 2 := ⟨Try.underlying165, by kernel_rfl, by kernel_rfl, by kernel_rfl⟩
noncomputable def pairK : HMap.KeyK Try.prog 165 (Int × Int) := HMap.pairKey impl_entryIn.key Try.underlying3 ⟨_, rfl⟩
theorem textUpto_step {s : ByteArray} {i : Int} (h0 : 0 ≤ i) (h : textUpto s i) (hb : 32 ≤ bt s i) : textUpto s (i + 1) := by
  intro j hj0 hj1
  by_cases e : j = i
  · subst e; exact hb
  · exact h j hj0 (by omega)
theorem take_snoc {l : List Lin} {i : Int} (h0 : 0 ≤ i) (h1 : i < (l.length : Int)) : l.take (i + 1).toNat = l.take i.toNat ++ [rd_T112 l i] := by
  rw [show (i + 1).toNat = i.toNat + 1 by omega, List.take_add_one]
  unfold rd_T112
  rw [List.getD_eq_getElem?_getD, List.getElem?_eq_getElem (by omega)]
  rfl
structure EntInv (chart : List Acc) (dims curs : Int) (c0 : Nat) (A0 : Option Addr) (e : Ent) (A3 : Option Addr) (c3 : Nat) (w wr : World) (i : Int) : Prop where
  map : HMap.MapIs Try.prog 165 3 pairK wr (w.heap.size + 2) (2 * i.toNat) (sumsOf (e.f3.take i.toNat))
  ok : ∀ x ∈ e.f3.take i.toNat, lineP chart dims curs x
  bel : Below w.heap.size w wr
  fr : wr.heap[w.heap.size]? = some (.cells #[.slice A0 chart.length c0, .int .i64 dims, .int .i64 curs] 26 (0, 0))
  en : wr.heap[w.heap.size + 1]? = some (.cells #[.int .i64 e.f0, .int .i64 e.f1, .string e.f2, .slice A3 e.f3.length c3] 34 (0, 0))
theorem ent_start (l0 : List Acc) (dims curs : Int) (c0 : Nat) (A0 : Option Addr) (e : Ent) (A3 : Option Addr) (c3 : Nat) (w : World) : EntInv l0 dims curs c0 A0 e A3 c3 w (((w.alloc (.cells #[.slice A0 l0.length c0, .int .i64 dims, .int .i64 curs] 26)).alloc (.cells #[.int .i64 e.f0, .int .i64 e.f1, .string e.f2, .slice A3 e.f3.length c3] 34)).alloc (.map #[] 0)) 0 where
  map := by
    rw [show e.f3.take (0 : Int).toNat = [] from rfl, sums_nil, show w.heap.size + 2 = ((w.alloc (.cells #[.slice A0 l0.length c0, .int .i64 dims, .int .i64 curs] 26)).alloc (.cells #[.int .i64 e.f0, .int .i64 e.f1, .string e.f2, .slice A3 e.f3.length c3] 34)).heap.size by simp]
    exact HMap.MapIs.made _ _ _ _ _
  ok := fun x hx => by cases hx
  bel := below_alloc (below_two _ _ _) _
  fr := blk_alloc (blk_alloc (blk_new _ _) _) _
  en := by
    have h := blk_new (w.alloc (.cells #[.slice A0 l0.length c0, .int .i64 dims, .int .i64 curs] 26)) (.cells #[.int .i64 e.f0, .int .i64 e.f1, .string e.f2, .slice A3 e.f3.length c3] 34)
    rw [show (w.alloc (.cells #[.slice A0 l0.length c0, .int .i64 dims, .int .i64 curs] 26)).heap.size = w.heap.size + 1 by simp] at h
    exact blk_alloc h _
theorem sums_entry {W : World} {b n : Nat} {f : Int × Int → Option Int} {k1 k2 c d : Int} (h : HMap.MapIs Try.prog 165 3 pairK W b n f) (hn : n < maxLen) (h1 : (Lit.int .i64 k1).wf = true) (h2 : (Lit.int .i64 k2).wf = true) (hc : (f (k1, k2)).getD 0 = c) (hw : (Lit.int .i64 (c + d)).wf = true) :
    ∃ (st : Nat) (W1 W3 : World) (v0 : Value), (Instr.lookup 164 (.map (some b)) (.agg #[.int .i64 k1, .int .i64 k2]) false).run Try.prog W = .ok (.int .i64 c) W ∧
      (Instr.mapEntry 164 (.map (some b)) (.agg #[.int .i64 k1, .int .i64 k2])).run Try.prog W = .ok (.tuple #[v0, .int .i64 (st : Int)]) W1 ∧
      (Instr.lookup 164 (.map (some b)) (.agg #[.int .i64 k1, .int .i64 k2]) false).run Try.prog W1 = .ok (.int .i64 c) W1 ∧
      (Instr.entryStore 164 (.map (some b)) (.int .i64 (st : Int)) (.int .i64 (c + d))).run Try.prog W1 = .ok () W3 ∧
      HMap.MapIs Try.prog 165 3 pairK W3 b (n + 1) (HMap.upd f (k1, k2) (c + d)) ∧ W.grownBy W1 (some b) ∧ W.grownBy W3 (some b) := by
  obtain ⟨st, W1, v0, hent, hM1, hg1, hst⟩ := HMap.MapIs.entry (t := 164) impl_entryIn.key.law h Try.underlying164 Try.underlying3 zero3 hn (k1, k2) ⟨h1, h2⟩
  obtain ⟨W3, hr, hM3, hg3⟩ := hst W1 (c + d) rfl hw
  have l0 := (h.look (t := 164) Try.underlying164 Try.underlying3 zero3 (k1, k2) ⟨h1, h2⟩).1
  have l1 := (hM1.look (t := 164) Try.underlying164 Try.underlying3 zero3 (k1, k2) ⟨h1, h2⟩).1
  rw [hc] at l0
  rw [HMap.upd_same, hc] at l1
  exact ⟨st, W1, W3, v0, l0, hent, l1, hr, hM3, hg1, hg1.trans hg3⟩
def lineO (x : Lin) : Obj := .cells #[.int .i64 x.f0, .int .i64 x.f1, .int .i64 x.f2, .int .i64 x.f3, .int .i64 x.f4] 112 (0, 0)
theorem ent_round {chart : List Acc} {dims curs : Int} {c0 : Nat} {A0 : Option Addr} {e : Ent} {A3 : Option Addr} {c3 : Nat} {w wr : World} {j : Int} {x : Lin} (HI : EntInv chart dims curs c0 A0 e A3 c3 w wr j) (hj0 : 0 ≤ j) (hlt : j < (e.f3.length : Int)) (hx : lineP chart dims curs x) (hxe : rd_T112 e.f3 j = x) (hlen : e.f3.length ≤ 60) (hd : dims ≤ 20) (hc : curs ≤ 20) :
    ∃ (c d : Int) (st1 st2 : Nat) (W1 W3 W4 W6 : World) (v1 v2 : Value), (-6000000000000 ≤ c ∧ c ≤ 6000000000000) ∧ (-6000000000000 ≤ d ∧ d ≤ 6000000000000) ∧
      (Instr.lookup 164 (.map (some (w.heap.size + 1 + 1))) (.agg #[.int .i64 0, .int .i64 x.f2]) false).run Try.prog (wr.alloc (lineO x)).drew = .ok (.int .i64 c) (wr.alloc (lineO x)).drew ∧
      (Instr.mapEntry 164 (.map (some (w.heap.size + 1 + 1))) (.agg #[.int .i64 0, .int .i64 x.f2])).run Try.prog (wr.alloc (lineO x)).drew = .ok (.tuple #[v1, .int .i64 (st1 : Int)]) W1 ∧
      (Instr.lookup 164 (.map (some (w.heap.size + 1 + 1))) (.agg #[.int .i64 0, .int .i64 x.f2]) false).run Try.prog W1 = .ok (.int .i64 c) W1 ∧
      (Instr.entryStore 164 (.map (some (w.heap.size + 1 + 1))) (.int .i64 (st1 : Int)) (.int .i64 (c + x.f3))).run Try.prog W1 = .ok () W3 ∧
      (Instr.lookup 164 (.map (some (w.heap.size + 1 + 1))) (.agg #[.int .i64 1, .int .i64 x.f1]) false).run Try.prog W3.drew = .ok (.int .i64 d) W3.drew ∧
      (Instr.mapEntry 164 (.map (some (w.heap.size + 1 + 1))) (.agg #[.int .i64 1, .int .i64 x.f1])).run Try.prog W3.drew = .ok (.tuple #[v2, .int .i64 (st2 : Int)]) W4 ∧
      (Instr.lookup 164 (.map (some (w.heap.size + 1 + 1))) (.agg #[.int .i64 1, .int .i64 x.f1]) false).run Try.prog W4 = .ok (.int .i64 d) W4 ∧
      (Instr.entryStore 164 (.map (some (w.heap.size + 1 + 1))) (.int .i64 (st2 : Int)) (.int .i64 (d + x.f4))).run Try.prog W4 = .ok () W6 ∧
      W1.heap[wr.heap.size]? = some (lineO x) ∧ W3.heap[wr.heap.size]? = some (lineO x) ∧ W4.heap[wr.heap.size]? = some (lineO x) ∧ EntInv chart dims curs c0 A0 e A3 c3 w W6 (j + 1) := by
  obtain ⟨hl, hdm, hcr, ham, hbs, hz⟩ := hx
  have hsm : smallLines (e.f3.take j.toNat) := fun y hy => ⟨(HI.ok y hy).2.2.2.1, (HI.ok y hy).2.2.2.2.1⟩
  have hlen' : ((e.f3.take j.toNat).length : Int) ≤ 60 := by rw [List.length_take]; omega
  have hcb := curSum_small hsm x.f2
  have hdb := dimSum_small hsm x.f1
  have hbel := below_alloc HI.bel (lineO x)
  have hm0 := (HI.map.alloc (lineO x)).drew
  have hgm : w.heap.size + 1 + 1 < wr.heap.size := HI.map.lt
  obtain ⟨st1, W1, W3, v1, a1, a2, a3, a4, a5, a6, a7⟩ := sums_entry (k1 := 0) (k2 := x.f2) (c := curSum (e.f3.take j.toNat) x.f2) (d := x.f3) hm0 (by unfold maxLen; omega) (by decide) (wf_of (by omega)) (sums_cur _ _) (wf_of (by omega))
  obtain ⟨st2, W4, W6, v2, b1, b2, b3, b4, b5, b6, b7⟩ := sums_entry (k1 := 1) (k2 := x.f1) (c := dimSum (e.f3.take j.toNat) x.f1) (d := x.f4) a5.drew (by unfold maxLen; omega) (by decide) (wf_of (by omega)) (by rw [HMap.upd_other _ _ (by simp), sums_dim]) (wf_of (by omega))
  have hn : some wr.heap.size ≠ some (w.heap.size + 2) := by simp; omega
  have hL := blk_drew (blk_new wr (lineO x))
  have h1 := blk_grown hL a6 hn
  have h3 := blk_grown hL a7 hn
  have h4 := blk_grown (blk_drew h3) b6 hn
  refine ⟨_, _, st1, st2, W1, W3, W4, W6, v1, v2, by omega, by omega, a1, a2, a3, a4, b1, b2, b3, b4, h1, h3, h4, ?_, ?_, ?_, ?_, ?_⟩
  · rw [sums_snoc] at b5
    rw [take_snoc hj0 hlt, hxe, show 2 * (j + 1).toNat = 2 * j.toNat + 1 + 1 by omega]
    exact b5
  · rw [take_snoc hj0 hlt, hxe]
    intro y hy
    rcases List.mem_append.1 hy with hy | hy
    · exact HI.ok y hy
    · obtain rfl : y = x := by simpa using hy
      exact ⟨hl, hdm, hcr, ham, hbs, hz⟩
  · exact Below.grown (Below.drew (Below.grown (Below.drew hbel) a7 hbel.size (fun i hi => by cases hi; exact Nat.le_add_right _ _))) b7 (Nat.le_trans hbel.size a7.size) (fun i hi => by cases hi; exact Nat.le_add_right _ _)
  · exact blk_grown (blk_drew (blk_grown (blk_drew (blk_alloc HI.fr _)) a7 (by simp))) b7 (by simp)
  · exact blk_grown (blk_drew (blk_grown (blk_drew (blk_alloc HI.en _)) a7 (by simp))) b7 (by simp)
def SeenZero (f : Int × Int → Option Int) (left : Int × Int → Prop) : Prop := ∀ x, pairK.ok x → ¬ left x → ∀ v, f x = some v → v = 0
theorem seen_start (f : Int × Int → Option Int) : SeenZero f (fun x => (f x).isSome = true) := fun x _ h v hv => absurd (show (f x).isSome = true by rw [hv]; rfl) h
theorem seen_step {f : Int × Int → Option Int} {left : Int × Int → Prop} {x : Int × Int} {c : Int} (h : SeenZero f left) (hx : f x = some c) (hc : c = 0) : SeenZero f (fun z => left z ∧ z ≠ x) := by
  intro z hz hl v hv
  by_cases e : z = x
  · subst e
    rw [hx] at hv
    cases hv
    exact hc
  · exact h z hz (fun q => hl ⟨q, e⟩) v hv
theorem seen_end {l : List Lin} {chart : List Acc} {dims curs : Int} {left : Int × Int → Prop} (hok : ∀ x ∈ l, lineP chart dims curs x) (hd : dims ≤ 20) (hc : curs ≤ 20) (h : SeenZero (sumsOf l) left) (hl : ∀ x, pairK.ok x → ¬ left x) : ∀ x ∈ l, curSum l x.f2 = 0 ∧ dimSum l x.f1 = 0 := by
  intro x hx
  obtain ⟨_, hdm, hcr, _⟩ := hok x hx
  constructor
  · have k : pairK.ok (0, x.f2) := ⟨wf_of (n := 0) (by omega), wf_of (n := x.f2) (by omega)⟩
    exact h (0, x.f2) k (hl _ k) _ (by unfold sumsOf; rw [if_pos rfl, if_pos ⟨x, hx, rfl⟩])
  · have k : pairK.ok (1, x.f1) := ⟨wf_of (n := 1) (by omega), wf_of (n := x.f1) (by omega)⟩
    exact h (1, x.f1) k (hl _ k) _ (by unfold sumsOf; rw [if_neg (by simp), if_pos rfl, if_pos ⟨x, hx, rfl⟩])
set_option maxHeartbeats 8000000 in
set_option maxRecDepth 100000 in
theorem impl_entryIn.short (A0 : Option Addr) (c0 : Nat) (l0 : List Acc) (dims curs : Int) (e : Ent) (A3 : Option Addr) (c3 : Nat) (w : World) (hs : e.f2.size ≤ maxLen) (hn : (e.f3.length : Int) ≤ 9223372036854775807)
    (h : ¬ (e.f2.size ≤ 40 ∧ 2 ≤ e.f3.length ∧ e.f3.length ≤ 60)) :
    Calls Try.prog 84 #[.agg #[.slice A0 l0.length c0, .int .i64 dims, .int .i64 curs], .agg #[.int .i64 e.f0, .int .i64 e.f1, .string e.f2, .slice A3 e.f3.length c3]] w fun x w' => x = .returned (.bool (entryB l0 dims curs e)) ∧ Below w.heap.size w w' := by
  have hno : ¬ entryP l0 dims curs e := fun q => h ⟨q.2.2.1, q.2.2.2.1⟩
  go_enter Try.func84, Try.ntmps84
  go_wp2_with fail
  refine (impl_isDay.to e.f0 _).mono ?_
  rintro x w' ⟨rfl, rfl⟩
  cases hday : inB e.f0 0 40000 with
  | false =>
    go_wp2_with fail
    go_ret
    exact ⟨ret_bool (entryB_not hno), below_two _ _ _⟩
  | true =>
    go_wp2_with fail
    refine (impl_between.to e.f1 _ _ _).mono ?_
    rintro x w' ⟨rfl, rfl⟩
    cases href : inB e.f1 0 1000 with
    | false =>
      go_wp2_with fail
      go_ret
      exact ⟨ret_bool (entryB_not hno), below_two _ _ _⟩
    | true =>
      by_cases h2 : e.f2.size ≤ 40
      · by_cases h3 : 2 ≤ e.f3.length
        · have h4 : ¬ (e.f3.length ≤ 60) := fun q => h ⟨h2, h3, q⟩
          go_wp2_with fail
          go_ret
          exact ⟨ret_bool (entryB_not hno), below_two _ _ _⟩
        · have h3' : (e.f3.length : Int) < 2 := by omega
          go_wp2_with fail
          go_ret
          exact ⟨ret_bool (entryB_not hno), below_two _ _ _⟩
      · have h2' : 40 < (e.f2.size : Int) := by omega
        go_wp2_with fail
        go_ret
        exact ⟨ret_bool (entryB_not hno), below_two _ _ _⟩
set_option maxHeartbeats 8000000 in
set_option maxRecDepth 100000 in
theorem impl_entryIn.to (A0 : Option Addr) (c0 : Nat) (l0 : List Acc) (dims curs : Int) (e : Ent) (A3 : Option Addr) (c3 : Nat) (w : World) (hr0 : Kd.C k131 w A0 l0.length l0) (hr3 : Kd.C k112 w A3 e.f3.length e.f3)
    (hd : 1 ≤ dims ∧ dims ≤ 20) (hc : 1 ≤ curs ∧ curs ≤ 20) (hs : e.f2.size ≤ maxLen) :
    Calls Try.prog 84 #[.agg #[.slice A0 l0.length c0, .int .i64 dims, .int .i64 curs], .agg #[.int .i64 e.f0, .int .i64 e.f1, .string e.f2, .slice A3 e.f3.length c3]] w fun x w' => x = .returned (.bool (entryB l0 dims curs e)) ∧ Below w.heap.size w w' := by
  have hn : (e.f3.length : Int) ≤ 9223372036854775807 := by have := hr3.2.1; omega
  have H0 := Aside0.mk hr0
  have H3 := Aside0.mk hr3
  clear hr0 hr3
  obtain ⟨hd0, hd1⟩ := hd
  obtain ⟨hc0, hc1⟩ := hc
  by_cases h2 : e.f2.size ≤ 40
  case neg => exact impl_entryIn.short A0 c0 l0 dims curs e A3 c3 w hs hn (fun q => h2 q.1)
  by_cases h3 : 2 ≤ e.f3.length
  case neg => exact impl_entryIn.short A0 c0 l0 dims curs e A3 c3 w hs hn (fun q => h3 q.2.1)
  by_cases h4 : e.f3.length ≤ 60
  case neg => exact impl_entryIn.short A0 c0 l0 dims curs e A3 c3 w hs hn (fun q => h4 q.2.2)
  go_enter Try.func84, Try.ntmps84
  go_wp2_with fail
  refine (impl_isDay.to e.f0 _).mono ?_
  rintro x w' ⟨rfl, rfl⟩
  cases hday : inB e.f0 0 40000 with
  | false =>
    go_wp2_with fail
    go_ret
    exact ⟨ret_bool (entryB_not (fun q => inB_false.1 hday q.1)), below_two _ _ _⟩
  | true =>
    go_wp2_with fail
    refine (impl_between.to e.f1 _ _ _).mono ?_
    rintro x w' ⟨rfl, rfl⟩
    cases href : inB e.f1 0 1000 with
    | false =>
      go_wp2_with fail
      go_ret
      exact ⟨ret_bool (entryB_not (fun q => inB_false.1 href q.2.1)), below_two _ _ _⟩
    | true =>
      have HDAY := Aside0.mk (inB_true.1 hday)
      have HREF := Aside0.mk (inB_true.1 href)
      clear hday href
      go_wp2_with fail
      go_loop [5] (fun v => ∃ i : Int, 0 ≤ i ∧ i ≤ (e.f2.size : Int) ∧ v = .int .i64 i ∧ Aside0 (textUpto e.f2 i)) (fun v => (e.f2.size - (intOf v).toNat))
      case atStart => exact ⟨0, by omega, by omega, rfl, ⟨fun j h0 h1 => by omega⟩⟩
      case round =>
        obtain ⟨i, hi0, hi1, rfl, HT⟩ := hrel
        by_cases hlt : i < (e.f2.size : Int)
        · have hx := bt_at e.f2 i
          by_cases hb : 32 ≤ bt e.f2 i
          · have HB := Aside0.mk (textUpto_step hi0 HT.out hb)
            go_wp2_with fail
            go_round
            case rel => exact ⟨i + 1, by omega, by omega, rfl, HB⟩
            case measure => simp [intOf]; omega
          · have HB := Aside0.mk (entryB_not (chart := l0) (dims := dims) (curs := curs) (fun q => hb (q.2.2.2.2.1 i hi0 hlt)))
            go_wp2_with fail
            go_ret
            exact ⟨ret_bool HB.out, below_two _ _ _⟩
        · have HTX := Aside0.mk (show textUpto e.f2 e.f2.size from fun j h0 h1 => HT.out j h0 (by omega))
          clear HT
          have HI := Aside0.mk (ent_start l0 dims curs c0 A0 e A3 c3 w)
          have hmm := @run_makeMap Try.prog
          go_wp2_with fail
          go_loopw [55] (fun v wr => ∃ i : Int, 0 ≤ i ∧ i ≤ (e.f3.length : Int) ∧ v = .int .i64 i ∧ Aside0 (EntInv l0 dims curs c0 A0 e A3 c3 w wr i)) (fun v _ => (e.f3.length - (intOf v).toNat))
          case atStart => exact ⟨0, by omega, by omega, rfl, HI⟩
          case round =>
            clear HI
            obtain ⟨j, hj0, hj1, rfl, HI⟩ := hrel
            by_cases hlt : j < (e.f3.length : Int)
            · obtain ⟨ad, e0, x0, x1, x2, x3, x4⟩ := at_T112 (Kd.C_below H3.out HI.out.bel) j hj0 hlt
              cases e0
              have hsz : w.heap.size < wr.heap.size := blk_lt HI.out.fr
              have hsz1 : w.heap.size + 1 < wr.heap.size := blk_lt HI.out.en
              have f0 := blk_cell HI.out.fr 0
              have f1 := blk_cell HI.out.fr 1
              have f2 := blk_cell HI.out.fr 2
              have HC := Aside0.mk (Kd.C_below H0.out (below_alloc HI.out.bel (.cells #[.int .i64 (rd_T112 e.f3 j).f0, .int .i64 (rd_T112 e.f3 j).f1, .int .i64 (rd_T112 e.f3 j).f2, .int .i64 (rd_T112 e.f3 j).f3, .int .i64 (rd_T112 e.f3 j).f4] 112)))
              have HBX := Aside0.mk (below_alloc HI.out.bel (.cells #[.int .i64 (rd_T112 e.f3 j).f0, .int .i64 (rd_T112 e.f3 j).f1, .int .i64 (rd_T112 e.f3 j).f2, .int .i64 (rd_T112 e.f3 j).f3, .int .i64 (rd_T112 e.f3 j).f4] 112))
              have HNO := Aside0.mk (fun (q : entryP l0 dims curs e) => all_at (z := z112) (p := lineP l0 dims curs) hj0 hlt q.2.2.2.2.2.1)
              go_wp2_with fail
              refine (impl_leafAt.to A0 c0 l0 _ _ HC.out).mono ?_
              rintro x w' ⟨rfl, rfl⟩
              cases hlf : leafB l0 (rd_T112 e.f3 j).f0 with
              | false =>
                go_wp2_with fail
                go_ret
                exact ⟨ret_bool (entryB_not (fun q => absurd (leafB_of (HNO.out q).1) (by rw [show leafB l0 (e.f3.getD j.toNat z112).f0 = false from hlf]; simp))), HBX.out⟩
              | true =>
                have HLF := Aside0.mk (leafB_true.1 hlf)
                clear hlf
                go_wp2_with fail
                refine (impl_between.to _ _ _ _).mono ?_
                rintro x w' ⟨rfl, rfl⟩
                cases hdm : inB (rd_T112 e.f3 j).f1 0 (dims - 1) with
                | false =>
                  go_wp2_with fail
                  go_ret
                  exact ⟨ret_bool (entryB_not (fun q => inB_false.1 hdm (HNO.out q).2.1)), HBX.out⟩
                | true =>
                  have HDM := Aside0.mk (inB_true.1 hdm)
                  clear hdm
                  go_wp2_with fail
                  refine (impl_between.to _ _ _ _).mono ?_
                  rintro x w' ⟨rfl, rfl⟩
                  cases hcr : inB (rd_T112 e.f3 j).f2 0 (curs - 1) with
                  | false =>
                    go_wp2_with fail
                    go_ret
                    exact ⟨ret_bool (entryB_not (fun q => inB_false.1 hcr (HNO.out q).2.2.1)), HBX.out⟩
                  | true =>
                    have HCR := Aside0.mk (inB_true.1 hcr)
                    clear hcr
                    go_wp2_with fail
                    refine (impl_amount.to _ _).mono ?_
                    rintro x w' ⟨rfl, rfl⟩
                    cases ham : inB (rd_T112 e.f3 j).f3 (-100000000000) 100000000000 with
                    | false =>
                      go_wp2_with fail
                      go_ret
                      exact ⟨ret_bool (entryB_not (fun q => inB_false.1 ham (HNO.out q).2.2.2.1)), HBX.out⟩
                    | true =>
                      have HAM := Aside0.mk (inB_true.1 ham)
                      clear ham
                      go_wp2_with fail
                      refine (impl_amount.to _ _).mono ?_
                      rintro x w' ⟨rfl, rfl⟩
                      cases hbs : inB (rd_T112 e.f3 j).f4 (-100000000000) 100000000000 with
                      | false =>
                        go_wp2_with fail
                        go_ret
                        exact ⟨ret_bool (entryB_not (fun q => inB_false.1 hbs (HNO.out q).2.2.2.2.1)), HBX.out⟩
                      | true =>
                        have HBS := Aside0.mk (inB_true.1 hbs)
                        clear hbs
                        have hway : (rd_T112 e.f3 j).f2 = 0 ∧ (rd_T112 e.f3 j).f3 ≠ (rd_T112 e.f3 j).f4 ∨ ((rd_T112 e.f3 j).f2 == 0) = false ∧ Aside0 (lineP l0 dims curs (rd_T112 e.f3 j)) ∨ (((rd_T112 e.f3 j).f2 == 0) = true ∧ ((rd_T112 e.f3 j).f3 != (rd_T112 e.f3 j).f4) = false) ∧ Aside0 (lineP l0 dims curs (rd_T112 e.f3 j)) := by
                          by_cases q : (rd_T112 e.f3 j).f2 = 0
                          · by_cases q2 : (rd_T112 e.f3 j).f3 = (rd_T112 e.f3 j).f4
                            · exact Or.inr (Or.inr ⟨⟨beq_iff_eq.2 q, by rw [q2]; exact bne_self_eq_false' _⟩, ⟨HLF.out, HDM.out, HCR.out, HAM.out, HBS.out, fun _ => q2⟩⟩)
                            · exact Or.inl ⟨q, q2⟩
                          · exact Or.inr (Or.inl ⟨beq_eq_false_iff_ne.2 q, ⟨HLF.out, HDM.out, HCR.out, HAM.out, HBS.out, fun q' => absurd q' q⟩⟩)
                        rcases hway with ⟨q1, q2⟩ | ⟨p1, HX⟩ | ⟨⟨p1, p2⟩, HX⟩
                        · have HN2 := Aside0.mk (show ¬ entryP l0 dims curs e from fun q => q2 ((HNO.out q).2.2.2.2.2 q1))
                          have p1 : ((rd_T112 e.f3 j).f2 == 0) = true := beq_iff_eq.2 q1
                          have p2 : ((rd_T112 e.f3 j).f3 != (rd_T112 e.f3 j).f4) = true := bne_iff_ne.2 q2
                          clear q1 q2
                          go_wp2_with fail
                          go_ret
                          exact ⟨ret_bool (entryB_not HN2.out), HBX.out⟩
                        all_goals (
                          obtain ⟨c, d, st1, st2, W1, W3, W4, W6, v1, v2, ⟨hc0', hc1'⟩, ⟨hd0', hd1'⟩, a1, a2, a3, a4, b1, b2, b3, b4, n1, n3, n4, HN⟩ := ent_round HI.out hj0 hlt HX.out rfl h4 hd1 hc1
                          have HN := Aside0.mk HN
                          have m2 := blk_cell n1 2
                          have m3 := blk_cell n1 3
                          have r1 := blk_cell n3 1
                          have r4 := blk_cell n3 4
                          have s1 := blk_cell n4 1
                          have s4 := blk_cell n4 4
                          obtain ⟨hx1, hx2⟩ := HAM.out
                          obtain ⟨hy1, hy2⟩ := HBS.out
                          clear n1 n3 n4 HX HI HNO HLF HDM HCR HC H0 H3
                          unfold lineO at a1 a2
                          go_wp2_with fail
                          go_region
                          go_wp2_with fail
                          go_region
                          go_wp2_with fail
                          go_roundw
                          case rel => exact ⟨j + 1, by omega, by omega, rfl, HN⟩
                          case measure => simp [intOf]; omega)
            · obtain ⟨em, eok, ebel⟩ : HMap.MapIs Try.prog 165 3 pairK wr (w.heap.size + 1 + 1) (2 * j.toNat) (sumsOf e.f3) ∧ (∀ x ∈ e.f3, lineP l0 dims curs x) ∧ Below w.heap.size w wr := by
                have hm := HI.out.map
                have ho := HI.out.ok
                rw [List.take_of_length_le (by omega)] at hm ho
                exact ⟨hm, ho, HI.out.bel⟩
              have HOK := Aside0.mk eok
              have HB := Aside0.mk ebel
              have hgm : w.heap.size + 1 + 1 < wr.heap.size := em.lt
              clear HI eok ebel
              go_wp2_with (at_range; refine HMap.wpList_range_seeks (K := pairK) (kt := 165) (et := 3) (b := w.heap.size + 1 + 1) (n := 2 * j.toNat) (f := sumsOf e.f3) rfl _ rfl Try.underlying164 rfl em ?_; intro w0 cnt0 hrg0 hg0 hs0)
              clear em
              have HB0 := Aside0.mk (Below.grown HB.out hg0 HB.out.size (fun i hi => by cases hi))
              clear HB hg0
              go_loopw [10] (fun _ ws => ∃ (left : Int × Int → Prop) (cnt : Nat), HMap.Seeks Try.prog 165 3 pairK ws (w.heap.size + 1 + 1) wr.heap.size (2 * j.toNat) (sumsOf e.f3) left cnt ∧ Aside0 (Below w.heap.size w ws) ∧ Aside0 (SeenZero (sumsOf e.f3) left)) (fun _ ws => ws.rangeLeft (w.heap.size + 1 + 1) wr.heap.size)
              case atStart => exact ⟨_, cnt0, hrg0, HB0, ⟨seen_start _⟩⟩
              case round =>
                clear hrg0 HB0
                obtain ⟨left, cnt, hsk, HBW, HZ⟩ := hrel
                go_wp2_with (at_next; refine HMap.wpList_next_seeks (K := pairK) (et := 3) (b := w.heap.size + 1 + 1) rfl _ rfl Try.underlying3 rfl hsk ?_ ?_)
                · intro hall
                  have HE := Aside0.mk (show entryP l0 dims curs e from ⟨HDAY.out, HREF.out, h2, ⟨h3, h4⟩, HTX.out, HOK.out, seen_end HOK.out hd1 hc1 HZ.out (fun p hp => hall p.1 p.2 hp)⟩)
                  clear hall hsk
                  go_wp2_with fail
                  go_ret
                  exact ⟨ret_bool (entryB_true.2 HE.out).symm, HBW.out⟩
                · intro xa xb c ws1 cnt1 hxk hlx hfx hsk1 hlt1 hg1 hs1 hen
                  have HB1 := Aside0.mk (Below.grown HBW.out hg1 HBW.out.size (fun i hi => by cases hi; omega))
                  have hm0 := hsk.left_eq
                  by_cases hz : c = 0
                  · subst hz
                    have HZ1 := Aside0.mk (seen_step HZ.out hfx rfl)
                    clear hsk hxk hlx hfx HZ HBW hg1 hs1
                    go_wp2_with fail
                    go_roundw
                    case rel => exact ⟨_, cnt1, hsk1, HB1, HZ1⟩
                    case measure => rw [hsk1.left_eq, hm0]; omega
                  · have HN := Aside0.mk (show ¬ entryP l0 dims curs e from fun q => hz (sums_zero.2 q.2.2.2.2.2.2 (xa, xb) c hfx))
                    have hzb : (c != 0) = true := bne_iff_ne.2 hz
                    clear hsk hxk hlx hfx HZ hg1 hs1 hz
                    go_wp2_with fail
                    go_ret
                    exact ⟨ret_bool (entryB_not HN.out), HB1.out⟩
end Go.Proofs.Ytphmnkcfjgallaa.Q
