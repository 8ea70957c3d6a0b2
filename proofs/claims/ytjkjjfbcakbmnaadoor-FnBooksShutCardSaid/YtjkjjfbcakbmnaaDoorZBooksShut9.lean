/- Parts of the proof: what functions of the program and of the reference answer.
   No condition. -/
import Derived.Test.YtjkjjfbcakbmnaaDoorZBooksShut1
import Derived.Test.YtjkjjfbcakbmnaaDoorZBooksShut5
import Derived.Test.YtjkjjfbcakbmnaaDoorZBooksShut3
import Derived.Test.YtjkjjfbcakbmnaaDoorZBooksShut6
namespace Go.Proofs.YtjkjjfbcakbmnaaDoor.Q
open Go.RowKit Go.Proofs.YtjkjjfbcakbmnaaDoorW.PrintWords Go.Proofs.YtjkjjfbcakbmnaaDoorW.PrintLast Go.Proofs.YtjkjjfbcakbmnaaDoorW.PrintMore
set_option linter.unusedVariables false
set_option linter.unusedSimpArgs false
theorem i64_and255 (n : Int) : Go.bits .and .i64 n 255 = n % 256 := by
  have h127 : (BitVec.ofInt 64 255).toNat = 2 ^ 8 - 1 := by decide
  have key : (BitVec.ofInt 64 n &&& BitVec.ofInt 64 255).toNat = (n % ((2 ^ 64 : Nat) : Int)).toNat % 2 ^ 8 := by
    rw [BitVec.toNat_and, BitVec.toNat_ofInt, h127, Nat.and_two_pow_sub_one_eq_mod]
  show IntKind.i64.wrap ((BitVec.ofInt 64 n &&& BitVec.ofInt 64 255).toNat : Nat) = n % 256
  rw [key, IntKind.wrap_i64]
  omega
theorem l1Byte_is (c : List Int) (i h : Int) (h0 : 0 ≤ i) (h1 : i ≤ (c.length : Int)) (hc : c.length ≤ 1048576) : ∃ r j h', spec_l1Byte.f c i h = some (r, j, h') ∧ (0 ≤ r ∧ r ≤ 255) ∧ 0 ≤ j ∧ j ≤ (c.length : Int) := by
  unfold spec_l1Byte.f
  by_cases q : i < (c.length : Int)
  · rw [if_pos q, if_pos h0]
    refine ⟨_, _, _, rfl, ?_, ?_⟩
    · rw [i64_and255]; omega
    · rw [show wrap64 (i + 1) = i + 1 by unfold wrap64; omega]; omega
  · rw [if_neg q]
    exact ⟨_, _, _, rfl, by rw [i64_and255]; omega, h0, h1⟩
theorem l1Below_is (c : List Int) (i h n : Int) (h0 : 0 ≤ i) (h1 : i ≤ (c.length : Int)) (hc : c.length ≤ 1048576) (hn : n ≤ 2147483648) : ∃ r j h', spec_l1Below.f c i h n = some (r, j, h') ∧ (0 ≤ r ∧ (0 < n → r < n) ∧ (n ≤ 0 → r = 0)) ∧ 0 ≤ j ∧ j ≤ (c.length : Int) := by
  unfold spec_l1Below.f
  by_cases q : n ≤ 0
  · rw [if_pos q]
    exact ⟨0, i, h, rfl, ⟨by omega, fun _ => by omega, fun _ => rfl⟩, h0, h1⟩
  · rw [if_neg q]
    by_cases q2 : n ≤ 256
    · rw [if_pos q2]
      obtain ⟨r, j, h', e, hr, hj⟩ := l1Byte_is c i h h0 h1 hc
      rw [e]
      simp only [Option.bind_some]
      rw [if_neg (by omega)]
      exact ⟨_, _, _, rfl, ⟨Int.tmod_nonneg _ hr.1, fun hp => Int.tmod_lt_of_pos _ hp, fun hp => absurd hp q⟩, hj⟩
    · rw [if_neg q2]
      obtain ⟨r, j, h', e, hr, hj⟩ := l1Byte_is c i h h0 h1 hc
      rw [e]
      simp only [Option.bind_some]
      obtain ⟨r1, j1, h1', e1, hr1, hj1⟩ := l1Byte_is c j h' hj.1 hj.2 hc
      rw [e1]
      simp only [Option.bind_some]
      obtain ⟨r2, j2, h2', e2, hr2, hj2⟩ := l1Byte_is c j1 h1' hj1.1 hj1.2 hc
      rw [e2]
      simp only [Option.bind_some]
      obtain ⟨r3, j3, h3', e3, hr3, hj3⟩ := l1Byte_is c j2 h2' hj2.1 hj2.2 hc
      rw [e3]
      simp only [Option.bind_some]
      rw [if_neg (by omega)]
      refine ⟨_, _, _, rfl, ⟨Int.tmod_nonneg _ ?_, fun hp => Int.tmod_lt_of_pos _ hp, fun hp => absurd hp q⟩, hj3⟩
      unfold wrap64
      omega
def Cur (w0 W : World) (g : Nat) (c : List Int) : Prop := ∃ i h, IsS69 w0 W g c i h ∧ 0 ≤ i ∧ i ≤ (c.length : Int)
structure Drew (w0 w w' : World) (g : Nat) (c : List Int) : Prop where
  cur : Cur w0 w' g c
  bel : Below w0.heap.size w0 w'
  keep : KeepBut w w' g none
theorem Cur.ge {w0 W : World} {g : Nat} {c : List Int} (h : Cur w0 W g c) : w0.heap.size ≤ g := by obtain ⟨_, _, h, _⟩ := h; exact h.ge
theorem Cur.lt {w0 W : World} {g : Nat} {c : List Int} (h : Cur w0 W g c) : g < W.heap.size := by obtain ⟨_, _, h, _⟩ := h; exact h.lt
theorem Cur.below {w0 W W1 : World} {g : Nat} {c : List Int} (h : Cur w0 W g c) (hw : Below W.heap.size W W1) : Cur w0 W1 g c := by obtain ⟨i, j, h, k⟩ := h; exact ⟨i, j, h.below hw, k⟩
theorem Cur.grown {w0 W W1 : World} {g : Nat} {c : List Int} {row : Option Nat} (h : Cur w0 W g c) (hw : W.grownBy W1 row) (hne : some g ≠ row) : Cur w0 W1 g c := by obtain ⟨i, j, h, k⟩ := h; exact ⟨i, j, h.grown hw hne, k⟩
theorem Cur.far {w0 W : World} {g : Nat} {c : List Int} {p : Addr} (h : Cur w0 W g c) (hne : g ≠ p.block) (u : Value) : Cur w0 (W.setCell p u) g c := by obtain ⟨i, j, h, k⟩ := h; exact ⟨i, j, h.far hne u, k⟩
theorem Cur.drewN {w0 W : World} {g : Nat} {c : List Int} (h : Cur w0 W g c) (m : Nat) : Cur w0 (W.drewN m) g c := by obtain ⟨i, j, h, k⟩ := h; exact ⟨i, j, h.drewN m, k⟩
theorem Cur.drew {w0 W : World} {g : Nat} {c : List Int} (h : Cur w0 W g c) : Cur w0 W.drew g c := by obtain ⟨i, j, h, k⟩ := h; exact ⟨i, j, h.drew, k⟩
theorem Cur.own_ne {w0 W : World} {g : Nat} {c : List Int} {α : Type} {d : Kd α} {e : Nat} {base : Nat} {ok : Nat → Prop} {v : Value} {xs : List α} (h : Cur w0 W g c) (ho : d.R e W base ok v xs) (ht : e ≠ 69) : some g ≠ v.ownBlock := by obtain ⟨i, j, h, k⟩ := h; exact h.own_ne ho ht
theorem Cur.apart {w0 W : World} {g : Nat} {c : List Int} {α : Type} {d : Kd α} {e : Nat} {base : Nat} {ok : Nat → Prop} {v : Value} {xs : List α} (h : Cur w0 W g c) (ho : d.R e W base ok v xs) (ht : ∀ q, q ∈ e :: d.E → q ≠ 69) : d.R e W base (fun k => ok k ∧ k ≠ g) v xs := by obtain ⟨i, j, h, k⟩ := h; exact h.apart ho ht
theorem Cur.apartS {w0 W : World} {g : Nat} {c : List Int} {α : Type} {d : Kd α} {e : Nat} {base : Nat} {ok : Nat → Prop} {v : Value} {xs : List α} (h : Cur w0 W g c) (ho : d.S e W base ok v xs) (ht : ∀ q, q ∈ e :: d.E → q ≠ 69) : d.S e W base (fun k => ok k ∧ k ≠ g) v xs := by obtain ⟨i, j, h, k⟩ := h; exact h.apartS ho ht
theorem KeepBut.thenK {w w1 w2 : World} {g : Nat} (h : KeepBut w w1 g none) (k : KeepBut w1 w2 g none) : KeepBut w w2 g none := h.trans k (.inl rfl)
theorem KeepBut.cell {w w1 : World} {g : Nat} (h : KeepBut w w1 g none) {p : Addr} {v : Value} (hc : w.cell? p = some v) (hne : p.block ≠ g) : w1.cell? p = some v :=
  (World.cell?_of_block (h.2 p.block (World.block_lt_of_cell? w p hc) hne (by simp))).trans hc
theorem spec_l1New_l0 (c : List Int) (hc : c.length ≤ 1048576) : ∀ (n k : Nat) (h i : Int), 0 ≤ i → 4000 ≤ i + n → n < k → ∃ h', spec_l1New.l0 k c h i = some (c, 0, h') := by
  intro n
  induction n with
  | zero =>
    intro k h i h0 hi hk
    obtain ⟨k, rfl⟩ : ∃ j, k = j + 1 := ⟨k - 1, by omega⟩
    simp only [spec_l1New.l0]
    by_cases q : i < (c.length : Int)
    · rw [if_pos q, if_neg (by omega)]; exact ⟨_, rfl⟩
    · rw [if_neg q]; exact ⟨_, rfl⟩
  | succ n ih =>
    intro k h i h0 hi hk
    obtain ⟨k, rfl⟩ : ∃ j, k = j + 1 := ⟨k - 1, by omega⟩
    simp only [spec_l1New.l0]
    by_cases q : i < (c.length : Int)
    · rw [if_pos q]
      by_cases q2 : i < 4000
      · rw [if_pos q2, if_pos h0, show wrap64 (i + 1) = i + 1 by unfold wrap64; omega]
        exact ih k _ _ (by omega) (by omega) (by omega)
      · rw [if_neg q2]; exact ⟨_, rfl⟩
    · rw [if_neg q]; exact ⟨_, rfl⟩
theorem spec_l1New.e (A0 : Option Addr) (c0 : Nat) (c : List Int) (w : World) (hr0 : Kd.C (Kd.int .u8) w A0 c.length c) (hc0 : c.length ≤ c0) (hl : c.length ≤ 1048576) :
    Calls Tryd.prog 11 #[.slice A0 c.length c0] w fun e w' => ∃ g : Nat, e = .returned (.pointer (some ⟨g, 0, none⟩)) ∧ Cur w w' g c ∧ Below w.heap.size w w' := by
  obtain ⟨h', e⟩ := spec_l1New_l0 c hl 4000 4001 (wrap64 (71933 + (c.length : Int))) 0 (by omega) (by omega) (by omega)
  refine (spec_l1New.calls 4001 A0 c0 c c 0 h' w w (Below.refl _ _) hr0 hc0 e).mono ?_
  rintro e w' ⟨g, he, hI, hB, _⟩
  exact ⟨g, he, ⟨0, h', hI, by omega, by omega⟩, hB⟩
section
variable {w0 w : World} {g : Nat} {c : List Int}
theorem spec_l1Below.e (n : Int) (hI : Cur w0 w g c) (hB : Below w0.heap.size w0 w) (hc : c.length ≤ 1048576) (hn : n ≤ 2147483648) :
    Calls Tryd.prog 14 #[.pointer (some ⟨g, 0, none⟩), .int .i64 n] w fun e w' => ∃ r : Int, e = .returned (.int .i64 r) ∧ (0 ≤ r ∧ (0 < n → r < n) ∧ (n ≤ 0 → r = 0)) ∧ Drew w0 w w' g c := by
  obtain ⟨i, h, hI, h0, h1⟩ := hI
  obtain ⟨r, j, h', e, hr, hj0, hj1⟩ := l1Below_is c i h n h0 h1 hc hn
  refine (spec_l1Below.calls g c i h n r j h' w0 w hI hB e).mono ?_
  rintro e w' ⟨he, hI', hB', hK⟩
  exact ⟨r, he, hr, ⟨⟨j, h', hI', hj0, hj1⟩, hB', hK⟩⟩
theorem spec_l1Once.e (n : Int) (hI : Cur w0 w g c) (hB : Below w0.heap.size w0 w) (hc : c.length ≤ 1048576) (hn : n ≤ 2147483648) :
    Calls Tryd.prog 32 #[.pointer (some ⟨g, 0, none⟩), .int .i64 n] w fun e w' => ∃ r : Bool, e = .returned (.bool r) ∧ Drew w0 w w' g c := by
  obtain ⟨i, h, hI, h0, h1⟩ := hI
  obtain ⟨r, j, h', e, hr, hj0, hj1⟩ := l1Below_is c i h n h0 h1 hc hn
  refine (spec_l1Once.calls g c i h n (r == 0) j h' w0 w hI hB (by unfold spec_l1Once.f; rw [e]; rfl)).mono ?_
  rintro e w' ⟨he, hI', hB', hK⟩
  exact ⟨_, he, ⟨⟨j, h', hI', hj0, hj1⟩, hB', hK⟩⟩
theorem spec_l1Pick.e (A1 : Option Addr) (c1 : Nat) (l1 : List ByteArray) (hI : Cur w0 w g c) (hB : Below w0.heap.size w0 w) (hc : c.length ≤ 1048576) (hr1 : Kd.C Kd.string w A1 l1.length l1) (hc1 : l1.length ≤ c1) (hf1 : ∀ ad, A1 = some ad → 0 < l1.length → ad.block ≠ g) (hl : 0 < l1.length) (hl2 : l1.length ≤ 1048576) :
    Calls Tryd.prog 38 #[.pointer (some ⟨g, 0, none⟩), .slice A1 l1.length c1] w fun e w' => ∃ r : ByteArray, e = .returned (.string r) ∧ r ∈ l1 ∧ Drew w0 w w' g c := by
  obtain ⟨i, h, hI, h0, h1⟩ := hI
  obtain ⟨r, j, h', e, ⟨hr0, hr1', _⟩, hj0, hj1⟩ := l1Below_is c i h (l1.length : Int) h0 h1 hc (by omega)
  have hr2 := hr1' (by omega)
  refine (spec_l1Pick.calls g c i h A1 c1 l1 (rdOf ByteArray.empty l1 r) j h' w0 w hI hB hr1 hc1 hf1 (by unfold spec_l1Pick.f; rw [e]; simp only [Option.bind_some]; rw [if_pos hr0, if_pos hr2])).mono ?_
  rintro e w' ⟨he, hI', hB', hK⟩
  exact ⟨_, he, by unfold rdOf; exact mem_at hr0 hr2, ⟨⟨j, h', hI', hj0, hj1⟩, hB', hK⟩⟩
theorem l1PickInt_is (c : List Int) (i h : Int) (l : List Int) (h0 : 0 ≤ i) (h1 : i ≤ (c.length : Int)) (hc : c.length ≤ 1048576) (hl : 0 < l.length) (hl2 : l.length ≤ 1048576) : ∃ r j h', spec_l1PickInt.f c i h l = some (r, j, h') ∧ r ∈ l ∧ 0 ≤ j ∧ j ≤ (c.length : Int) := by
  obtain ⟨r, j, h', e, ⟨hr0, hr1', _⟩, hj0, hj1⟩ := l1Below_is c i h (l.length : Int) h0 h1 hc (by omega)
  have hr2 := hr1' (by omega)
  exact ⟨rd l r, j, h', by unfold spec_l1PickInt.f; rw [e]; simp only [Option.bind_some]; rw [if_pos hr0, if_pos hr2], by unfold rd; exact mem_at hr0 hr2, hj0, hj1⟩
theorem spec_l1PickInt.e (A1 : Option Addr) (c1 : Nat) (l1 : List Int) (hI : Cur w0 w g c) (hB : Below w0.heap.size w0 w) (hc : c.length ≤ 1048576) (hr1 : Kd.C (Kd.int .i64) w A1 l1.length l1) (hc1 : l1.length ≤ c1) (hf1 : ∀ ad, A1 = some ad → 0 < l1.length → ad.block ≠ g) (hl : 0 < l1.length) (hl2 : l1.length ≤ 1048576) :
    Calls Tryd.prog 33 #[.pointer (some ⟨g, 0, none⟩), .slice A1 l1.length c1] w fun e w' => ∃ r : Int, e = .returned (.int .i64 r) ∧ r ∈ l1 ∧ Drew w0 w w' g c := by
  obtain ⟨i, h, hI, h0, h1⟩ := hI
  obtain ⟨r, j, h', e, hm, hj0, hj1⟩ := l1PickInt_is c i h l1 h0 h1 hc hl hl2
  refine (spec_l1PickInt.calls g c i h A1 c1 l1 r j h' w0 w hI hB hr1 hc1 hf1 e).mono ?_
  rintro e w' ⟨he, hI', hB', hK⟩
  exact ⟨_, he, hm, ⟨⟨j, h', hI', hj0, hj1⟩, hB', hK⟩⟩
theorem spec_l1DrawName.e (hI : Cur w0 w g c) (hB : Below w0.heap.size w0 w) (hc : c.length ≤ 1048576) :
    Calls Tryd.prog 70 #[.pointer (some ⟨g, 0, none⟩)] w fun e w' => ∃ r : ByteArray, e = .returned (.string r) ∧ r.size ≤ 20 ∧ Drew w0 w w' g c := by
  obtain ⟨i, h, hI, h0, h1⟩ := hI
  obtain ⟨r, j, h', e, ⟨hr0, hr1', _⟩, hj0, hj1⟩ := l1Below_is c i h 15 h0 h1 hc (by omega)
  have hr2 := hr1' (by omega)
  have key : ∀ l : List ByteArray, l.length = 15 → (∀ x ∈ l, x.size ≤ 20) → ∃ s, s.size ≤ 20 ∧ spec_l1Pick.f c i h l = some (s, j, h') := by
    intro l hl hx
    refine ⟨rdOf ByteArray.empty l r, hx _ (by unfold rdOf; exact mem_at hr0 (by omega)), ?_⟩
    unfold spec_l1Pick.f
    rw [show ((l.length : Nat) : Int) = 15 by omega, e]
    simp only [Option.bind_some]
    rw [if_pos hr0, if_pos hr2]
  obtain ⟨s, hs, es⟩ := key [(⟨#[98, 97, 110, 107]⟩ : ByteArray), (⟨#[99, 97, 115, 104]⟩ : ByteArray), (⟨#[115, 97, 108, 101, 115]⟩ : ByteArray), (⟨#[115, 116, 111, 99, 107]⟩ : ByteArray), (⟨#[97]⟩ : ByteArray), (⟨#[98]⟩ : ByteArray), (⟨#[99, 45, 49]⟩ : ByteArray), (⟨#[100, 117, 101, 115]⟩ : ByteArray), (⟨#[116, 97, 120, 46, 100, 117, 101]⟩ : ByteArray), (⟨#[82, 50]⟩ : ByteArray), (⟨#[103, 111, 111, 100, 115]⟩ : ByteArray), (⟨#[119, 97, 103, 101, 115]⟩ : ByteArray), (⟨#[114, 101, 110, 116]⟩ : ByteArray), (⟨#[120, 95, 121]⟩ : ByteArray), (⟨#[112, 108, 97, 110, 116]⟩ : ByteArray)] rfl (by decide)
  refine (spec_l1DrawName.calls g c i h s j h' w0 w hI hB (by unfold spec_l1DrawName.f; rw [es]; rfl)).mono ?_
  rintro e w' ⟨he, hI', hB', hK⟩
  exact ⟨s, he, hs, ⟨⟨j, h', hI', hj0, hj1⟩, hB', hK⟩⟩
end
end Go.Proofs.YtjkjjfbcakbmnaaDoor.Q
