/- Parts of the proof: what functions of the program and of the reference answer.
   No condition. -/
import Derived.Test.YtphmnkcfjgallaaZShut1
import Derived.Test.YtphmnkcfjgallaaZShut2
import Derived.Test.YtphmnkcfjgallaaZShut15
import Derived.Test.YtphmnkcfjgallaaZShut21
import Derived.Test.YtphmnkcfjgallaaZShut22
import Derived.Test.YtphmnkcfjgallaaZShut23
import Derived.Test.YtphmnkcfjgallaaZShut24
import Derived.Test.YtphmnkcfjgallaaZShut14
import Derived.Test.YtphmnkcfjgallaaZShut13
import Derived.Test.YtphmnkcfjgallaaZShut5
import Derived.Test.YtphmnkcfjgallaaZShut3
import Derived.Test.YtphmnkcfjgallaaZShut7
import Derived.Test.YtphmnkcfjgallaaZShut4
import Derived.Test.YtphmnkcfjgallaaZShut6
import Derived.Test.YtphmnkcfjgallaaZShut8
namespace Go.Proofs.Ytphmnkcfjgallaa.Q
open Go.RowKit Go.Proofs.YtphmnkcfjgallaaW.PrintWords Go.Proofs.YtphmnkcfjgallaaW.PrintLast Go.Proofs.YtphmnkcfjgallaaW.PrintMore
set_option linter.unusedVariables false
set_option linter.unusedSimpArgs false
theorem blk8 {W : World} {g t : Nat} {z0 z1 z2 z3 z4 z5 z6 z7 : Value} (h : W.heap[g]? = some (.cells #[z0, z1, z2, z3, z4, z5, z6, z7] t (0, 0))) (u0 u1 u2 u3 u4 u5 u6 u7 : Value) : ((((((((W.setCell ⟨g, 0, none⟩ u0).setCell ⟨g, 1, none⟩ u1).setCell ⟨g, 2, none⟩ u2).setCell ⟨g, 3, none⟩ u3).setCell ⟨g, 4, none⟩ u4).setCell ⟨g, 5, none⟩ u5).setCell ⟨g, 6, none⟩ u6).setCell ⟨g, 7, none⟩ u7).heap[g]? = some (.cells #[u0, u1, u2, u3, u4, u5, u6, u7] t (0, 0)) := by
  refine blk_put (cs := #[u0, u1, u2, u3, u4, u5, u6, z7]) ?_ 7 _ rfl
  refine blk_put (cs := #[u0, u1, u2, u3, u4, u5, z6, z7]) ?_ 6 _ rfl
  refine blk_put (cs := #[u0, u1, u2, u3, u4, z5, z6, z7]) ?_ 5 _ rfl
  refine blk_put (cs := #[u0, u1, u2, u3, z4, z5, z6, z7]) ?_ 4 _ rfl
  refine blk_put (cs := #[u0, u1, u2, z3, z4, z5, z6, z7]) ?_ 3 _ rfl
  refine blk_put (cs := #[u0, u1, z2, z3, z4, z5, z6, z7]) ?_ 2 _ rfl
  refine blk_put (cs := #[u0, z1, z2, z3, z4, z5, z6, z7]) ?_ 1 _ rfl
  refine blk_put (cs := #[z0, z1, z2, z3, z4, z5, z6, z7]) ?_ 0 _ rfl
  exact h
section
variable {α : Type} {dd : Kd α} {e base g : Nat} {W w : World} {ok : Nat → Prop} {v : Value} {xs : List α}
theorem R_set8 (h : dd.R e W base ok v xs) (hok : ∀ k, ok k → k ≠ g) (u0 u1 u2 u3 u4 u5 u6 u7 : Value) : dd.R e ((((((((W.setCell ⟨g, 0, none⟩ u0).setCell ⟨g, 1, none⟩ u1).setCell ⟨g, 2, none⟩ u2).setCell ⟨g, 3, none⟩ u3).setCell ⟨g, 4, none⟩ u4).setCell ⟨g, 5, none⟩ u5).setCell ⟨g, 6, none⟩ u6).setCell ⟨g, 7, none⟩ u7) base ok v xs := by
  refine Kd.R_far ?_ hok _
  refine Kd.R_far ?_ hok _
  refine Kd.R_far ?_ hok _
  refine Kd.R_far ?_ hok _
  refine Kd.R_far ?_ hok _
  refine Kd.R_far ?_ hok _
  refine Kd.R_far ?_ hok _
  refine Kd.R_far ?_ hok _
  exact h
theorem S_set8 (h : Kd.S dd e W base ok v xs) (hok : ∀ k, ok k → k ≠ g) (u0 u1 u2 u3 u4 u5 u6 u7 : Value) : Kd.S dd e ((((((((W.setCell ⟨g, 0, none⟩ u0).setCell ⟨g, 1, none⟩ u1).setCell ⟨g, 2, none⟩ u2).setCell ⟨g, 3, none⟩ u3).setCell ⟨g, 4, none⟩ u4).setCell ⟨g, 5, none⟩ u5).setCell ⟨g, 6, none⟩ u6).setCell ⟨g, 7, none⟩ u7) base ok v xs := by
  refine Kd.S_far ?_ hok _
  refine Kd.S_far ?_ hok _
  refine Kd.S_far ?_ hok _
  refine Kd.S_far ?_ hok _
  refine Kd.S_far ?_ hok _
  refine Kd.S_far ?_ hok _
  refine Kd.S_far ?_ hok _
  refine Kd.S_far ?_ hok _
  exact h
theorem below_set8 (h : Below w.heap.size w W) (hg : w.heap.size ≤ g) (u0 u1 u2 u3 u4 u5 u6 u7 : Value) : Below w.heap.size w ((((((((W.setCell ⟨g, 0, none⟩ u0).setCell ⟨g, 1, none⟩ u1).setCell ⟨g, 2, none⟩ u2).setCell ⟨g, 3, none⟩ u3).setCell ⟨g, 4, none⟩ u4).setCell ⟨g, 5, none⟩ u5).setCell ⟨g, 6, none⟩ u6).setCell ⟨g, 7, none⟩ u7) := by
  repeat (refine below_set ?_ hg)
  exact h
end
structure Bk where
  m0 : List Acc
  d : Int
  c : Int
  m1 : List Ent
  h : Int
  m2 : List Per
  a : Int
  b : Int
def Bk.none : Bk := ⟨[], 0, 0, [], 0, [], 0, 0⟩
def Bk.small (x : Bk) : Prop := smallB x.m0 x.m1 x.m2
def Bk.val (x : Bk) (v0 v3 v5 : Value) : Value := .agg #[v0, .int .i64 x.d, .int .i64 x.c, v3, .int .i64 x.h, v5, .int .i64 x.a, .int .i64 x.b]
def Bk.own (x : Bk) (W : World) (base : Nat) (v0 v3 v5 : Value) : Prop := Kd.R k131 131 W base (fun _ => True) v0 x.m0 ∧ Kd.S k34 34 W base (fun _ => True) v3 x.m1 ∧ Kd.R k133 133 W base (fun _ => True) v5 x.m2
open Classical in
noncomputable def shutR (x : Bk) : Bk × Int :=
  if booksB x.m0 x.d x.c x.m1 x.h x.m2 x.a x.b = true then (if x.a = (x.m2.length : Int) then (x, 3) else ({ x with a := x.a + 1 }, 0)) else (Bk.none, 1)
theorem copyBooks_is {l0 : List Acc} {d c : Int} {l1 : List Ent} {h : Int} {l2 : List Per} {a b : Int} (hs : smallB l0 l1 l2) : impl_copyBooks.f l0 d c l1 h l2 a b = some (l0, d, c, l1, h, l2, a, b) := by
  obtain ⟨h0, ⟨h1, h2⟩, h3⟩ := hs
  unfold impl_copyBooks.f impl_copyLedger.f
  simp only [Option.bind_some, List.nil_append, List.length_nil, Nat.zero_add]
  rw [if_pos (by omega), if_pos (by omega), if_pos ⟨h1, h2⟩]
  rfl
theorem l5Entries_l0 (l : List Ent) (hl : l.length ≤ 1048576) (hs : ∀ x ∈ l, x.f3.length ≤ 1048576) : ∀ (n k : Nat) (i : Int), 0 ≤ i → i + n = (l.length : Int) → n < k → spec_l5Entries.l0 k l (l.take i.toNat) i = some l := by
  intro n
  induction n with
  | zero =>
    intro k i h0 hi hk
    obtain ⟨k, rfl⟩ : ∃ j, k = j + 1 := ⟨k - 1, by omega⟩
    simp only [spec_l5Entries.l0]
    rw [if_neg (by omega), List.take_of_length_le (by omega)]
  | succ n ih =>
    intro k i h0 hi hk
    obtain ⟨k, rfl⟩ : ∃ j, k = j + 1 := ⟨k - 1, by omega⟩
    have hx : (rd_T34 l i).f3.length ≤ 1048576 := all_at (z := z34) (p := fun x => x.f3.length ≤ 1048576) h0 (by omega) hs
    have hlt : (l.take i.toNat).length = i.toNat := by rw [List.length_take]; omega
    have hst : l.take i.toNat ++ [rd_T34 l i] = l.take (i + 1).toNat := by
      rw [show (i + 1).toNat = i.toNat + 1 by omega, List.take_add_one, List.getElem?_eq_getElem (by omega)]
      unfold rd_T34
      rw [List.getD_eq_getElem?_getD, List.getElem?_eq_getElem (by omega)]
      rfl
    simp only [spec_l5Entries.l0, spec_l5Entry.f, Option.bind_some, List.nil_append, List.length_nil, Nat.zero_add]
    rw [if_pos (by omega), if_pos h0, if_pos (by omega)]
    simp only [Option.bind_some]
    rw [if_pos (by rw [hlt]; omega), wr1 h0 (by omega)]
    have := ih k (i + 1) (by omega) (by omega) (by omega)
    rw [← hst] at this
    exact this
theorem l6Books_is {l0 : List Acc} {d c : Int} {l1 : List Ent} {h : Int} {l2 : List Per} {a b : Int} (hs : smallB l0 l1 l2) (k : Nat) (hk : l1.length < k) : spec_l6Books.f k l0 d c l1 h l2 a b = some (l0, d, c, l1, h, l2, a, b) := by
  obtain ⟨h0, ⟨h1, h2⟩, h3⟩ := hs
  have he := l5Entries_l0 l1 h1 h2 l1.length k 0 (by omega) (by omega) hk
  unfold spec_l6Books.f spec_l5Ledger.f spec_l5Entries.f
  simp only [Option.bind_some, List.nil_append, List.length_nil, Nat.zero_add]
  rw [if_pos (by omega), show spec_l5Entries.l0 k l1 [] 0 = some l1 from he]
  simp only [Option.bind_some]
  rw [if_pos (by omega)]
set_option maxHeartbeats 16000000 in
set_option maxRecDepth 100000 in
theorem impl_Shut.to (A0 : Option Addr) (c0 : Nat) (l0 : List Acc) (d c : Int) (A1 : Option Addr) (c1 : Nat) (l1 : List Ent) (h : Int) (A2 : Option Addr) (c2 : Nat) (l2 : List Per) (a b : Int) (w : World) (hr0 : Kd.C k131 w A0 l0.length l0) (hc0 : l0.length ≤ c0) (hs : ∀ x ∈ l0, x.f0.size ≤ maxLen) (hr1 : Kd.C k34 w A1 l1.length l1) (hc1 : l1.length ≤ c1) (hm : ∀ e ∈ l1, e.f2.size ≤ maxLen) (hr2 : Kd.C k133 w A2 l2.length l2) (hc2 : l2.length ≤ c2) (hsm : smallB l0 l1 l2) :
    Calls Try.prog 66 #[.agg #[.slice A0 l0.length c0, .int .i64 d, .int .i64 c, .slice A1 l1.length c1, .int .i64 h, .slice A2 l2.length c2, .int .i64 a, .int .i64 b]] w fun e w' => ∃ v0 v3 v5 : Value, e = .returned (.tuple #[(shutR ⟨l0, d, c, l1, h, l2, a, b⟩).1.val v0 v3 v5, .int .i64 (shutR ⟨l0, d, c, l1, h, l2, a, b⟩).2]) ∧ (shutR ⟨l0, d, c, l1, h, l2, a, b⟩).1.own w' w.heap.size v0 v3 v5 ∧ Below w.heap.size w w' := by
  have H0 := Aside0.mk hr0
  have H1 := Aside0.mk hr1
  have H2 := Aside0.mk hr2
  have C0 := Aside0.mk hc0
  have C1 := Aside0.mk hc1
  have C2 := Aside0.mk hc2
  have HS := Aside0.mk hs
  have HM := Aside0.mk hm
  have SM := Aside0.mk hsm
  have HB := Aside0.mk (below_two w (.cells #[.slice A0 l0.length c0, .int .i64 d, .int .i64 c, .slice A1 l1.length c1, .int .i64 h, .slice A2 l2.length c2, .int .i64 a, .int .i64 b] 50) (.cells #[.slice none 0 0, .int .i64 0, .int .i64 0, .slice none 0 0, .int .i64 0, .slice none 0 0, .int .i64 0, .int .i64 0] 50))
  clear hr0 hr1 hr2 hc0 hc1 hc2 hs hm hsm
  go_enter Try.func66, Try.ntmps66
  go_wp2_with fail
  refine (impl_BooksOk.to A0 c0 l0 d c A1 c1 l1 h A2 c2 l2 a b _ (Kd.C_below H0.out HB.out) HS.out (Kd.C_below H1.out HB.out) HM.out (Kd.C_below H2.out HB.out)).mono ?_
  rintro x w1 ⟨rfl, hb⟩
  have f0 : w1.cell? ⟨w.heap.size, 0, none⟩ = some (.slice A0 l0.length c0) := pw_cell_below hb (by go_simp)
  have f1 : w1.cell? ⟨w.heap.size, 1, none⟩ = some (.int .i64 d) := pw_cell_below hb (by go_simp)
  have f2 : w1.cell? ⟨w.heap.size, 2, none⟩ = some (.int .i64 c) := pw_cell_below hb (by go_simp)
  have f3 : w1.cell? ⟨w.heap.size, 3, none⟩ = some (.slice A1 l1.length c1) := pw_cell_below hb (by go_simp)
  have f4 : w1.cell? ⟨w.heap.size, 4, none⟩ = some (.int .i64 h) := pw_cell_below hb (by go_simp)
  have f5 : w1.cell? ⟨w.heap.size, 5, none⟩ = some (.slice A2 l2.length c2) := pw_cell_below hb (by go_simp)
  have f6 : w1.cell? ⟨w.heap.size, 6, none⟩ = some (.int .i64 a) := pw_cell_below hb (by go_simp)
  have f7 : w1.cell? ⟨w.heap.size, 7, none⟩ = some (.int .i64 b) := pw_cell_below hb (by go_simp)
  have g0 : w1.cell? ⟨w.heap.size + 1, 0, none⟩ = some (.slice none 0 0) := pw_cell_below hb (by go_simp)
  have g1 : w1.cell? ⟨w.heap.size + 1, 1, none⟩ = some (.int .i64 0) := pw_cell_below hb (by go_simp)
  have g2 : w1.cell? ⟨w.heap.size + 1, 2, none⟩ = some (.int .i64 0) := pw_cell_below hb (by go_simp)
  have g3 : w1.cell? ⟨w.heap.size + 1, 3, none⟩ = some (.slice none 0 0) := pw_cell_below hb (by go_simp)
  have g4 : w1.cell? ⟨w.heap.size + 1, 4, none⟩ = some (.int .i64 0) := pw_cell_below hb (by go_simp)
  have g5 : w1.cell? ⟨w.heap.size + 1, 5, none⟩ = some (.slice none 0 0) := pw_cell_below hb (by go_simp)
  have g6 : w1.cell? ⟨w.heap.size + 1, 6, none⟩ = some (.int .i64 0) := pw_cell_below hb (by go_simp)
  have g7 : w1.cell? ⟨w.heap.size + 1, 7, none⟩ = some (.int .i64 0) := pw_cell_below hb (by go_simp)
  have bk : w1.heap[w.heap.size + 1]? = some (.cells #[.slice none 0 0, .int .i64 0, .int .i64 0, .slice none 0 0, .int .i64 0, .slice none 0 0, .int .i64 0, .int .i64 0] 50 (0, 0)) := (hb.block (w.heap.size + 1) (by simp)).trans (by have := blk_new (w.alloc (.cells #[.slice A0 l0.length c0, .int .i64 d, .int .i64 c, .slice A1 l1.length c1, .int .i64 h, .slice A2 l2.length c2, .int .i64 a, .int .i64 b] 50)) (.cells #[.slice none 0 0, .int .i64 0, .int .i64 0, .slice none 0 0, .int .i64 0, .slice none 0 0, .int .i64 0, .int .i64 0] 50); simpa using this)
  have k0 : w1.frozen? ⟨w.heap.size + 1, 0, none⟩ = false := (hb.frozen (p := ⟨w.heap.size + 1, 0, none⟩) (by simp)).trans (by go_simp)
  have k1 : w1.frozen? ⟨w.heap.size + 1, 1, none⟩ = false := (hb.frozen (p := ⟨w.heap.size + 1, 1, none⟩) (by simp)).trans (by go_simp)
  have k2 : w1.frozen? ⟨w.heap.size + 1, 2, none⟩ = false := (hb.frozen (p := ⟨w.heap.size + 1, 2, none⟩) (by simp)).trans (by go_simp)
  have k3 : w1.frozen? ⟨w.heap.size + 1, 3, none⟩ = false := (hb.frozen (p := ⟨w.heap.size + 1, 3, none⟩) (by simp)).trans (by go_simp)
  have k4 : w1.frozen? ⟨w.heap.size + 1, 4, none⟩ = false := (hb.frozen (p := ⟨w.heap.size + 1, 4, none⟩) (by simp)).trans (by go_simp)
  have k5 : w1.frozen? ⟨w.heap.size + 1, 5, none⟩ = false := (hb.frozen (p := ⟨w.heap.size + 1, 5, none⟩) (by simp)).trans (by go_simp)
  have k6 : w1.frozen? ⟨w.heap.size + 1, 6, none⟩ = false := (hb.frozen (p := ⟨w.heap.size + 1, 6, none⟩) (by simp)).trans (by go_simp)
  have k7 : w1.frozen? ⟨w.heap.size + 1, 7, none⟩ = false := (hb.frozen (p := ⟨w.heap.size + 1, 7, none⟩) (by simp)).trans (by go_simp)
  replace HB := Aside0.mk (below_into (w := w) hb HB.out)
  have z1 : w.heap.size + 1 < w1.heap.size := World.block_lt_of_cell? _ _ g0
  clear hb
  cases q1 : booksB l0 d c l1 h l2 a b with
  | false =>
    have HN := Aside0.mk (show shutR ⟨l0, d, c, l1, h, l2, a, b⟩ = (Bk.none, 1) from if_neg (by simp only [q1]; simp))
    have BK0 := Aside0.mk bk
    clear q1 bk
    go_wp2_with fail
    rw [HN.out]
    refine bodyPost_ret (results_ct rfl _ _ (w.heap.size + 1) 50 #[.slice none 0 0, .int .i64 0, .int .i64 0, .slice none 0 0, .int .i64 0, .slice none 0 0, .int .i64 0, .int .i64 0] (0, 0) _ rfl (by exact blk8 BK0.out _ _ _ _ _ _ _ _) Try.underlying50 rfl (by kernel_rfl)) rfl ?_
    exact ⟨.slice none 0 0, .slice none 0 0, .slice none 0 0, rfl, ⟨Kd.R_nil _ _ _ _ _, Kd.S_nil _ _ _ _ _, Kd.R_nil _ _ _ _ _⟩, below_set8 HB.out (by omega) _ _ _ _ _ _ _ _⟩
  | true =>
    have q2 := (booksB_true.1 q1).2.2.1
    have q3 := (booksB_true.1 q1).2.1.1
    have HQ := Aside0.mk q1
    clear q1
    go_wp2_with fail
    refine (impl_copyBooks.calls A0 c0 l0 d c A1 c1 l1 h A2 c2 l2 a b l0 d c l1 h l2 a b _ (Kd.C_below H0.out HB.out) C0.out (Kd.C_below H1.out HB.out) C1.out (Kd.C_below H2.out HB.out) C2.out (copyBooks_is SM.out)).mono ?_
    rintro x w2 ⟨v0, v3, v5, rfl, hR0, hR3, hR5, hb⟩
    obtain ⟨B0, e0, rfl⟩ := Kd.R_slice hR0
    obtain ⟨B1, e1, rfl⟩ := Kd.S_slice hR3
    obtain ⟨B2, e2, rfl⟩ := Kd.R_slice hR5
    replace f0 := pw_cell_below hb f0
    replace f1 := pw_cell_below hb f1
    replace f2 := pw_cell_below hb f2
    replace f3 := pw_cell_below hb f3
    replace f4 := pw_cell_below hb f4
    replace f5 := pw_cell_below hb f5
    replace f6 := pw_cell_below hb f6
    replace f7 := pw_cell_below hb f7
    replace g0 := pw_cell_below hb g0
    replace k0 := (hb.frozen (p := ⟨w.heap.size + 1, 0, none⟩) z1).trans k0
    replace g1 := pw_cell_below hb g1
    replace k1 := (hb.frozen (p := ⟨w.heap.size + 1, 1, none⟩) z1).trans k1
    replace g2 := pw_cell_below hb g2
    replace k2 := (hb.frozen (p := ⟨w.heap.size + 1, 2, none⟩) z1).trans k2
    replace g3 := pw_cell_below hb g3
    replace k3 := (hb.frozen (p := ⟨w.heap.size + 1, 3, none⟩) z1).trans k3
    replace g4 := pw_cell_below hb g4
    replace k4 := (hb.frozen (p := ⟨w.heap.size + 1, 4, none⟩) z1).trans k4
    replace g5 := pw_cell_below hb g5
    replace k5 := (hb.frozen (p := ⟨w.heap.size + 1, 5, none⟩) z1).trans k5
    replace g6 := pw_cell_below hb g6
    replace k6 := (hb.frozen (p := ⟨w.heap.size + 1, 6, none⟩) z1).trans k6
    replace g7 := pw_cell_below hb g7
    replace k7 := (hb.frozen (p := ⟨w.heap.size + 1, 7, none⟩) z1).trans k7
    replace bk := (hb.block (w.heap.size + 1) z1).trans bk
    replace HB := Aside0.mk (below_into (w := w) hb HB.out)
    have z2 := hb.size
    have z3 : w.heap.size + 1 < w2.heap.size := by omega
    have z4 : w.heap.size < w2.heap.size := by omega
    have RR0 := Aside0.mk (Kd.R_lower (Kd.R_mono (ok' := fun k => w1.heap.size ≤ k) (Kd.R_bound hR0) (fun k hk => hk.2.1)) (show w.heap.size ≤ w1.heap.size by omega))
    have RR3 := Aside0.mk (Kd.S_lower (Kd.S_mono (ok' := fun k => w1.heap.size ≤ k) (Kd.S_bound hR3) (fun k hk => hk.2.1)) (show w.heap.size ≤ w1.heap.size by omega))
    have RR5 := Aside0.mk (Kd.R_lower (Kd.R_mono (ok' := fun k => w1.heap.size ≤ k) (Kd.R_bound hR5) (fun k hk => hk.2.1)) (show w.heap.size ≤ w1.heap.size by omega))
    have BK0 := Aside0.mk bk
    clear bk
    clear hb hR0 hR3 hR5
    by_cases hc : a = (l2.length : Int)
    case pos =>
      have HN := Aside0.mk (show shutR ⟨l0, d, c, l1, h, l2, a, b⟩ = (⟨l0, d, c, l1, h, l2, a, b⟩, 3) by unfold shutR; rw [if_pos HQ.out, if_pos hc])
      have cb : (a == (l2.length : Int)) = true := by simpa using hc
      have HC := Aside0.mk hc
      clear hc
      go_wp2_with fail
      rw [HN.out]
      refine bodyPost_ret (results_ct rfl _ _ (w.heap.size + 1) 50 #[.slice B0 l0.length e0, .int .i64 d, .int .i64 c, .slice B1 l1.length e1, .int .i64 h, .slice B2 l2.length e2, .int .i64 a, .int .i64 b] (0, 0) _ rfl (by exact blk_alloc (blk8 BK0.out _ _ _ _ _ _ _ _) _) Try.underlying50 rfl (by kernel_rfl)) rfl ?_
      exact ⟨_, _, _, rfl, ⟨Kd.R_mono (Kd.R_alloc (R_set8 RR0.out (fun k hk => by omega) _ _ _ _ _ _ _ _) _) (fun _ _ => trivial), Kd.S_mono (Kd.S_alloc (S_set8 RR3.out (fun k hk => by omega) _ _ _ _ _ _ _ _) _) (fun _ _ => trivial), Kd.R_mono (Kd.R_alloc (R_set8 RR5.out (fun k hk => by omega) _ _ _ _ _ _ _ _) _) (fun _ _ => trivial)⟩, below_alloc (below_set8 HB.out (by omega) _ _ _ _ _ _ _ _) _⟩
    case neg =>
      have HN := Aside0.mk (show shutR ⟨l0, d, c, l1, h, l2, a, b⟩ = (⟨l0, d, c, l1, h, l2, a + 1, b⟩, 0) by unfold shutR; rw [if_pos HQ.out, if_neg hc])
      have cb : (a == (l2.length : Int)) = false := by simpa using hc
      have HC := Aside0.mk hc
      clear hc
      go_wp2_with fail
      rw [HN.out]
      refine bodyPost_ret (results_ct rfl _ _ (w.heap.size + 1) 50 #[.slice B0 l0.length e0, .int .i64 d, .int .i64 c, .slice B1 l1.length e1, .int .i64 h, .slice B2 l2.length e2, .int .i64 (a + 1), .int .i64 b] (0, 0) _ rfl (by exact blk_alloc (blk8 BK0.out _ _ _ _ _ _ _ _) _) Try.underlying50 rfl (by kernel_rfl)) rfl ?_
      exact ⟨_, _, _, rfl, ⟨Kd.R_mono (Kd.R_alloc (R_set8 RR0.out (fun k hk => by omega) _ _ _ _ _ _ _ _) _) (fun _ _ => trivial), Kd.S_mono (Kd.S_alloc (S_set8 RR3.out (fun k hk => by omega) _ _ _ _ _ _ _ _) _) (fun _ _ => trivial), Kd.R_mono (Kd.R_alloc (R_set8 RR5.out (fun k hk => by omega) _ _ _ _ _ _ _ _) _) (fun _ _ => trivial)⟩, below_alloc (below_set8 HB.out (by omega) _ _ _ _ _ _ _ _) _⟩
set_option maxHeartbeats 16000000 in
set_option maxRecDepth 100000 in
theorem spec_Shut.to (A0 : Option Addr) (c0 : Nat) (l0 : List Acc) (d c : Int) (A1 : Option Addr) (c1 : Nat) (l1 : List Ent) (h : Int) (A2 : Option Addr) (c2 : Nat) (l2 : List Per) (a b : Int) (w : World) (hr0 : Kd.C k131 w A0 l0.length l0) (hc0 : l0.length ≤ c0) (hs : ∀ x ∈ l0, x.f0.size ≤ maxLen) (hr1 : Kd.C k34 w A1 l1.length l1) (hc1 : l1.length ≤ c1) (hm : ∀ e ∈ l1, e.f2.size ≤ maxLen) (hr2 : Kd.C k133 w A2 l2.length l2) (hc2 : l2.length ≤ c2) (hsm : smallB l0 l1 l2) :
    Calls Try.prog 65 #[.agg #[.slice A0 l0.length c0, .int .i64 d, .int .i64 c, .slice A1 l1.length c1, .int .i64 h, .slice A2 l2.length c2, .int .i64 a, .int .i64 b]] w fun e w' => ∃ v0 v3 v5 : Value, e = .returned (.tuple #[(shutR ⟨l0, d, c, l1, h, l2, a, b⟩).1.val v0 v3 v5, .int .i64 (shutR ⟨l0, d, c, l1, h, l2, a, b⟩).2]) ∧ (shutR ⟨l0, d, c, l1, h, l2, a, b⟩).1.own w' w.heap.size v0 v3 v5 ∧ Below w.heap.size w w' := by
  have H0 := Aside0.mk hr0
  have H1 := Aside0.mk hr1
  have H2 := Aside0.mk hr2
  have C0 := Aside0.mk hc0
  have C1 := Aside0.mk hc1
  have C2 := Aside0.mk hc2
  have HS := Aside0.mk hs
  have HM := Aside0.mk hm
  have SM := Aside0.mk hsm
  have HB := Aside0.mk (below_two w (.cells #[.slice A0 l0.length c0, .int .i64 d, .int .i64 c, .slice A1 l1.length c1, .int .i64 h, .slice A2 l2.length c2, .int .i64 a, .int .i64 b] 50) (.cells #[.slice none 0 0, .int .i64 0, .int .i64 0, .slice none 0 0, .int .i64 0, .slice none 0 0, .int .i64 0, .int .i64 0] 50))
  clear hr0 hr1 hr2 hc0 hc1 hc2 hs hm hsm
  go_enter Try.func65, Try.ntmps65
  go_wp2_with fail
  refine (spec_BooksOk.to A0 c0 l0 d c A1 c1 l1 h A2 c2 l2 a b _ (Kd.C_below H0.out HB.out) HS.out (Kd.C_below H1.out HB.out) C1.out HM.out (Kd.C_below H2.out HB.out)).mono ?_
  rintro x w1 ⟨rfl, hb⟩
  have f0 : w1.cell? ⟨w.heap.size, 0, none⟩ = some (.slice A0 l0.length c0) := pw_cell_below hb (by go_simp)
  have f1 : w1.cell? ⟨w.heap.size, 1, none⟩ = some (.int .i64 d) := pw_cell_below hb (by go_simp)
  have f2 : w1.cell? ⟨w.heap.size, 2, none⟩ = some (.int .i64 c) := pw_cell_below hb (by go_simp)
  have f3 : w1.cell? ⟨w.heap.size, 3, none⟩ = some (.slice A1 l1.length c1) := pw_cell_below hb (by go_simp)
  have f4 : w1.cell? ⟨w.heap.size, 4, none⟩ = some (.int .i64 h) := pw_cell_below hb (by go_simp)
  have f5 : w1.cell? ⟨w.heap.size, 5, none⟩ = some (.slice A2 l2.length c2) := pw_cell_below hb (by go_simp)
  have f6 : w1.cell? ⟨w.heap.size, 6, none⟩ = some (.int .i64 a) := pw_cell_below hb (by go_simp)
  have f7 : w1.cell? ⟨w.heap.size, 7, none⟩ = some (.int .i64 b) := pw_cell_below hb (by go_simp)
  have g0 : w1.cell? ⟨w.heap.size + 1, 0, none⟩ = some (.slice none 0 0) := pw_cell_below hb (by go_simp)
  have g1 : w1.cell? ⟨w.heap.size + 1, 1, none⟩ = some (.int .i64 0) := pw_cell_below hb (by go_simp)
  have g2 : w1.cell? ⟨w.heap.size + 1, 2, none⟩ = some (.int .i64 0) := pw_cell_below hb (by go_simp)
  have g3 : w1.cell? ⟨w.heap.size + 1, 3, none⟩ = some (.slice none 0 0) := pw_cell_below hb (by go_simp)
  have g4 : w1.cell? ⟨w.heap.size + 1, 4, none⟩ = some (.int .i64 0) := pw_cell_below hb (by go_simp)
  have g5 : w1.cell? ⟨w.heap.size + 1, 5, none⟩ = some (.slice none 0 0) := pw_cell_below hb (by go_simp)
  have g6 : w1.cell? ⟨w.heap.size + 1, 6, none⟩ = some (.int .i64 0) := pw_cell_below hb (by go_simp)
  have g7 : w1.cell? ⟨w.heap.size + 1, 7, none⟩ = some (.int .i64 0) := pw_cell_below hb (by go_simp)
  have bk : w1.heap[w.heap.size + 1]? = some (.cells #[.slice none 0 0, .int .i64 0, .int .i64 0, .slice none 0 0, .int .i64 0, .slice none 0 0, .int .i64 0, .int .i64 0] 50 (0, 0)) := (hb.block (w.heap.size + 1) (by simp)).trans (by have := blk_new (w.alloc (.cells #[.slice A0 l0.length c0, .int .i64 d, .int .i64 c, .slice A1 l1.length c1, .int .i64 h, .slice A2 l2.length c2, .int .i64 a, .int .i64 b] 50)) (.cells #[.slice none 0 0, .int .i64 0, .int .i64 0, .slice none 0 0, .int .i64 0, .slice none 0 0, .int .i64 0, .int .i64 0] 50); simpa using this)
  have k0 : w1.frozen? ⟨w.heap.size + 1, 0, none⟩ = false := (hb.frozen (p := ⟨w.heap.size + 1, 0, none⟩) (by simp)).trans (by go_simp)
  have k1 : w1.frozen? ⟨w.heap.size + 1, 1, none⟩ = false := (hb.frozen (p := ⟨w.heap.size + 1, 1, none⟩) (by simp)).trans (by go_simp)
  have k2 : w1.frozen? ⟨w.heap.size + 1, 2, none⟩ = false := (hb.frozen (p := ⟨w.heap.size + 1, 2, none⟩) (by simp)).trans (by go_simp)
  have k3 : w1.frozen? ⟨w.heap.size + 1, 3, none⟩ = false := (hb.frozen (p := ⟨w.heap.size + 1, 3, none⟩) (by simp)).trans (by go_simp)
  have k4 : w1.frozen? ⟨w.heap.size + 1, 4, none⟩ = false := (hb.frozen (p := ⟨w.heap.size + 1, 4, none⟩) (by simp)).trans (by go_simp)
  have k5 : w1.frozen? ⟨w.heap.size + 1, 5, none⟩ = false := (hb.frozen (p := ⟨w.heap.size + 1, 5, none⟩) (by simp)).trans (by go_simp)
  have k6 : w1.frozen? ⟨w.heap.size + 1, 6, none⟩ = false := (hb.frozen (p := ⟨w.heap.size + 1, 6, none⟩) (by simp)).trans (by go_simp)
  have k7 : w1.frozen? ⟨w.heap.size + 1, 7, none⟩ = false := (hb.frozen (p := ⟨w.heap.size + 1, 7, none⟩) (by simp)).trans (by go_simp)
  replace HB := Aside0.mk (below_into (w := w) hb HB.out)
  have z1 : w.heap.size + 1 < w1.heap.size := World.block_lt_of_cell? _ _ g0
  clear hb
  cases q1 : booksB l0 d c l1 h l2 a b with
  | false =>
    have HN := Aside0.mk (show shutR ⟨l0, d, c, l1, h, l2, a, b⟩ = (Bk.none, 1) from if_neg (by simp only [q1]; simp))
    have BK0 := Aside0.mk bk
    clear q1 bk
    go_wp2_with fail
    rw [HN.out]
    refine bodyPost_ret (results_ct rfl _ _ (w.heap.size + 1) 50 #[.slice none 0 0, .int .i64 0, .int .i64 0, .slice none 0 0, .int .i64 0, .slice none 0 0, .int .i64 0, .int .i64 0] (0, 0) _ rfl (by exact blk8 BK0.out _ _ _ _ _ _ _ _) Try.underlying50 rfl (by kernel_rfl)) rfl ?_
    exact ⟨.slice none 0 0, .slice none 0 0, .slice none 0 0, rfl, ⟨Kd.R_nil _ _ _ _ _, Kd.S_nil _ _ _ _ _, Kd.R_nil _ _ _ _ _⟩, below_set8 HB.out (by omega) _ _ _ _ _ _ _ _⟩
  | true =>
    have q2 := (booksB_true.1 q1).2.2.1
    have q3 := (booksB_true.1 q1).2.1.1
    have HQ := Aside0.mk q1
    clear q1
    go_wp2_with fail
    refine (spec_l6Books.calls (l1.length + 1) A0 c0 l0 d c A1 c1 l1 h A2 c2 l2 a b l0 d c l1 h l2 a b _ (Kd.C_below H0.out HB.out) C0.out (Kd.C_below H1.out HB.out) C1.out (Kd.C_below H2.out HB.out) C2.out (l6Books_is SM.out _ (Nat.lt_succ_self _))).mono ?_
    rintro x w2 ⟨v0, v3, v5, rfl, hR0, hR3, hR5, hb⟩
    obtain ⟨B0, e0, rfl⟩ := Kd.R_slice hR0
    obtain ⟨B1, e1, rfl⟩ := Kd.S_slice hR3
    obtain ⟨B2, e2, rfl⟩ := Kd.R_slice hR5
    replace f0 := pw_cell_below hb f0
    replace f1 := pw_cell_below hb f1
    replace f2 := pw_cell_below hb f2
    replace f3 := pw_cell_below hb f3
    replace f4 := pw_cell_below hb f4
    replace f5 := pw_cell_below hb f5
    replace f6 := pw_cell_below hb f6
    replace f7 := pw_cell_below hb f7
    replace g0 := pw_cell_below hb g0
    replace k0 := (hb.frozen (p := ⟨w.heap.size + 1, 0, none⟩) z1).trans k0
    replace g1 := pw_cell_below hb g1
    replace k1 := (hb.frozen (p := ⟨w.heap.size + 1, 1, none⟩) z1).trans k1
    replace g2 := pw_cell_below hb g2
    replace k2 := (hb.frozen (p := ⟨w.heap.size + 1, 2, none⟩) z1).trans k2
    replace g3 := pw_cell_below hb g3
    replace k3 := (hb.frozen (p := ⟨w.heap.size + 1, 3, none⟩) z1).trans k3
    replace g4 := pw_cell_below hb g4
    replace k4 := (hb.frozen (p := ⟨w.heap.size + 1, 4, none⟩) z1).trans k4
    replace g5 := pw_cell_below hb g5
    replace k5 := (hb.frozen (p := ⟨w.heap.size + 1, 5, none⟩) z1).trans k5
    replace g6 := pw_cell_below hb g6
    replace k6 := (hb.frozen (p := ⟨w.heap.size + 1, 6, none⟩) z1).trans k6
    replace g7 := pw_cell_below hb g7
    replace k7 := (hb.frozen (p := ⟨w.heap.size + 1, 7, none⟩) z1).trans k7
    replace bk := (hb.block (w.heap.size + 1) z1).trans bk
    replace HB := Aside0.mk (below_into (w := w) hb HB.out)
    have z2 := hb.size
    have z3 : w.heap.size + 1 < w2.heap.size := by omega
    have z4 : w.heap.size < w2.heap.size := by omega
    have RR0 := Aside0.mk (Kd.R_lower (Kd.R_mono (ok' := fun k => w1.heap.size ≤ k) (Kd.R_bound hR0) (fun k hk => hk.2.1)) (show w.heap.size ≤ w1.heap.size by omega))
    have RR3 := Aside0.mk (Kd.S_lower (Kd.S_mono (ok' := fun k => w1.heap.size ≤ k) (Kd.S_bound hR3) (fun k hk => hk.2.1)) (show w.heap.size ≤ w1.heap.size by omega))
    have RR5 := Aside0.mk (Kd.R_lower (Kd.R_mono (ok' := fun k => w1.heap.size ≤ k) (Kd.R_bound hR5) (fun k hk => hk.2.1)) (show w.heap.size ≤ w1.heap.size by omega))
    have BK0 := Aside0.mk bk
    clear bk
    clear hb hR0 hR3 hR5
    by_cases hc : a = (l2.length : Int)
    case pos =>
      have HN := Aside0.mk (show shutR ⟨l0, d, c, l1, h, l2, a, b⟩ = (⟨l0, d, c, l1, h, l2, a, b⟩, 3) by unfold shutR; rw [if_pos HQ.out, if_pos hc])
      have cb : (a == (l2.length : Int)) = true := by simpa using hc
      have HC := Aside0.mk hc
      clear hc
      go_wp2_with fail
      rw [HN.out]
      refine bodyPost_ret (results_ct rfl _ _ (w.heap.size + 1) 50 #[.slice B0 l0.length e0, .int .i64 d, .int .i64 c, .slice B1 l1.length e1, .int .i64 h, .slice B2 l2.length e2, .int .i64 a, .int .i64 b] (0, 0) _ rfl (by exact blk_alloc (blk8 BK0.out _ _ _ _ _ _ _ _) _) Try.underlying50 rfl (by kernel_rfl)) rfl ?_
      exact ⟨_, _, _, rfl, ⟨Kd.R_mono (Kd.R_alloc (R_set8 RR0.out (fun k hk => by omega) _ _ _ _ _ _ _ _) _) (fun _ _ => trivial), Kd.S_mono (Kd.S_alloc (S_set8 RR3.out (fun k hk => by omega) _ _ _ _ _ _ _ _) _) (fun _ _ => trivial), Kd.R_mono (Kd.R_alloc (R_set8 RR5.out (fun k hk => by omega) _ _ _ _ _ _ _ _) _) (fun _ _ => trivial)⟩, below_alloc (below_set8 HB.out (by omega) _ _ _ _ _ _ _ _) _⟩
    case neg =>
      have HN := Aside0.mk (show shutR ⟨l0, d, c, l1, h, l2, a, b⟩ = (⟨l0, d, c, l1, h, l2, a + 1, b⟩, 0) by unfold shutR; rw [if_pos HQ.out, if_neg hc])
      have cb : (a == (l2.length : Int)) = false := by simpa using hc
      have HC := Aside0.mk hc
      clear hc
      go_wp2_with fail
      rw [HN.out]
      refine bodyPost_ret (results_ct rfl _ _ (w.heap.size + 1) 50 #[.slice B0 l0.length e0, .int .i64 d, .int .i64 c, .slice B1 l1.length e1, .int .i64 h, .slice B2 l2.length e2, .int .i64 (a + 1), .int .i64 b] (0, 0) _ rfl (by exact blk_alloc (blk8 BK0.out _ _ _ _ _ _ _ _) _) Try.underlying50 rfl (by kernel_rfl)) rfl ?_
      exact ⟨_, _, _, rfl, ⟨Kd.R_mono (Kd.R_alloc (R_set8 RR0.out (fun k hk => by omega) _ _ _ _ _ _ _ _) _) (fun _ _ => trivial), Kd.S_mono (Kd.S_alloc (S_set8 RR3.out (fun k hk => by omega) _ _ _ _ _ _ _ _) _) (fun _ _ => trivial), Kd.R_mono (Kd.R_alloc (R_set8 RR5.out (fun k hk => by omega) _ _ _ _ _ _ _ _) _) (fun _ _ => trivial)⟩, below_alloc (below_set8 HB.out (by omega) _ _ _ _ _ _ _ _) _⟩
end Go.Proofs.Ytphmnkcfjgallaa.Q
namespace Go.Proofs.Ytphmnkcfjgallaa.Q
open Go.RowKit Go.Proofs.YtphmnkcfjgallaaW.PrintWords Go.Proofs.YtphmnkcfjgallaaW.PrintLast Go.Proofs.YtphmnkcfjgallaaW.PrintMore
set_option linter.unusedVariables false
set_option linter.unusedSimpArgs false
theorem fill_loop {α β : Type} (F : Nat → List α → List β → Int → Option (List β)) (cv : α → β) (z : α) (l : List α) (D : Nat)
    (hstep : ∀ k x i, D ≤ k → 0 ≤ i → i < (l.length : Int) → x.length = l.length → F (k + 1) l x i = F k l (x.set i.toNat (cv (l.getD i.toNat z))) (i + 1))
    (hend : ∀ k x i, (l.length : Int) ≤ i → F (k + 1) l x i = some x) :
    ∀ (n k : Nat) (x : List β) (i : Nat), i + n = l.length → n + D < k → x.length = l.length → x.take i = (l.map cv).take i → F k l x i = some (l.map cv)
  | 0, k, x, i, hi, hk, hx, ht => by
    obtain ⟨m, rfl⟩ : ∃ m, k = m + 1 := ⟨k - 1, by omega⟩
    rw [hend m x i (by omega)]
    rw [List.take_of_length_le (by omega), List.take_of_length_le (by simp; omega)] at ht
    rw [ht]
  | n + 1, k, x, i, hi, hk, hx, ht => by
    obtain ⟨m, rfl⟩ : ∃ m, k = m + 1 := ⟨k - 1, by omega⟩
    rw [hstep m x i (by omega) (by omega) (by omega) hx]
    refine fill_loop F cv z l D hstep hend n m _ (i + 1) (by omega) (by omega) (by simpa using hx) ?_
    have hxi : i < x.length := by omega
    have hli : i < l.length := by omega
    simp only [Int.toNat_natCast]
    rw [List.take_add_one, List.take_add_one, List.take_set, ht, List.getElem?_set_self (by omega), List.getElem?_map, List.getElem?_eq_getElem hli, List.getD_eq_getElem?_getD, List.getElem?_eq_getElem hli]
    rw [List.set_eq_of_length_le (by simp; omega)]
    simp
def cvAccount (x : S176) : S131 := ⟨x.f0, x.f1, x.f2⟩
def cvPeriod (x : S138) : S133 := ⟨x.f0, x.f1⟩
def cvLine (x : S188) : S112 := ⟨x.f0, x.f1, x.f2, x.f3, x.f4⟩
def cvEntry (x : S93) : S34 := ⟨x.f0, x.f1, x.f2, x.f3.map cvLine⟩
theorem laws_toAccountS_is (l : List S176) (k : Nat) (hl : l.length ≤ 1048576) (hk : l.length < k) : laws_toAccountS.f k l = some (l.map cvAccount) := by
  unfold laws_toAccountS.f
  rw [if_pos (by omega), if_pos (by omega)]
  exact fill_loop laws_toAccountS.l0 cvAccount z176 l 0 (fun k x i _ h0 h1 hx => by
    simp only [laws_toAccountS.l0]
    rw [if_pos h1, if_pos h0]
    simp only [laws_toAccount.f, Option.bind_some]
    rw [if_pos (by omega), show wrap64 (i + 1) = i + 1 by unfold wrap64; omega]
    rfl) (fun k x i h => by simp only [laws_toAccountS.l0]; rw [if_neg (by omega)]) l.length k _ 0 (by omega) (by omega) (by simp) (by simp)
theorem laws_toPeriodS_is (l : List S138) (k : Nat) (hl : l.length ≤ 1048576) (hk : l.length < k) : laws_toPeriodS.f k l = some (l.map cvPeriod) := by
  unfold laws_toPeriodS.f
  rw [if_pos (by omega), if_pos (by omega)]
  exact fill_loop laws_toPeriodS.l0 cvPeriod z138 l 0 (fun k x i _ h0 h1 hx => by
    simp only [laws_toPeriodS.l0]
    rw [if_pos h1, if_pos h0]
    simp only [laws_toPeriod.f, Option.bind_some]
    rw [if_pos (by omega), show wrap64 (i + 1) = i + 1 by unfold wrap64; omega]
    rfl) (fun k x i h => by simp only [laws_toPeriodS.l0]; rw [if_neg (by omega)]) l.length k _ 0 (by omega) (by omega) (by simp) (by simp)
theorem laws_toLineS_is (l : List S188) (k : Nat) (hl : l.length ≤ 1048576) (hk : l.length < k) : laws_toLineS.f k l = some (l.map cvLine) := by
  unfold laws_toLineS.f
  rw [if_pos (by omega), if_pos (by omega)]
  exact fill_loop laws_toLineS.l0 cvLine z188 l 0 (fun k x i _ h0 h1 hx => by
    simp only [laws_toLineS.l0]
    rw [if_pos h1, if_pos h0]
    simp only [laws_toLine.f, Option.bind_some]
    rw [if_pos (by omega), show wrap64 (i + 1) = i + 1 by unfold wrap64; omega]
    rfl) (fun k x i h => by simp only [laws_toLineS.l0]; rw [if_neg (by omega)]) l.length k _ 0 (by omega) (by omega) (by simp) (by simp)
theorem laws_toEntry_is (x : S93) (k : Nat) (hs : small93 x) (hk : 1048576 < k) : laws_toEntry.f k x.f0 x.f1 x.f2 x.f3 = some ((cvEntry x).f0, (cvEntry x).f1, (cvEntry x).f2, (cvEntry x).f3) := by
  unfold small93 at hs
  unfold laws_toEntry.f
  rw [laws_toLineS_is x.f3 k hs (by omega)]
  rfl
theorem laws_toEntryS_is (l : List S93) (k : Nat) (hl : l.length ≤ 1048576) (hs : ∀ y ∈ l, small93 y) (hk : l.length + 1048577 < k) : laws_toEntryS.f k l = some (l.map cvEntry) := by
  unfold laws_toEntryS.f
  rw [if_pos (by omega), if_pos (by omega)]
  exact fill_loop laws_toEntryS.l0 cvEntry z93 l 1048577 (fun k x i hD h0 h1 hx => by
    simp only [laws_toEntryS.l0]
    rw [if_pos h1, if_pos h0, laws_toEntry_is (rd_T93 l i) k (all_at (z := z93) h0 h1 hs) (by omega)]
    simp only [Option.bind_some]
    rw [if_pos (by omega), show wrap64 (i + 1) = i + 1 by unfold wrap64; omega]
    rfl) (fun k x i h => by simp only [laws_toEntryS.l0]; rw [if_neg (by omega)]) l.length k _ 0 (by omega) (by omega) (by simp) (by simp)
theorem laws_toFrame_is (l : List S176) (d c : Int) (k : Nat) (hl : l.length ≤ 1048576) (hk : 3000000 ≤ k) : laws_toFrame.f k l d c = some (l.map cvAccount, d, c) := by
  unfold laws_toFrame.f
  rw [laws_toAccountS_is l k hl (by omega)]
  rfl
theorem laws_toLedger_is (l : List S93) (h : Int) (k : Nat) (hl : l.length ≤ 1048576 ∧ ∀ y ∈ l, small93 y) (hk : 3000000 ≤ k) : laws_toLedger.f k l h = some (l.map cvEntry, h) := by
  unfold laws_toLedger.f
  rw [laws_toEntryS_is l k hl.1 hl.2 (by omega)]
  rfl
theorem laws_toBooks_is (l0 : List S176) (d c : Int) (l3 : List S93) (h : Int) (l5 : List S138) (a b : Int) (k : Nat) (hs : small65 (⟨(⟨l0, d, c⟩ : S59), (⟨l3, h⟩ : S62), l5, a, b⟩ : S65)) (hk : 3000000 ≤ k) :
    laws_toBooks.f k l0 d c l3 h l5 a b = some (l0.map cvAccount, d, c, l3.map cvEntry, h, l5.map cvPeriod, a, b) := by
  obtain ⟨h0, h1, h2⟩ := hs
  have h2' : l5.length ≤ 1048576 := h2
  unfold laws_toBooks.f
  rw [laws_toFrame_is l0 d c k h0 hk, laws_toLedger_is l3 h k h1 hk, laws_toPeriodS_is l5 k h2' (by omega)]
  rfl
theorem text_cvAccount {l : List S176} (h : ∀ y ∈ l, wf176 y) : ∀ x ∈ l.map cvAccount, x.f0.size ≤ maxLen := by
  intro x hx
  obtain ⟨y, hy, rfl⟩ := List.mem_map.1 hx
  exact (h y hy).1
theorem text_cvEntry {l : List S93} (h : ∀ y ∈ l, wf93 y) : ∀ x ∈ l.map cvEntry, x.f2.size ≤ maxLen := by
  intro x hx
  obtain ⟨y, hy, rfl⟩ := List.mem_map.1 hx
  exact (h y hy).2.2.1
end Go.Proofs.Ytphmnkcfjgallaa.Q
