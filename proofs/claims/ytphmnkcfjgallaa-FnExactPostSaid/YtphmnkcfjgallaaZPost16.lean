/- Parts of the proof: what functions of the program and of the reference answer.
   No condition. -/
import Derived.Test.YtphmnkcfjgallaaZPost1
import Derived.Test.YtphmnkcfjgallaaZPost4
import Derived.Test.YtphmnkcfjgallaaZPost13
import Derived.Test.YtphmnkcfjgallaaZPost6
import Derived.Test.YtphmnkcfjgallaaZPost3
import Derived.Test.YtphmnkcfjgallaaZPost14
import Derived.Test.YtphmnkcfjgallaaZPost12
namespace Go.Proofs.Ytphmnkcfjgallaa.Q
open Go.RowKit Go.Proofs.YtphmnkcfjgallaaW.PrintWords Go.Proofs.YtphmnkcfjgallaaW.PrintLast Go.Proofs.YtphmnkcfjgallaaW.PrintMore
attribute [local go_sem] max2_int min2_int max_two min_two max_three min_three max_four min_four   -- for this text's walks alone
set_option linter.unusedVariables false
set_option linter.unusedSimpArgs false
def linkStep (s : Int × Bool) (x : Int) : Int × Bool := if -549755813888 ≤ x ∧ x ≤ 549755813887 then ((s.1 * 1000003 + x + 549755813888) % 1099511627791, s.2) else (s.1, true)
def linkAll (s : Int × Bool) (xs : List Int) : Int × Bool := xs.foldl linkStep s
def HeadIn (s : Int × Bool) : Prop := 0 ≤ s.1 ∧ s.1 < 1099511627791
theorem linkStep_in {s : Int × Bool} (h : HeadIn s) (x : Int) : HeadIn (linkStep s x) := by
  unfold linkStep HeadIn at *
  split
  · exact ⟨Int.emod_nonneg _ (by omega), Int.emod_lt_of_pos _ (by omega)⟩
  · exact h
theorem linkAll_in {s : Int × Bool} (h : HeadIn s) (xs : List Int) : HeadIn (linkAll s xs) := by
  induction xs generalizing s with
  | nil => exact h
  | cons x xs ih => exact ih (linkStep_in h x)
theorem linkAll_append (s : Int × Bool) (xs ys : List Int) : linkAll s (xs ++ ys) = linkAll (linkAll s xs) ys := List.foldl_append
theorem linkAll_cons (s : Int × Bool) (x : Int) (xs : List Int) : linkAll s (x :: xs) = linkAll (linkStep s x) xs := rfl
def ChainAt (w : World) (g : Nat) (s : Int × Bool) : Prop := w.heap[g]? = some (.cells #[.int .i64 s.1, .bool s.2] 118 (0, 0))
structure LinkPost (w0 w : World) (g : Nat) (s : Int × Bool) (w' : World) : Prop where
  at_ : ChainAt w' g s
  bel : Below w0.heap.size w0 w'
  keep : KeepBut w w' g none
theorem LinkPost.refl {w0 w : World} {g : Nat} {s : Int × Bool} (h : ChainAt w g s) (hB : Below w0.heap.size w0 w) : LinkPost w0 w g s w := ⟨h, hB, KeepBut.refl w g none⟩
theorem LinkPost.trans {w0 w w1 w2 : World} {g : Nat} {s t : Int × Bool} (h : LinkPost w0 w g s w1) (h2 : LinkPost w0 w1 g t w2) : LinkPost w0 w g t w2 := ⟨h2.at_, h2.bel, KeepBut.trans h.keep h2.keep (.inl rfl)⟩
set_option maxHeartbeats 8000000 in
set_option maxRecDepth 100000 in
theorem chain_link_calls (g : Nat) (s : Int × Bool) (x : Int) (w0 w : World) (hc : ChainAt w g s) (hs : HeadIn s) (hge : w0.heap.size ≤ g) (hB : Below w0.heap.size w0 w) :
    Calls Try.prog 86 #[.pointer (some ⟨g, 0, none⟩), .int .i64 x] w fun e w' => e = .returned (.tuple #[]) ∧ LinkPost w0 w g (linkStep s x) w' := by
  obtain ⟨h0, h1⟩ := hs
  have HC := Aside0.mk hc
  have HB := Aside0.mk hB
  unfold ChainAt at hc
  have c0 : w.cell? ⟨g, 0, none⟩ = some (.int .i64 s.1) := blk_cell hc 0
  have c1 : w.cell? ⟨g, 1, none⟩ = some (.bool s.2) := blk_cell hc 1
  have f0 := blk_frozen hc 0
  have f1 := blk_frozen hc 1
  clear hc hB
  by_cases hx : -549755813888 ≤ x ∧ x ≤ 549755813887
  · have hb := inB_of hx
    have hst : linkStep s x = ((s.1 * 1000003 + x + 549755813888) % 1099511627791, s.2) := if_pos hx
    have htm : (s.1 * 1000003 + x + 549755813888).tmod 1099511627791 = (s.1 * 1000003 + x + 549755813888) % 1099511627791 := Int.tmod_eq_emod_of_nonneg (by omega)
    have HST := Aside0.mk hst
    have HTM := Aside0.mk htm
    clear hst htm
    obtain ⟨hx0, hx1⟩ := hx
    go_enter Try.func86, Try.ntmps86
    go_wp2_with fail
    refine (impl_between.to _ _ _ _).mono ?_
    rintro e w' ⟨rfl, rfl⟩
    rw [hb]
    go_wp2_with fail
    go_end0
    refine ⟨rfl, ?_⟩
    rw [HST.out]
    exact ⟨blk_set HC.out 0 _, below_set HB.out hge, KeepBut.set_ (KeepBut.refl _ _ _) _ _⟩
  · have hb := inB_not hx
    have hst : linkStep s x = (s.1, true) := if_neg hx
    have HST := Aside0.mk hst
    clear hst
    go_enter Try.func86, Try.ntmps86
    go_wp2_with fail
    refine (impl_between.to _ _ _ _).mono ?_
    rintro e w' ⟨rfl, rfl⟩
    rw [hb]
    go_wp2_with fail
    (try simp only [Exit.inBlock, Exit.then])
    refine bodyPost_ret (results_none rfl _ _ _) rfl ?_
    refine ⟨rfl, ?_⟩
    rw [HST.out]
    exact ⟨blk_set HC.out 1 _, below_set HB.out hge, KeepBut.set_ (KeepBut.refl _ _ _) _ _⟩
def lineNums (x : Lin) : List Int := [x.f0, x.f1, x.f2, x.f3, x.f4]
def bytesN (s : ByteArray) : Nat → List Int
  | 0 => []
  | n + 1 => bytesN s n ++ [bt s n]
def numsOf (e : Ent) : List Int := [e.f0, e.f1, (e.f2.size : Int)] ++ bytesN e.f2 e.f2.size ++ [(e.f3.length : Int)] ++ e.f3.flatMap lineNums
theorem link_bytes (s : Int × Bool) (xs : List Int) (t : ByteArray) {i : Int} (h0 : 0 ≤ i) : linkStep (linkAll s (xs ++ bytesN t i.toNat)) (bt t i) = linkAll s (xs ++ bytesN t (i + 1).toNat) := by
  rw [show (i + 1).toNat = i.toNat + 1 by omega]
  show _ = linkAll s (xs ++ (bytesN t i.toNat ++ [bt t (i.toNat : Int)]))
  rw [← List.append_assoc, linkAll_append s (xs ++ _), show ((i.toNat : Nat) : Int) = i by omega]
  rfl
theorem link_lines (s : Int × Bool) (xs : List Int) {l : List Lin} {i : Int} (h0 : 0 ≤ i) (h1 : i < (l.length : Int)) : linkStep (linkStep (linkStep (linkStep (linkStep (linkAll s (xs ++ (l.take i.toNat).flatMap lineNums)) (rd_T112 l i).f0) (rd_T112 l i).f1) (rd_T112 l i).f2) (rd_T112 l i).f3) (rd_T112 l i).f4 = linkAll s (xs ++ (l.take (i + 1).toNat).flatMap lineNums) := by
  rw [take_snoc h0 h1, List.flatMap_append, ← List.append_assoc, linkAll_append s (xs ++ _)]
  rfl
def entO (e : Ent) (A3 : Option Addr) (c3 : Nat) : Obj := .cells #[.int .i64 e.f0, .int .i64 e.f1, .string e.f2, .slice A3 e.f3.length c3] 34 (0, 0)
theorem LinkPost.box {w0 w w' : World} {g : Nat} {s : Int × Bool} {e : Ent} {A3 : Option Addr} {c3 : Nat} (h : LinkPost w0 (w.alloc (entO e A3 c3)) g s w') (hg : g < w.heap.size) : w'.heap[w.heap.size]? = some (.cells #[.int .i64 e.f0, .int .i64 e.f1, .string e.f2, .slice A3 e.f3.length c3] 34 (0, 0)) := h.keep.blk (blk_new _ _) (by omega) (by simp)
theorem LinkPost.alloc {w0 w w1 : World} {g : Nat} {s : Int × Bool} (h : LinkPost w0 w g s w1) (o : Obj) : LinkPost w0 w g s (w1.alloc o) := ⟨blk_alloc h.at_ _, below_alloc h.bel _, keep_alloc h.keep _⟩
set_option maxHeartbeats 8000000 in
set_option maxRecDepth 100000 in
theorem impl_numbersOf.to (g : Nat) (s : Int × Bool) (e : Ent) (A3 : Option Addr) (c3 : Nat) (w0 w : World) (hc : ChainAt w g s) (hs : HeadIn s) (hge : w0.heap.size ≤ g) (hB : Below w0.heap.size w0 w) (hr3 : Kd.C k112 w0 A3 e.f3.length e.f3) (hm : e.f2.size ≤ 40) :
    Calls Try.prog 85 #[.agg #[.int .i64 e.f0, .int .i64 e.f1, .string e.f2, .slice A3 e.f3.length c3], .func (.func 86) #[.pointer (some ⟨g, 0, none⟩)] #[]] w fun x w' => x = .returned (.tuple #[]) ∧ LinkPost w0 w g (linkAll s (numsOf e)) w' := by
  have hgw : g < w.heap.size := blk_lt hc
  have HP := Aside0.mk (show LinkPost w0 (w.alloc (entO e A3 c3)) g s (w.alloc (entO e A3 c3)) from LinkPost.refl (blk_alloc hc _) (by exact hB.alloc (by have := hB.size; omega) _))
  have H3 := Aside0.mk hr3
  have HS := Aside0.mk hs
  have HS0 := Aside0.mk hs
  have hlen := hr3.2.1
  clear hc hB hr3 hs
  go_enter Try.func85, Try.ntmps85
  go_wp2_with fail
  refine (chain_link_calls g _ _ w0 _ HP.out.at_ HS.out hge HP.out.bel).mono ?_
  rintro x w1 ⟨rfl, P1⟩
  have P1 := Aside0.mk (HP.out.trans P1)
  have HS1 := Aside0.mk (linkStep_in HS.out e.f0)
  have y1 := blk_cell (P1.out.box hgw) 1
  have HS1 := Aside0.mk (linkStep_in HS.out e.f0)
  clear HP HS
  go_wp2_with fail
  refine (chain_link_calls g _ _ w0 _ P1.out.at_ HS1.out hge P1.out.bel).mono ?_
  rintro x w2 ⟨rfl, P2⟩
  have P2 := Aside0.mk (P1.out.trans P2)
  have HS2 := Aside0.mk (linkStep_in HS1.out e.f1)
  have y2 := blk_cell (P2.out.box hgw) 2
  clear P1 HS1 y1
  go_wp2_with fail
  refine (chain_link_calls g _ _ w0 _ P2.out.at_ HS2.out hge P2.out.bel).mono ?_
  rintro x w3 ⟨rfl, P3⟩
  have P3 := Aside0.mk (show LinkPost w0 (w.alloc (entO e A3 c3)) g (linkAll s ([e.f0, e.f1, (e.f2.size : Int)] ++ bytesN e.f2 (0 : Int).toNat)) w3 from P2.out.trans P3)
  clear P2 HS2 y2
  go_wp2_with fail
  go_loopw [4] (fun v wr => ∃ i : Int, 0 ≤ i ∧ i ≤ (e.f2.size : Int) ∧ v = .int .i64 i ∧ Aside0 (LinkPost w0 (w.alloc (entO e A3 c3)) g (linkAll s ([e.f0, e.f1, (e.f2.size : Int)] ++ bytesN e.f2 i.toNat)) wr)) (fun v _ => (e.f2.size - (intOf v).toNat))
  case atStart => exact ⟨0, by omega, by omega, rfl, P3⟩
  case round =>
    clear P3
    obtain ⟨i, hi0, hi1, rfl, HP⟩ := hrel
    have z2 := blk_cell (HP.out.box hgw) 2
    have z3 := blk_cell (HP.out.box hgw) 3
    by_cases hlt : i < (e.f2.size : Int)
    · have hx := bt_at e.f2 i
      obtain ⟨hb0, hb1⟩ := bt_range e.f2 i
      go_wp2_with fail
      refine (chain_link_calls g _ _ w0 _ HP.out.at_ (linkAll_in HS0.out _) hge HP.out.bel).mono ?_
      rintro x w4 ⟨rfl, P4⟩
      have P4 := Aside0.mk (HP.out.trans P4)
      go_wp2_with fail
      go_roundw
      case rel => exact ⟨i + 1, by omega, by omega, rfl, ⟨by have := P4.out; rw [link_bytes _ _ _ hi0] at this; exact this⟩⟩
      case measure => simp [intOf]; omega
    · obtain rfl : i = (e.f2.size : Int) := by omega
      go_wp2_with fail
      refine (chain_link_calls g _ _ w0 _ HP.out.at_ (linkAll_in HS0.out _) hge HP.out.bel).mono ?_
      rintro x w5 ⟨rfl, P5⟩
      have P5 := Aside0.mk (show LinkPost w0 (w.alloc (entO e A3 c3)) g (linkAll s ([e.f0, e.f1, (e.f2.size : Int)] ++ bytesN e.f2 e.f2.size ++ [(e.f3.length : Int)] ++ (e.f3.take (0 : Int).toNat).flatMap lineNums)) w5 from by
        have := HP.out.trans P5
        rw [show e.f3.take (0 : Int).toNat = [] from rfl, List.flatMap_nil, List.append_nil, linkAll_append s (_ ++ _)]
        exact this)
      have y3 := blk_cell (P5.out.box hgw) 3
      clear HP z2 z3
      go_wp2_with fail
      go_loopw [42] (fun v wr => ∃ i : Int, 0 ≤ i ∧ i ≤ (e.f3.length : Int) ∧ v = .int .i64 i ∧ Aside0 (LinkPost w0 (w.alloc (entO e A3 c3)) g (linkAll s ([e.f0, e.f1, (e.f2.size : Int)] ++ bytesN e.f2 e.f2.size ++ [(e.f3.length : Int)] ++ (e.f3.take i.toNat).flatMap lineNums)) wr)) (fun v _ => (e.f3.length - (intOf v).toNat))
      case atStart => exact ⟨0, by omega, by omega, rfl, P5⟩
      case round =>
        clear P5 y3
        obtain ⟨j, hj0, hj1, rfl, HP⟩ := hrel
        by_cases hlt : j < (e.f3.length : Int)
        · obtain ⟨ad, e0, x0, x1, x2, x3, x4⟩ := at_T112 (Kd.C_below H3.out HP.out.bel) j hj0 hlt
          cases e0
          have hgr : g < wr.heap.size := blk_lt HP.out.at_
          have Q := Aside0.mk (HP.out.alloc (lineO (rd_T112 e.f3 j)))
          have T0 := Aside0.mk (linkAll_in HS0.out ([e.f0, e.f1, (e.f2.size : Int)] ++ bytesN e.f2 e.f2.size ++ [(e.f3.length : Int)] ++ (e.f3.take j.toNat).flatMap lineNums))
          clear HP
          go_wp2_with fail
          refine (chain_link_calls g _ _ w0 _ Q.out.at_ T0.out hge Q.out.bel).mono ?_
          rintro x w6 ⟨rfl, R0⟩
          have N0 := Aside0.mk (R0.keep.blk (blk_new wr (lineO (rd_T112 e.f3 j))) (by omega) (by simp))
          have Q0 := Aside0.mk (Q.out.trans R0)
          have T1 := Aside0.mk (linkStep_in T0.out (rd_T112 e.f3 j).f0)
          have u1 := blk_cell N0.out 1
          clear Q T0 R0
          go_wp2_with fail
          refine (chain_link_calls g _ _ w0 _ Q0.out.at_ T1.out hge Q0.out.bel).mono ?_
          rintro x w7 ⟨rfl, R1⟩
          have N1 := Aside0.mk (R1.keep.blk (N0.out) (by omega) (by simp))
          have Q1 := Aside0.mk (Q0.out.trans R1)
          have T2 := Aside0.mk (linkStep_in T1.out (rd_T112 e.f3 j).f1)
          have u2 := blk_cell N1.out 2
          clear Q0 T1 R1 u1
          go_wp2_with fail
          refine (chain_link_calls g _ _ w0 _ Q1.out.at_ T2.out hge Q1.out.bel).mono ?_
          rintro x w8 ⟨rfl, R2⟩
          have N2 := Aside0.mk (R2.keep.blk (N1.out) (by omega) (by simp))
          have Q2 := Aside0.mk (Q1.out.trans R2)
          have T3 := Aside0.mk (linkStep_in T2.out (rd_T112 e.f3 j).f2)
          have u3 := blk_cell N2.out 3
          clear Q1 T2 R2 u2
          go_wp2_with fail
          refine (chain_link_calls g _ _ w0 _ Q2.out.at_ T3.out hge Q2.out.bel).mono ?_
          rintro x w9 ⟨rfl, R3⟩
          have N3 := Aside0.mk (R3.keep.blk (N2.out) (by omega) (by simp))
          have Q3 := Aside0.mk (Q2.out.trans R3)
          have T4 := Aside0.mk (linkStep_in T3.out (rd_T112 e.f3 j).f3)
          have u4 := blk_cell N3.out 4
          clear Q2 T3 R3 u3
          go_wp2_with fail
          refine (chain_link_calls g _ _ w0 _ Q3.out.at_ T4.out hge Q3.out.bel).mono ?_
          rintro x w10 ⟨rfl, R4⟩
          have N4 := Aside0.mk (R4.keep.blk (N3.out) (by omega) (by simp))
          have Q4 := Aside0.mk (Q3.out.trans R4)
          go_wp2_with fail
          go_roundw
          case rel => exact ⟨j + 1, by omega, by omega, rfl, ⟨by have := Q4.out; rw [link_lines _ _ hj0 hlt] at this; exact this⟩⟩
          case measure => simp [intOf]; omega
        · obtain rfl : j = (e.f3.length : Int) := by omega
          have HE := Aside0.mk (show LinkPost w0 w g (linkAll s (numsOf e)) wr from by
            have h := HP.out
            rw [List.take_of_length_le (by omega)] at h
            exact ⟨h.at_, h.bel, KeepBut.trans (keep_alloc (KeepBut.refl _ _ _) _) h.keep (.inl rfl)⟩)
          go_wp2_with fail
          go_end0
          exact ⟨rfl, HE.out⟩
def tooLong (e : Ent) : Prop := 60 < e.f3.length ∨ 40 < e.f2.size
open Classical in
noncomputable def headV (l : List Ent) : Int :=
  if 1000 < l.length ∨ ∃ e ∈ l, tooLong e then 0 else if (linkAll (1, false) (l.flatMap numsOf)).2 = true then 0 else (linkAll (1, false) (l.flatMap numsOf)).1
theorem headV_long {l : List Ent} (h : 1000 < l.length ∨ ∃ e ∈ l, tooLong e) : headV l = 0 := if_pos h
theorem headV_bad {l : List Ent} (h : ¬ (1000 < l.length ∨ ∃ e ∈ l, tooLong e)) (hb : (linkAll (1, false) (l.flatMap numsOf)).2 = true) : headV l = 0 := by unfold headV; rw [if_neg h, if_pos hb]
theorem headV_good {l : List Ent} (h : ¬ (1000 < l.length ∨ ∃ e ∈ l, tooLong e)) (hb : (linkAll (1, false) (l.flatMap numsOf)).2 = false) : headV l = (linkAll (1, false) (l.flatMap numsOf)).1 := by unfold headV; rw [if_neg h, if_neg (by rw [hb]; simp)]
theorem head_step (s : Int × Bool) {l : List Ent} {i : Int} (h0 : 0 ≤ i) (h1 : i < (l.length : Int)) : linkAll (linkAll s ((l.take i.toNat).flatMap numsOf)) (numsOf (rd_T34 l i)) = linkAll s ((l.take (i + 1).toNat).flatMap numsOf) := by
  have ht : l.take (i + 1).toNat = l.take i.toNat ++ [rd_T34 l i] := by
    rw [show (i + 1).toNat = i.toNat + 1 by omega, List.take_add_one]
    unfold rd_T34
    rw [List.getD_eq_getElem?_getD, List.getElem?_eq_getElem (by omega)]
    rfl
  rw [ht, List.flatMap_append, linkAll_append s]
  rw [show [rd_T34 l i].flatMap numsOf = numsOf (rd_T34 l i) by simp]
theorem headIn_one : HeadIn (1, false) := by unfold HeadIn; decide
set_option maxHeartbeats 8000000 in
set_option maxRecDepth 100000 in
theorem impl_HeadOf.to (A0 : Option Addr) (c0 : Nat) (l0 : List Ent) (w : World) (hr0 : Kd.C k34 w A0 l0.length l0) :
    Calls Try.prog 94 #[.slice A0 l0.length c0] w fun x w' => x = .returned (.int .i64 (headV l0)) ∧ Below w.heap.size w w' := by
  have hl := hr0.2.1
  have H0 := Aside0.mk hr0
  clear hr0
  by_cases h1 : 1000 < l0.length
  case pos =>
    have HV := Aside0.mk (headV_long (l := l0) (Or.inl h1))
    go_enter Try.func94, Try.ntmps94
    go_wp2_with fail
    go_ret
    exact ⟨ret_i HV.out.symm, Below.refl _ _⟩
  have HP := Aside0.mk (show LinkPost w (w.alloc (.cells #[.int .i64 1, .bool false] 118)) w.heap.size (linkAll (1, false) ((l0.take (0 : Int).toNat).flatMap numsOf)) (w.alloc (.cells #[.int .i64 1, .bool false] 118)) from LinkPost.refl (blk_new _ _) (below_alloc (Below.refl _ _) _))
  go_enter Try.func94, Try.ntmps94
  go_wp2_with fail
  go_loopw [16] (fun v wr => ∃ i : Int, 0 ≤ i ∧ i ≤ (l0.length : Int) ∧ v = .int .i64 i ∧ Aside0 (LinkPost w (w.alloc (.cells #[.int .i64 1, .bool false] 118)) w.heap.size (linkAll (1, false) ((l0.take i.toNat).flatMap numsOf)) wr) ∧ Aside0 (∀ x ∈ l0.take i.toNat, ¬ tooLong x)) (fun v _ => (l0.length - (intOf v).toNat))
  case atStart => exact ⟨0, by omega, by omega, rfl, HP, ⟨fun x hx => by cases hx⟩⟩
  case round =>
    clear HP
    obtain ⟨i, hi0, hi1, rfl, HP, HT⟩ := hrel
    have hgw : w.heap.size < wr.heap.size := blk_lt HP.out.at_
    by_cases hlt : i < (l0.length : Int)
    · obtain ⟨ad, A3, c3, e0, x0, x1, x2, x3, x4, x5⟩ := at_T34 H0.out i hi0 hlt
      cases e0
      have y0 := pw_cell_below HP.out.bel x0
      have y1 := pw_cell_below HP.out.bel x1
      have y2 := pw_cell_below HP.out.bel x2
      have y3 := pw_cell_below HP.out.bel x3
      have X5 := Aside0.mk x5
      have Q := Aside0.mk (HP.out.alloc (entO (rd_T34 l0 i) A3 c3))
      have HLN := Aside0.mk (fun (q : tooLong (rd_T34 l0 i)) => headV_long (l := l0) (Or.inr ⟨rd_T34 l0 i, by unfold rd_T34; rw [List.getD_eq_getElem?_getD, List.getElem?_eq_getElem (by omega)]; exact List.getElem_mem _, q⟩))
      clear x0 x1 x2 x3 x5 HP
      by_cases h2 : 60 < (rd_T34 l0 i).f3.length
      · have HV := Aside0.mk (HLN.out (Or.inl h2))
        go_wp2_with fail
        go_ret
        exact ⟨ret_i HV.out.symm, Q.out.bel⟩
      · by_cases h3 : 40 < (rd_T34 l0 i).f2.size
        · have HV := Aside0.mk (HLN.out (Or.inr h3))
          go_wp2_with fail
          go_ret
          exact ⟨ret_i HV.out.symm, Q.out.bel⟩
        · have HT1 := Aside0.mk (all_step (z := z34) (p := fun x => ¬ tooLong x) hi0 hlt HT.out (fun q => q.elim h2 h3))
          clear HT HLN
          go_wp2_with fail
          refine (impl_numbersOf.to _ _ (rd_T34 l0 i) A3 c3 w _ Q.out.at_ (linkAll_in headIn_one _) (Nat.le_refl _) Q.out.bel X5.out (by omega)).mono ?_
          rintro x w1 ⟨rfl, P1⟩
          have P1 := Aside0.mk (Q.out.trans P1)
          clear Q X5
          go_wp2_with fail
          go_roundw
          case rel => exact ⟨i + 1, by omega, by omega, rfl, ⟨by have := P1.out; rw [head_step _ hi0 hlt] at this; exact this⟩, HT1⟩
          case measure => simp [intOf]; omega
    · have hno : ¬ (1000 < l0.length ∨ ∃ e ∈ l0, tooLong e) := fun q => q.elim h1 (fun ⟨e, he, q⟩ => all_end (by omega) HT.out e he q)
      have hat := HP.out.at_
      have HB := Aside0.mk HP.out.bel
      rw [List.take_of_length_le (by omega)] at hat
      cases hb : (linkAll (1, false) (l0.flatMap numsOf)).2 with
      | true =>
        have HV := Aside0.mk (headV_bad hno hb)
        have c1 := blk_cell hat 1
        rw [hb] at c1
        clear hat HT HP hno hb
        go_wp2_with fail
        go_ret
        exact ⟨ret_i HV.out.symm, HB.out⟩
      | false =>
        have HV := Aside0.mk (headV_good hno hb)
        have c0 := blk_cell hat 0
        have c1 := blk_cell hat 1
        rw [hb] at c1
        clear hat HT HP hno hb
        go_wp2_with fail
        go_ret
        exact ⟨ret_i HV.out.symm, HB.out⟩
end Go.Proofs.Ytphmnkcfjgallaa.Q
namespace Go.Proofs.Ytphmnkcfjgallaa.Q
open Go.RowKit Go.Proofs.YtphmnkcfjgallaaW.PrintWords Go.Proofs.YtphmnkcfjgallaaW.PrintLast Go.Proofs.YtphmnkcfjgallaaW.PrintMore
set_option linter.unusedVariables false
set_option linter.unusedSimpArgs false
theorem laws_heldLineS_is (l : List Lin) (k : Nat) (a : Int) (hk : l.length < k) (hl : l.length ≤ 1048576) (h0 : 0 ≤ a) (h1 : a ≤ 1000000000000000) : laws_heldLineS.f k (mAll mLine nLine a l) a = some (nAll nLine a l) := by
  have := held_loop laws_heldLineS.l0 mLine nLine z112 0 5 4611686018427387000 (by omega) (fun _ => True) (fun x _ b => by unfold nLine; omega) (fun k y x a i _ hi hi2 hl h0 hB _ hy => by
    have hy' : rd_T112 y i = mLine a x := hy
    simp only [laws_heldLineS.l0]
    rw [if_pos hi2, if_pos hi, hy', wr1 h0 (by omega), wr1 (a := a + 1) (by omega) (by omega), wr1 (a := a + 1 + 1) (by omega) (by omega), wr1 (a := a + 1 + 1 + 1) (by omega) (by omega), wr1 (a := a + 1 + 1 + 1 + 1) (by omega) (by omega), wr1 hi (by omega)]
    simp only [mLine, if_true]
    rfl) (fun k x a i h => by simp only [laws_heldLineS.l0]; rw [if_neg (by omega)]) l [] k a (by omega) (by simpa using hl) h0 (by omega) (fun _ _ => trivial)
  exact this
theorem mAll_at {α : Type} (m : Int → α → α) (nx : Int → α → Int) (z : α) : ∀ (l : List α) (a : Int) (i : Nat), i < l.length → (mAll m nx a l).getD i z = m (nAll nx a (l.take i)) (l.getD i z)
  | [], a, i, h => by simp at h
  | x :: l, a, 0, h => rfl
  | x :: l, a, i + 1, h => by
    have := mAll_at m nx z l (nx a x) i (by simpa using h)
    simpa [mAll, nAll] using this
theorem nAll_step {α : Type} (nx : Int → α → Int) (z : α) (l : List α) (a : Int) (i : Int) (h0 : 0 ≤ i) (h1 : i < (l.length : Int)) : nAll nx a (l.take (i + 1).toNat) = nx (nAll nx a (l.take i.toNat)) (l.getD i.toNat z) := by
  rw [show (i + 1).toNat = i.toNat + 1 by omega, List.take_add_one, List.getElem?_eq_getElem (by omega), List.getD_eq_getElem?_getD, List.getElem?_eq_getElem (by omega)]
  exact nAll_snoc nx _ _ a
set_option maxHeartbeats 16000000 in
set_option maxRecDepth 100000 in
theorem laws_heldEntryS.to (A : Option Addr) (c : Nat) (l : List Ent) (a1 : Int) (w : World) (hr : Kd.C k34 w A l.length (mAll mEnt nEnt a1 l)) (h0 : 0 ≤ a1) (h1 : a1 ≤ 100000000000000) (hl : l.length ≤ 1048576) (hs : ∀ x ∈ l, x.f3.length ≤ 1048576) :
    Calls Try.prog 46 #[.slice A l.length c, .int .i64 a1] w fun e w' => e = .returned (.int .i64 (nAll nEnt a1 l)) ∧ Below w.heap.size w w' := by
  have HR := Aside0.mk hr
  have HL := Aside0.mk hs
  have ha1 := h1
  clear hr hs
  go_enter Try.func46, Try.ntmps46
  go_wp2_with fail
  go_loopw [1, 5] (fun v u wr => ∃ i a : Int, 0 ≤ i ∧ i ≤ (l.length : Int) ∧ u = .int .i64 i ∧ v = .int .i64 a ∧ 0 ≤ a ∧ a ≤ 100000000000000 + 5242883 * 1048576 ∧ Aside0 (a = nAll nEnt a1 (l.take i.toNat)) ∧ Aside0 (Below w.heap.size w wr)) (fun _ u _ => (l.length - (intOf u).toNat))
  case atStart => exact ⟨0, a1, by omega, by omega, rfl, rfl, h0, by omega, ⟨rfl⟩, ⟨Below.refl _ _⟩⟩
  case round =>
    clear h0 h1
    obtain ⟨i, a, hi0, hi1, rfl, rfl, h0, h1, HA, HB⟩ := hrel
    by_cases hlt : i < (l.length : Int)
    · obtain ⟨ad, A3, c3, e0, x0, x1, x2, x3, hc3, hC3⟩ := at_T34 (Kd.C_below HR.out HB.out) i hi0 hlt
      cases e0
      have hm : rd_T34 (mAll mEnt nEnt a1 l) i = mEnt a (rd_T34 l i) := by
        rw [HA.out]
        exact mAll_at mEnt nEnt z34 l a1 i.toNat (by omega)
      rw [hm] at x0 x1 x2 x3 hc3 hC3
      have hxl : (rd_T34 l i).f3.length ≤ 1048576 := all_at (z := z34) (p := fun x => x.f3.length ≤ 1048576) hi0 hlt HL.out
      have hnx : nAll nEnt a1 (l.take (i + 1).toNat) = nEnt a (rd_T34 l i) := by rw [HA.out]; exact nAll_step nEnt z34 l a1 i hi0 hlt
      have hnb := nEnt_b (l.take (i + 1).toNat) (fun x hx => HL.out x (List.mem_of_mem_take hx)) a1
      have htl : (l.take (i + 1).toNat).length ≤ 1048576 := by rw [List.length_take]; omega
      rw [hnx] at hnb
      have HNX := Aside0.mk hnx
      simp only [mEnt] at x0 x1 x2 x3 hc3 hC3
      have HLI := Aside0.mk (laws_heldLineS_is (rd_T34 l i).f3 ((rd_T34 l i).f3.length + 1) (a + 1 + 1 + 1) (by omega) hxl (by omega) (by omega))
      have hne : nEnt a (rd_T34 l i) = nAll nLine (a + 1 + 1 + 1) (rd_T34 l i).f3 := rfl
      rw [hne] at hnb
      have HNE := Aside0.mk hne
      have hln := nLine_b (rd_T34 l i).f3 (a + 1 + 1 + 1)
      generalize (rd_T34 l i).f3 = ls at *
      generalize nAll nLine (a + 1 + 1 + 1) ls = nk at *
      generalize mAll mLine nLine (a + 1 + 1 + 1) ls = ml at *
      have MT := Aside0.mk (laws_markText_is (a := a + 1 + 1) (by omega) (by omega) (Nat.le_refl 100))
      generalize mText (a + 1 + 1) = mt at *
      have X3 := Aside0.mk x3
      have HC3 := Aside0.mk hC3
      have HCC := Aside0.mk hc3
      have w1 : IntKind.i64.wrap (a + 1 + 1) = a + 1 + 1 := by rw [IntKind.wrap_i64]; omega
      have hq : decide (nk < 0) = false := decide_eq_false (by omega)
      clear hm hnx hne hC3 hc3
      go_wp2_with fail
      have HV := Aside0.mk (Below.refl wr.heap.size wr)
      go_region_held3 (fun w' => w'.cell? ⟨(ad.add (i.toNat * 4)).block, (ad.add (i.toNat * 4)).off + 2, none⟩ = some (.string mt) ∧ w'.cell? ⟨(ad.add (i.toNat * 4)).block, (ad.add (i.toNat * 4)).off + 3, none⟩ = some (.slice A3 ml.length c3)) ((first | go_keep | exact ⟨pw_cell_below hb (by assumption), pw_cell_below hb (by assumption)⟩))
        ((go_at_call 111; refine (laws_markText.calls 100 (a + 1 + 1) mt _ MT.out).mono ?_; rintro x w2 ⟨rfl, hb⟩; have HV2 := Aside0.mk (below_into (w := wr) hb (by repeat (first | exact HV.out | refine below_drew1 ?_ | refine pw_below_drewN ?_ _)))))
      clear x0 x1 x2 x3 w1
      have hH := ‹_ ∧ _›
      obtain ⟨x2, x3⟩ := hH
      have hmb : (!mt.toList == mt.toList) = false := by simp
      have HB2 := Aside0.mk (below_into (w := w) HV2.out HB.out)
      have HC4 := Aside0.mk (Kd.C_below HC3.out HV2.out)
      have w1 : IntKind.i64.wrap (a + 1 + 1 + 1) = a + 1 + 1 + 1 := by rw [IntKind.wrap_i64]; omega
      go_wp2_with fail
      refine (laws_heldLineS.calls (ls.length + 1) A3 c3 ml (a + 1 + 1 + 1) nk _ HC4.out HCC.out HLI.out).mono ?_
      rintro x w3 ⟨rfl, hd⟩
      have HB3 := Aside0.mk (below_into (w := w) hd.below HB2.out)
      clear hd
      go_wp2_with fail
      go_roundw
      case rel => exact ⟨i + 1, nk, by omega, by omega, rfl, rfl, by omega, by omega, ⟨by rw [HNX.out]; exact HNE.out.symm⟩, HB3⟩
      case measure => simp [intOf]; omega
    · go_wp2_with fail
      go_ret
      exact ⟨ret_i (by rw [HA.out, List.take_of_length_le (by omega)]), HB.out⟩
end Go.Proofs.Ytphmnkcfjgallaa.Q
namespace Go.Proofs.Ytphmnkcfjgallaa.Q
open Go.RowKit Go.Proofs.YtphmnkcfjgallaaW.PrintWords Go.Proofs.YtphmnkcfjgallaaW.PrintLast Go.Proofs.YtphmnkcfjgallaaW.PrintMore
set_option linter.unusedVariables false
set_option linter.unusedSimpArgs false
theorem mark_step {l : List Ent} {a : Int} {i : Int} (h0 : 0 ≤ i) (h1 : i < (l.length : Int)) {x' : Ent} (hx : x' = mEnt (nAll nEnt a (l.take i.toNat)) (rd_T34 l i)) :
    (mAll mEnt nEnt a (l.take i.toNat) ++ l.drop i.toNat).set i.toNat x' = mAll mEnt nEnt a (l.take (i + 1).toNat) ++ l.drop (i + 1).toNat ∧ nAll nEnt a (l.take (i + 1).toNat) = nEnt (nAll nEnt a (l.take i.toNat)) (rd_T34 l i) ∧ rd_T34 (mAll mEnt nEnt a (l.take i.toNat) ++ l.drop i.toNat) i = rd_T34 l i := by
  subst hx
  have ht : l.take (i + 1).toNat = l.take i.toNat ++ [rd_T34 l i] := by
    rw [show (i + 1).toNat = i.toNat + 1 by omega, List.take_add_one, List.getElem?_eq_getElem (by omega)]
    unfold rd_T34
    rw [List.getD_eq_getElem?_getD, List.getElem?_eq_getElem (by omega)]
    rfl
  have hl : (mAll mEnt nEnt a (l.take i.toNat)).length = i.toNat := by rw [mAll_length, List.length_take]; omega
  have hd : l.drop i.toNat = rd_T34 l i :: l.drop (i + 1).toNat := by
    rw [show (i + 1).toNat = i.toNat + 1 by omega, List.drop_eq_getElem_cons (by omega)]
    unfold rd_T34
    rw [List.getD_eq_getElem?_getD, List.getElem?_eq_getElem (by omega)]
    rfl
  refine ⟨?_, ?_, ?_⟩
  · rw [ht, mAll_snoc, hd, List.set_append_right _ _ (by omega), hl, Nat.sub_self]
    simp
  · rw [ht, nAll_snoc]
  · rw [hd]
    show ((mAll mEnt nEnt a (l.take i.toNat)) ++ rd_T34 l i :: l.drop (i + 1).toNat).getD i.toNat z34 = _
    rw [List.getD_eq_getElem?_getD, List.getElem?_append_right (by omega), hl, Nat.sub_self]
    rfl
set_option maxHeartbeats 16000000 in
set_option maxRecDepth 100000 in
theorem laws_markEntryS.to (P0_ : Nat → Prop) (A : Option Addr) (c : Nat) (l0 : List Ent) (a1 : Int) (w0 w : World) (hB : Below w0.heap.size w0 w) (hS : Kd.S k34 34 w w0.heap.size P0_ (.slice A l0.length c) l0) (h0 : 0 ≤ a1) (h1 : a1 ≤ 100000000000000) (hl : l0.length ≤ 1048576) (hs : ∀ x ∈ l0, x.f3.length ≤ 1048576) :
    Calls Try.prog 45 #[.slice A l0.length c, .int .i64 a1] w fun e w' => e = .returned (.int .i64 (nAll nEnt a1 l0)) ∧ Kd.S k34 34 w' w0.heap.size P0_ (.slice A l0.length c) (mAll mEnt nEnt a1 l0) ∧ Below w0.heap.size w0 w' ∧ Kept w w' P0_ := by
  have HB := Aside0.mk hB
  have HS := Aside0.mk (show Kd.S k34 34 w w0.heap.size P0_ (.slice A l0.length c) (mAll mEnt nEnt a1 (l0.take (0 : Int).toNat) ++ l0.drop (0 : Int).toNat) from hS)
  have HL := Aside0.mk hs
  clear hB hS hs
  go_enter Try.func45, Try.ntmps45
  go_wp2_with fail
  go_loopw [1, 5] (fun v u wr => ∃ i a : Int, 0 ≤ i ∧ i ≤ (l0.length : Int) ∧ u = .int .i64 i ∧ v = .int .i64 a ∧ 0 ≤ a ∧ a ≤ 100000000000000 + 5242883 * 1048576 ∧ Aside0 (a = nAll nEnt a1 (l0.take i.toNat)) ∧ Aside0 (Kd.S k34 34 wr w0.heap.size P0_ (.slice A l0.length c) (mAll mEnt nEnt a1 (l0.take i.toNat) ++ l0.drop i.toNat)) ∧ Aside0 (Below w0.heap.size w0 wr) ∧ Aside0 (Kept w wr P0_)) (fun _ u _ => (l0.length - (intOf u).toNat))
  case atStart => exact ⟨0, a1, by omega, by omega, rfl, rfl, h0, by omega, ⟨rfl⟩, HS, HB, ⟨Kept.refl w P0_⟩⟩
  case round =>
    have A1 := h1
    clear HS HB h0 h1
    obtain ⟨i, a, hi0, hi1, rfl, rfl, h0, h1, HA, HS, HB, HK⟩ := hrel
    by_cases hlt : i < (l0.length : Int)
    · have hcl : (mAll mEnt nEnt a1 (l0.take i.toNat) ++ l0.drop i.toNat).length = l0.length := by rw [List.length_append, mAll_length, List.length_take, List.length_drop]; omega
      obtain ⟨g, cap, e1, hg0, hg1, _⟩ := Kd.S_form HS.out (by rw [hcl]; omega)
      rw [hcl] at e1
      have HCL := Aside0.mk hcl
      clear hcl
      cases e1
      have MS := Aside0.mk (mark_step (a := a1) hi0 hlt rfl)
      have HPG := Aside0.mk ((Kd.S_R HS.out).1 g rfl)
      obtain ⟨XS, hXS⟩ : ∃ X, X = mAll mEnt nEnt a1 (l0.take i.toNat) ++ l0.drop i.toNat := ⟨_, rfl⟩
      rw [← hXS] at HS MS
      have HXS := Aside0.mk hXS
      clear hXS
      obtain ⟨oki, cs, hcl, hM, hcc, hfr, hoki, hH⟩ := Kd.S_elem HS.out z34 i hi0 hlt
      rw [show XS.getD i.toNat z34 = rd_T34 l0 i from MS.out.2.2] at hM
      obtain ⟨v3, rfl, hR⟩ := k34_openM hM
      obtain ⟨A3, c3, rfl, hc3, hC3⟩ := Kd.R_reads hR
      have x0 := hcc 0 _ rfl
      have x1 := hcc 1 _ rfl
      have x2 := hcc 2 _ rfl
      have x3 := hcc 3 _ rfl
      have f0 := hfr 0
      have f1 := hfr 1
      have f2 := hfr 2
      simp only [show k34.sz = 4 from rfl, Nat.add_zero] at x0 x1 x2 x3 f0 f1 f2
      have HH := Aside0.mk hH
      have HR := Aside0.mk hR
      have HOK := Aside0.mk hoki
      have w1 : IntKind.i64.wrap (a + 1) = a + 1 := by unfold IntKind.wrap; simp [IntKind.bits]; omega
      have hxl : (rd_T34 l0 i).f3.length ≤ 1048576 := all_at (z := z34) (p := fun x => x.f3.length ≤ 1048576) hi0 hlt HL.out
      clear hcl hM hcc hfr hoki hH hR hC3 HS
      generalize hls : (rd_T34 l0 i).f3 = ls at *
      have HLS := Aside0.mk hls
      clear hls
      go_wp2_with fail
      refine (laws_markText.calls 100 (a + 1 + 1) (mText (a + 1 + 1)) _ (laws_markText_is (by omega) (by omega) (Nat.le_refl _))).mono ?_
      rintro e w2 ⟨rfl, hb⟩
      have x2' : w2.cell? ⟨g, i.toNat * 4 + 2, none⟩ = some (.string (rd_T34 l0 i).f2) := pw_cell_below hb (by go_simp)
      have x3' : w2.cell? ⟨g, i.toNat * 4 + 3, none⟩ = some (.slice A3 ls.length c3) := pw_cell_below hb (by go_simp)
      have f2' : w2.frozen? ⟨g, i.toNat * 4 + 2, none⟩ = false := (hb.frozen (p := ⟨g, i.toNat * 4 + 2, none⟩) (by simp; omega)).trans (by go_simp)
      have HH1 : Kd.H k34 34 (wr.setCell ⟨g, i.toNat * 4, none⟩ (.int .i64 a)) w0.heap.size P0_ (.slice (some ⟨g, 0, none⟩) l0.length c) XS i oki [.int .i64 a, .int .i64 (rd_T34 l0 i).f1, .string (rd_T34 l0 i).f2, .slice A3 ls.length c3] := (Kd.H_seg HH.out hi0 hlt (seg := [.int .i64 a]) (j := 0) (show 1 ≤ 4 from by decide) (by simp [Value.oneCell'])).1
      have HH2 : Kd.H k34 34 ((wr.setCell ⟨g, i.toNat * 4, none⟩ (.int .i64 a)).setCell ⟨g, i.toNat * 4 + 1, none⟩ (.int .i64 (a + 1))) w0.heap.size P0_ (.slice (some ⟨g, 0, none⟩) l0.length c) XS i oki [.int .i64 a, .int .i64 (a + 1), .string (rd_T34 l0 i).f2, .slice A3 ls.length c3] := (Kd.H_seg HH1 hi0 hlt (seg := [.int .i64 (a + 1)]) (j := 1) (show 2 ≤ 4 from by decide) (by simp [Value.oneCell'])).1
      have HH3 := Kd.H_below HH2 hb
      have HH4 : Kd.H k34 34 (w2.setCell ⟨g, i.toNat * 4 + 2, none⟩ (.string (mText (a + 1 + 1)))) w0.heap.size P0_ (.slice (some ⟨g, 0, none⟩) l0.length c) XS i oki [.int .i64 a, .int .i64 (a + 1), .string (mText (a + 1 + 1)), .slice A3 ls.length c3] := (Kd.H_seg HH3 hi0 hlt (seg := [.string (mText (a + 1 + 1))]) (j := 2) (show 3 ≤ 4 from by decide) (by simp [Value.oneCell'])).1
      have hne : ∀ k, oki k → k ≠ g := fun k hk => (HOK.out k hk).2
      have hR3 := Aside0.mk (Kd.R_far (p := ⟨g, i.toNat * 4 + 2, none⟩) (Kd.R_below (Kd.R_far (p := ⟨g, i.toNat * 4 + 1, none⟩) (Kd.R_far (p := ⟨g, i.toNat * 4, none⟩) HR.out hne (.int .i64 a)) hne (.int .i64 (a + 1))) hb) hne (.string (mText (a + 1 + 1))))
      have HB3 := Aside0.mk (below_set (j := i.toNat * 4 + 2) (v := .string (mText (a + 1 + 1))) (below_into (w := w0) hb (below_set (below_set HB.out hg0) hg0)) hg0)
      have HK3 := Aside0.mk (Kept.setCell (Kept.below (Kept.setCell (Kept.setCell HK.out (p := ⟨g, i.toNat * 4, none⟩) (.inl HPG.out) (.int .i64 a)) (p := ⟨g, i.toNat * 4 + 1, none⟩) (.inl HPG.out) (.int .i64 (a + 1))) hb) (p := ⟨g, i.toNat * 4 + 2, none⟩) (.inl HPG.out) (.string (mText (a + 1 + 1))))
      replace HH := Aside0.mk HH4
      have HNE := Aside0.mk hne
      clear HH1 HH2 HH3 HH4 hne hb x0 x1 x2 x3 f0 f1 f2 w1
      go_wp2_with fail
      refine (laws_markLineS.calls (ls.length + 1) oki (.slice A3 ls.length c3) ls (a + 1 + 1 + 1) _ _ w0 _ HB3.out hR3.out (laws_markLineS_is ls _ _ (by omega) hxl (by omega) (by omega))).mono ?_
      rintro e w4 ⟨rfl, hR4, hB4, hK4⟩
      have HX : (⟨a, a + 1, mText (a + 1 + 1), mAll mLine nLine (a + 1 + 1 + 1) ls⟩ : Ent) = mEnt (nAll nEnt a1 (l0.take i.toNat)) (rd_T34 l0 i) := by rw [← HA.out]; unfold mEnt; rw [HLS.out]
      have HS4 := Aside0.mk (Kd.H_back (Kd.H_step HH.out (fun k _ hn hlt => hK4.2 k hlt hn)) (k34_mkM _ _ _ (⟨a, a + 1, mText (a + 1 + 1), mAll mLine nLine (a + 1 + 1 + 1) ls⟩ : Ent) (Kd.R_tight rfl hR4)) (fun k hk => HR.out.1 k hk.symm))
      have HB4 := Aside0.mk hB4
      have HK4 := Aside0.mk (HK3.out.then_ hK4 (fun k hk => .inl (HOK.out k hk).1))
      have hnb := nEnt_b (l0.take (i + 1).toNat) (fun x hx => HL.out x (List.mem_of_mem_take hx)) a1
      have hnx : nAll nEnt a1 (l0.take (i + 1).toNat) = nAll nLine (a + 1 + 1 + 1) ls := by rw [MS.out.2.1, ← HA.out]; unfold nEnt; rw [HLS.out]
      have hnl := nLine_b ls (a + 1 + 1 + 1)
      have htl : (l0.take (i + 1).toNat).length ≤ 1048576 := by rw [List.length_take]; omega
      rw [hnx] at hnb
      have HNX := Aside0.mk hnx
      clear hR4 hB4 hK4 hnx
      go_wp2_with fail
      go_roundw
      case rel => exact ⟨i + 1, nAll nLine (a + 1 + 1 + 1) ls, by omega, by omega, rfl, rfl, by omega, by omega, ⟨HNX.out.symm⟩, ⟨by have := HS4.out; rw [HX, MS.out.1] at this; exact this⟩, HB4, HK4⟩
      case measure => simp [intOf]; omega
    · go_wp2_with fail
      go_ret
      have e1 : l0.take i.toNat = l0 := List.take_of_length_le (by omega)
      have e2 : l0.drop i.toNat = [] := List.drop_of_length_le (by omega)
      have h := HS.out
      have ha := HA.out
      rw [e1] at ha h
      rw [e2, List.append_nil] at h
      exact ⟨ret_i ha, h, HB.out, HK.out⟩
end Go.Proofs.Ytphmnkcfjgallaa.Q
namespace Go.Proofs.Ytphmnkcfjgallaa.Q
open Go.RowKit Go.Proofs.YtphmnkcfjgallaaW.PrintWords Go.Proofs.YtphmnkcfjgallaaW.PrintLast Go.Proofs.YtphmnkcfjgallaaW.PrintMore
attribute [local go_sem] max2_int min2_int max_two min_two max_three min_three max_four min_four   -- for this text's walks alone
set_option linter.unusedVariables false
set_option linter.unusedSimpArgs false
end Go.Proofs.Ytphmnkcfjgallaa.Q
