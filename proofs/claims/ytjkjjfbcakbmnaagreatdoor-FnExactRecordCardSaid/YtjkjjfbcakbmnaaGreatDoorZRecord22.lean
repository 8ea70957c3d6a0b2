/- Parts of the proof: what functions of the program and of the reference answer.
   No condition. -/
import Derived.Test.YtjkjjfbcakbmnaaGreatDoorZRecord1
import Derived.Test.YtjkjjfbcakbmnaaGreatDoorZRecord2
import Derived.Test.YtjkjjfbcakbmnaaGreatDoorZRecord18
import Derived.Test.YtjkjjfbcakbmnaaGreatDoorZRecord19
import Derived.Test.YtjkjjfbcakbmnaaGreatDoorZRecord4
import Derived.Test.YtjkjjfbcakbmnaaGreatDoorZRecord15
namespace Go.Proofs.YtjkjjfbcakbmnaaGreatDoor.Q
open Go.RowKit Go.Proofs.YtjkjjfbcakbmnaaGreatDoorW.PrintWords Go.Proofs.YtjkjjfbcakbmnaaGreatDoorW.PrintLast Go.Proofs.YtjkjjfbcakbmnaaGreatDoorW.PrintMore
attribute [local go_sem] max2_int min2_int max_two min_two max_three min_three max_four min_four   -- for this text's walks alone
set_option linter.unusedVariables false
set_option linter.unusedSimpArgs false
def linkStep (s : Int × Bool) (x : Int) : Int × Bool := if -549755813888 ≤ x ∧ x ≤ 549755813887 then ((s.1 * 1000003 + x + 549755813888) % 1099511627791, s.2) else (s.1, true)
def linkAll (s : Int × Bool) (xs : List Int) : Int × Bool := xs.foldl linkStep s
def HeadIn (s : Int × Bool) : Prop := 0 ≤ s.1 ∧ s.1 < 1099511627791
theorem linkStep_in {s : Int × Bool} (h : HeadIn s) (x : Int) : HeadIn (linkStep s x) := by
  unfold linkStep HeadIn at *
  split
  · exact ⟨Int.emod_nonneg _ (by omega), Int.emod_lt_of_pos _ (by omega)⟩
  · exact h
theorem linkAll_in {s : Int × Bool} (h : HeadIn s) (xs : List Int) : HeadIn (linkAll s xs) := by
  induction xs generalizing s with
  | nil => exact h
  | cons x xs ih => exact ih (linkStep_in h x)
theorem linkAll_append (s : Int × Bool) (xs ys : List Int) : linkAll s (xs ++ ys) = linkAll (linkAll s xs) ys := List.foldl_append
theorem linkAll_cons (s : Int × Bool) (x : Int) (xs : List Int) : linkAll s (x :: xs) = linkAll (linkStep s x) xs := rfl
def ChainAt (w : World) (g : Nat) (s : Int × Bool) : Prop := w.heap[g]? = some (.cells #[.int .i64 s.1, .bool s.2] 110 (0, 0))
structure LinkPost (w0 w : World) (g : Nat) (s : Int × Bool) (w' : World) : Prop where
  at_ : ChainAt w' g s
  bel : Below w0.heap.size w0 w'
  keep : KeepBut w w' g none
theorem LinkPost.refl {w0 w : World} {g : Nat} {s : Int × Bool} (h : ChainAt w g s) (hB : Below w0.heap.size w0 w) : LinkPost w0 w g s w := ⟨h, hB, KeepBut.refl w g none⟩
theorem LinkPost.trans {w0 w w1 w2 : World} {g : Nat} {s t : Int × Bool} (h : LinkPost w0 w g s w1) (h2 : LinkPost w0 w1 g t w2) : LinkPost w0 w g t w2 := ⟨h2.at_, h2.bel, KeepBut.trans h.keep h2.keep (.inl rfl)⟩
set_option maxHeartbeats 8000000 in
set_option maxRecDepth 100000 in
theorem chain_link_calls (g : Nat) (s : Int × Bool) (x : Int) (w0 w : World) (hc : ChainAt w g s) (hs : HeadIn s) (hge : w0.heap.size ≤ g) (hB : Below w0.heap.size w0 w) :
    Calls Tryz.prog 57 #[.pointer (some ⟨g, 0, none⟩), .int .i64 x] w fun e w' => e = .returned (.tuple #[]) ∧ LinkPost w0 w g (linkStep s x) w' := by
  obtain ⟨h0, h1⟩ := hs
  have HC := Aside0.mk hc
  have HB := Aside0.mk hB
  unfold ChainAt at hc
  have c0 : w.cell? ⟨g, 0, none⟩ = some (.int .i64 s.1) := y03 hc 0
  have c1 : w.cell? ⟨g, 1, none⟩ = some (.bool s.2) := y03 hc 1
  have f0 := y05 hc 0
  have f1 := y05 hc 1
  clear hc hB
  by_cases hx : -549755813888 ≤ x ∧ x ≤ 549755813887
  · have hb := inB_of hx
    have hst : linkStep s x = ((s.1 * 1000003 + x + 549755813888) % 1099511627791, s.2) := if_pos hx
    have htm : (s.1 * 1000003 + x + 549755813888).tmod 1099511627791 = (s.1 * 1000003 + x + 549755813888) % 1099511627791 := Int.tmod_eq_emod_of_nonneg (by omega)
    have HST := Aside0.mk hst
    have HTM := Aside0.mk htm
    clear hst htm
    obtain ⟨hx0, hx1⟩ := hx
    go_enter Tryz.func57, Tryz.ntmps57
    go_wp2_with fail
    refine (impl_between.to _ _ _ _).mono ?_
    rintro e w' ⟨rfl, rfl⟩
    rw [hb]
    go_wp2_with fail
    go_end0
    refine ⟨rfl, ?_⟩
    rw [HST.out]
    exact ⟨blk_set HC.out 0 _, y08 HB.out hge, KeepBut.set_ (KeepBut.refl _ _ _) _ _⟩
  · have hb := inB_not hx
    have hst : linkStep s x = (s.1, true) := if_neg hx
    have HST := Aside0.mk hst
    clear hst
    go_enter Tryz.func57, Tryz.ntmps57
    go_wp2_with fail
    refine (impl_between.to _ _ _ _).mono ?_
    rintro e w' ⟨rfl, rfl⟩
    rw [hb]
    go_wp2_with fail
    (try simp only [Exit.inBlock, Exit.then])
    refine bodyPost_ret (results_none rfl _ _ _) rfl ?_
    refine ⟨rfl, ?_⟩
    rw [HST.out]
    exact ⟨blk_set HC.out 1 _, y08 HB.out hge, KeepBut.set_ (KeepBut.refl _ _ _) _ _⟩
def lineNums (x : Lin) : List Int := [x.f0, x.f1, x.f2, x.f3, x.f4]
def bytesN (s : ByteArray) : Nat → List Int
  | 0 => []
  | n + 1 => bytesN s n ++ [bt s n]
def numsOf (e : Ent) : List Int := [e.f0, e.f1, (e.f2.size : Int)] ++ bytesN e.f2 e.f2.size ++ [(e.f3.length : Int)] ++ e.f3.flatMap lineNums
theorem link_bytes (s : Int × Bool) (xs : List Int) (t : ByteArray) {i : Int} (h0 : 0 ≤ i) : linkStep (linkAll s (xs ++ bytesN t i.toNat)) (bt t i) = linkAll s (xs ++ bytesN t (i + 1).toNat) := by
  rw [show (i + 1).toNat = i.toNat + 1 by omega]
  show _ = linkAll s (xs ++ (bytesN t i.toNat ++ [bt t (i.toNat : Int)]))
  rw [← List.append_assoc, linkAll_append s (xs ++ _), show ((i.toNat : Nat) : Int) = i by omega]
  rfl
theorem link_lines (s : Int × Bool) (xs : List Int) {l : List Lin} {i : Int} (h0 : 0 ≤ i) (h1 : i < (l.length : Int)) : linkStep (linkStep (linkStep (linkStep (linkStep (linkAll s (xs ++ (l.take i.toNat).flatMap lineNums)) (rd_T88 l i).f0) (rd_T88 l i).f1) (rd_T88 l i).f2) (rd_T88 l i).f3) (rd_T88 l i).f4 = linkAll s (xs ++ (l.take (i + 1).toNat).flatMap lineNums) := by
  rw [take_snoc h0 h1, List.flatMap_append, ← List.append_assoc, linkAll_append s (xs ++ _)]
  rfl
def entO (e : Ent) (A3 : Option Addr) (c3 : Nat) : Obj := .cells #[.int .i64 e.f0, .int .i64 e.f1, .string e.f2, .slice A3 e.f3.length c3] 41 (0, 0)
theorem LinkPost.box {w0 w w' : World} {g : Nat} {s : Int × Bool} {e : Ent} {A3 : Option Addr} {c3 : Nat} (h : LinkPost w0 (w.alloc (entO e A3 c3)) g s w') (hg : g < w.heap.size) : w'.heap[w.heap.size]? = some (.cells #[.int .i64 e.f0, .int .i64 e.f1, .string e.f2, .slice A3 e.f3.length c3] 41 (0, 0)) := h.keep.blk (blk_new _ _) (by omega) (by simp)
theorem LinkPost.alloc {w0 w w1 : World} {g : Nat} {s : Int × Bool} (h : LinkPost w0 w g s w1) (o : Obj) : LinkPost w0 w g s (w1.alloc o) := ⟨y06 h.at_ _, y01 h.bel _, keep_alloc h.keep _⟩
set_option maxHeartbeats 8000000 in
set_option maxRecDepth 100000 in
theorem impl_numbersOf.to (g : Nat) (s : Int × Bool) (e : Ent) (A3 : Option Addr) (c3 : Nat) (w0 w : World) (hc : ChainAt w g s) (hs : HeadIn s) (hge : w0.heap.size ≤ g) (hB : Below w0.heap.size w0 w) (hr3 : Kd.C k88 w0 A3 e.f3.length e.f3) (hm : e.f2.size ≤ 40) :
    Calls Tryz.prog 56 #[.agg #[.int .i64 e.f0, .int .i64 e.f1, .string e.f2, .slice A3 e.f3.length c3], .func (.func 57) #[.pointer (some ⟨g, 0, none⟩)] #[]] w fun x w' => x = .returned (.tuple #[]) ∧ LinkPost w0 w g (linkAll s (numsOf e)) w' := by
  have hgw : g < w.heap.size := blk_lt hc
  have HP := Aside0.mk (show LinkPost w0 (w.alloc (entO e A3 c3)) g s (w.alloc (entO e A3 c3)) from LinkPost.refl (y06 hc _) (by exact hB.alloc (by have := hB.size; omega) _))
  have H3 := Aside0.mk hr3
  have HS := Aside0.mk hs
  have HS0 := Aside0.mk hs
  have hlen := hr3.2.1
  clear hc hB hr3 hs
  go_enter Tryz.func56, Tryz.ntmps56
  go_wp2_with fail
  refine (chain_link_calls g _ _ w0 _ HP.out.at_ HS.out hge HP.out.bel).mono ?_
  rintro x w1 ⟨rfl, P1⟩
  have P1 := Aside0.mk (HP.out.trans P1)
  have HS1 := Aside0.mk (linkStep_in HS.out e.f0)
  have y1 := y03 (P1.out.box hgw) 1
  have HS1 := Aside0.mk (linkStep_in HS.out e.f0)
  clear HP HS
  go_wp2_with fail
  refine (chain_link_calls g _ _ w0 _ P1.out.at_ HS1.out hge P1.out.bel).mono ?_
  rintro x w2 ⟨rfl, P2⟩
  have P2 := Aside0.mk (P1.out.trans P2)
  have HS2 := Aside0.mk (linkStep_in HS1.out e.f1)
  have y2 := y03 (P2.out.box hgw) 2
  clear P1 HS1 y1
  go_wp2_with fail
  refine (chain_link_calls g _ _ w0 _ P2.out.at_ HS2.out hge P2.out.bel).mono ?_
  rintro x w3 ⟨rfl, P3⟩
  have P3 := Aside0.mk (show LinkPost w0 (w.alloc (entO e A3 c3)) g (linkAll s ([e.f0, e.f1, (e.f2.size : Int)] ++ bytesN e.f2 (0 : Int).toNat)) w3 from P2.out.trans P3)
  clear P2 HS2 y2
  go_wp2_with fail
  go_loopw [4] (fun v wr => ∃ i : Int, 0 ≤ i ∧ i ≤ (e.f2.size : Int) ∧ v = .int .i64 i ∧ Aside0 (LinkPost w0 (w.alloc (entO e A3 c3)) g (linkAll s ([e.f0, e.f1, (e.f2.size : Int)] ++ bytesN e.f2 i.toNat)) wr)) (fun v _ => (e.f2.size - (intOf v).toNat))
  case atStart => exact ⟨0, by omega, by omega, rfl, P3⟩
  case round =>
    clear P3
    obtain ⟨i, hi0, hi1, rfl, HP⟩ := hrel
    have z2 := y03 (HP.out.box hgw) 2
    have z3 := y03 (HP.out.box hgw) 3
    by_cases hlt : i < (e.f2.size : Int)
    · have hx := bt_at e.f2 i
      obtain ⟨hb0, hb1⟩ := bt_range e.f2 i
      go_wp2_with fail
      refine (chain_link_calls g _ _ w0 _ HP.out.at_ (linkAll_in HS0.out _) hge HP.out.bel).mono ?_
      rintro x w4 ⟨rfl, P4⟩
      have P4 := Aside0.mk (HP.out.trans P4)
      go_wp2_with fail
      go_roundw
      case rel => exact ⟨i + 1, by omega, by omega, rfl, ⟨by have := P4.out; rw [link_bytes _ _ _ hi0] at this; exact this⟩⟩
      case measure => simp [intOf]; omega
    · obtain rfl : i = (e.f2.size : Int) := by omega
      go_wp2_with fail
      refine (chain_link_calls g _ _ w0 _ HP.out.at_ (linkAll_in HS0.out _) hge HP.out.bel).mono ?_
      rintro x w5 ⟨rfl, P5⟩
      have P5 := Aside0.mk (show LinkPost w0 (w.alloc (entO e A3 c3)) g (linkAll s ([e.f0, e.f1, (e.f2.size : Int)] ++ bytesN e.f2 e.f2.size ++ [(e.f3.length : Int)] ++ (e.f3.take (0 : Int).toNat).flatMap lineNums)) w5 from by
        have := HP.out.trans P5
        rw [show e.f3.take (0 : Int).toNat = [] from rfl, List.flatMap_nil, List.append_nil, linkAll_append s (_ ++ _)]
        exact this)
      have y3 := y03 (P5.out.box hgw) 3
      clear HP z2 z3
      go_wp2_with fail
      go_loopw [42] (fun v wr => ∃ i : Int, 0 ≤ i ∧ i ≤ (e.f3.length : Int) ∧ v = .int .i64 i ∧ Aside0 (LinkPost w0 (w.alloc (entO e A3 c3)) g (linkAll s ([e.f0, e.f1, (e.f2.size : Int)] ++ bytesN e.f2 e.f2.size ++ [(e.f3.length : Int)] ++ (e.f3.take i.toNat).flatMap lineNums)) wr)) (fun v _ => (e.f3.length - (intOf v).toNat))
      case atStart => exact ⟨0, by omega, by omega, rfl, P5⟩
      case round =>
        clear P5 y3
        obtain ⟨j, hj0, hj1, rfl, HP⟩ := hrel
        by_cases hlt : j < (e.f3.length : Int)
        · obtain ⟨ad, e0, x0, x1, x2, x3, x4⟩ := at_T88 (Kd.C_below H3.out HP.out.bel) j hj0 hlt
          cases e0
          have hgr : g < wr.heap.size := blk_lt HP.out.at_
          have Q := Aside0.mk (HP.out.alloc (lineO (rd_T88 e.f3 j)))
          have T0 := Aside0.mk (linkAll_in HS0.out ([e.f0, e.f1, (e.f2.size : Int)] ++ bytesN e.f2 e.f2.size ++ [(e.f3.length : Int)] ++ (e.f3.take j.toNat).flatMap lineNums))
          clear HP
          go_wp2_with fail
          refine (chain_link_calls g _ _ w0 _ Q.out.at_ T0.out hge Q.out.bel).mono ?_
          rintro x w6 ⟨rfl, R0⟩
          have N0 := Aside0.mk (R0.keep.blk (blk_new wr (lineO (rd_T88 e.f3 j))) (by omega) (by simp))
          have Q0 := Aside0.mk (Q.out.trans R0)
          have T1 := Aside0.mk (linkStep_in T0.out (rd_T88 e.f3 j).f0)
          have u1 := y03 N0.out 1
          clear Q T0 R0
          go_wp2_with fail
          refine (chain_link_calls g _ _ w0 _ Q0.out.at_ T1.out hge Q0.out.bel).mono ?_
          rintro x w7 ⟨rfl, R1⟩
          have N1 := Aside0.mk (R1.keep.blk (N0.out) (by omega) (by simp))
          have Q1 := Aside0.mk (Q0.out.trans R1)
          have T2 := Aside0.mk (linkStep_in T1.out (rd_T88 e.f3 j).f1)
          have u2 := y03 N1.out 2
          clear Q0 T1 R1 u1
          go_wp2_with fail
          refine (chain_link_calls g _ _ w0 _ Q1.out.at_ T2.out hge Q1.out.bel).mono ?_
          rintro x w8 ⟨rfl, R2⟩
          have N2 := Aside0.mk (R2.keep.blk (N1.out) (by omega) (by simp))
          have Q2 := Aside0.mk (Q1.out.trans R2)
          have T3 := Aside0.mk (linkStep_in T2.out (rd_T88 e.f3 j).f2)
          have u3 := y03 N2.out 3
          clear Q1 T2 R2 u2
          go_wp2_with fail
          refine (chain_link_calls g _ _ w0 _ Q2.out.at_ T3.out hge Q2.out.bel).mono ?_
          rintro x w9 ⟨rfl, R3⟩
          have N3 := Aside0.mk (R3.keep.blk (N2.out) (by omega) (by simp))
          have Q3 := Aside0.mk (Q2.out.trans R3)
          have T4 := Aside0.mk (linkStep_in T3.out (rd_T88 e.f3 j).f3)
          have u4 := y03 N3.out 4
          clear Q2 T3 R3 u3
          go_wp2_with fail
          refine (chain_link_calls g _ _ w0 _ Q3.out.at_ T4.out hge Q3.out.bel).mono ?_
          rintro x w10 ⟨rfl, R4⟩
          have N4 := Aside0.mk (R4.keep.blk (N3.out) (by omega) (by simp))
          have Q4 := Aside0.mk (Q3.out.trans R4)
          go_wp2_with fail
          go_roundw
          case rel => exact ⟨j + 1, by omega, by omega, rfl, ⟨by have := Q4.out; rw [link_lines _ _ hj0 hlt] at this; exact this⟩⟩
          case measure => simp [intOf]; omega
        · obtain rfl : j = (e.f3.length : Int) := by omega
          have HE := Aside0.mk (show LinkPost w0 w g (linkAll s (numsOf e)) wr from by
            have h := HP.out
            rw [List.take_of_length_le (by omega)] at h
            exact ⟨h.at_, h.bel, KeepBut.trans (keep_alloc (KeepBut.refl _ _ _) _) h.keep (.inl rfl)⟩)
          go_wp2_with fail
          go_end0
          exact ⟨rfl, HE.out⟩
def tooLong (e : Ent) : Prop := 60 < e.f3.length ∨ 40 < e.f2.size
open Classical in
noncomputable def headV (l : List Ent) : Int :=
  if 1000 < l.length ∨ ∃ e ∈ l, tooLong e then 0 else if (linkAll (1, false) (l.flatMap numsOf)).2 = true then 0 else (linkAll (1, false) (l.flatMap numsOf)).1
theorem headV_long {l : List Ent} (h : 1000 < l.length ∨ ∃ e ∈ l, tooLong e) : headV l = 0 := if_pos h
theorem headV_bad {l : List Ent} (h : ¬ (1000 < l.length ∨ ∃ e ∈ l, tooLong e)) (hb : (linkAll (1, false) (l.flatMap numsOf)).2 = true) : headV l = 0 := by unfold headV; rw [if_neg h, if_pos hb]
theorem headV_good {l : List Ent} (h : ¬ (1000 < l.length ∨ ∃ e ∈ l, tooLong e)) (hb : (linkAll (1, false) (l.flatMap numsOf)).2 = false) : headV l = (linkAll (1, false) (l.flatMap numsOf)).1 := by unfold headV; rw [if_neg h, if_neg (by rw [hb]; simp)]
theorem head_step (s : Int × Bool) {l : List Ent} {i : Int} (h0 : 0 ≤ i) (h1 : i < (l.length : Int)) : linkAll (linkAll s ((l.take i.toNat).flatMap numsOf)) (numsOf (rd_T41 l i)) = linkAll s ((l.take (i + 1).toNat).flatMap numsOf) := by
  have ht : l.take (i + 1).toNat = l.take i.toNat ++ [rd_T41 l i] := by
    rw [show (i + 1).toNat = i.toNat + 1 by omega, List.take_add_one]
    unfold rd_T41
    rw [List.getD_eq_getElem?_getD, List.getElem?_eq_getElem (by omega)]
    rfl
  rw [ht, List.flatMap_append, linkAll_append s]
  rw [show [rd_T41 l i].flatMap numsOf = numsOf (rd_T41 l i) by simp]
theorem headIn_one : HeadIn (1, false) := by unfold HeadIn; decide
set_option maxHeartbeats 8000000 in
set_option maxRecDepth 100000 in
theorem impl_HeadOf.to (A0 : Option Addr) (c0 : Nat) (l0 : List Ent) (w : World) (hr0 : Kd.C k41 w A0 l0.length l0) :
    Calls Tryz.prog 91 #[.slice A0 l0.length c0] w fun x w' => x = .returned (.int .i64 (headV l0)) ∧ Below w.heap.size w w' := by
  have hl := hr0.2.1
  have H0 := Aside0.mk hr0
  clear hr0
  by_cases h1 : 1000 < l0.length
  case pos =>
    have HV := Aside0.mk (headV_long (l := l0) (Or.inl h1))
    go_enter Tryz.func91, Tryz.ntmps91
    go_wp2_with fail
    go_ret
    exact ⟨ret_i HV.out.symm, Below.refl _ _⟩
  have HP := Aside0.mk (show LinkPost w (w.alloc (.cells #[.int .i64 1, .bool false] 110)) w.heap.size (linkAll (1, false) ((l0.take (0 : Int).toNat).flatMap numsOf)) (w.alloc (.cells #[.int .i64 1, .bool false] 110)) from LinkPost.refl (blk_new _ _) (y01 (Below.refl _ _) _))
  go_enter Tryz.func91, Tryz.ntmps91
  go_wp2_with fail
  go_loopw [16] (fun v wr => ∃ i : Int, 0 ≤ i ∧ i ≤ (l0.length : Int) ∧ v = .int .i64 i ∧ Aside0 (LinkPost w (w.alloc (.cells #[.int .i64 1, .bool false] 110)) w.heap.size (linkAll (1, false) ((l0.take i.toNat).flatMap numsOf)) wr) ∧ Aside0 (∀ x ∈ l0.take i.toNat, ¬ tooLong x)) (fun v _ => (l0.length - (intOf v).toNat))
  case atStart => exact ⟨0, by omega, by omega, rfl, HP, ⟨fun x hx => by cases hx⟩⟩
  case round =>
    clear HP
    obtain ⟨i, hi0, hi1, rfl, HP, HT⟩ := hrel
    have hgw : w.heap.size < wr.heap.size := blk_lt HP.out.at_
    by_cases hlt : i < (l0.length : Int)
    · obtain ⟨ad, A3, c3, e0, x0, x1, x2, x3, x4, x5⟩ := at_T41 H0.out i hi0 hlt
      cases e0
      have y0 := y00 HP.out.bel x0
      have y1 := y00 HP.out.bel x1
      have y2 := y00 HP.out.bel x2
      have y3 := y00 HP.out.bel x3
      have X5 := Aside0.mk x5
      have Q := Aside0.mk (HP.out.alloc (entO (rd_T41 l0 i) A3 c3))
      have HLN := Aside0.mk (fun (q : tooLong (rd_T41 l0 i)) => headV_long (l := l0) (Or.inr ⟨rd_T41 l0 i, by unfold rd_T41; rw [List.getD_eq_getElem?_getD, List.getElem?_eq_getElem (by omega)]; exact List.getElem_mem _, q⟩))
      clear x0 x1 x2 x3 x5 HP
      by_cases h2 : 60 < (rd_T41 l0 i).f3.length
      · have HV := Aside0.mk (HLN.out (Or.inl h2))
        go_wp2_with fail
        go_ret
        exact ⟨ret_i HV.out.symm, Q.out.bel⟩
      · by_cases h3 : 40 < (rd_T41 l0 i).f2.size
        · have HV := Aside0.mk (HLN.out (Or.inr h3))
          go_wp2_with fail
          go_ret
          exact ⟨ret_i HV.out.symm, Q.out.bel⟩
        · have HT1 := Aside0.mk (all_step (z := z41) (p := fun x => ¬ tooLong x) hi0 hlt HT.out (fun q => q.elim h2 h3))
          clear HT HLN
          go_wp2_with fail
          refine (impl_numbersOf.to _ _ (rd_T41 l0 i) A3 c3 w _ Q.out.at_ (linkAll_in headIn_one _) (Nat.le_refl _) Q.out.bel X5.out (by omega)).mono ?_
          rintro x w1 ⟨rfl, P1⟩
          have P1 := Aside0.mk (Q.out.trans P1)
          clear Q X5
          go_wp2_with fail
          go_roundw
          case rel => exact ⟨i + 1, by omega, by omega, rfl, ⟨by have := P1.out; rw [head_step _ hi0 hlt] at this; exact this⟩, HT1⟩
          case measure => simp [intOf]; omega
    · have hno : ¬ (1000 < l0.length ∨ ∃ e ∈ l0, tooLong e) := fun q => q.elim h1 (fun ⟨e, he, q⟩ => all_end (by omega) HT.out e he q)
      have hat := HP.out.at_
      have HB := Aside0.mk HP.out.bel
      rw [List.take_of_length_le (by omega)] at hat
      cases hb : (linkAll (1, false) (l0.flatMap numsOf)).2 with
      | true =>
        have HV := Aside0.mk (headV_bad hno hb)
        have c1 := y03 hat 1
        rw [hb] at c1
        clear hat HT HP hno hb
        go_wp2_with fail
        go_ret
        exact ⟨ret_i HV.out.symm, HB.out⟩
      | false =>
        have HV := Aside0.mk (headV_good hno hb)
        have c0 := y03 hat 0
        have c1 := y03 hat 1
        rw [hb] at c1
        clear hat HT HP hno hb
        go_wp2_with fail
        go_ret
        exact ⟨ret_i HV.out.symm, HB.out⟩
set_option maxHeartbeats 4000000 in
set_option maxRecDepth 100000 in
theorem laws_eqLedger.calls (A0_0 : Option Addr) (c0_0 : Nat) (l0_0 : List (S41)) (a0_1 : Int) (A1_0 : Option Addr) (c1_0 : Nat) (l1_0 : List (S41)) (a1_1 : Int) (w : World) (hr0_0 : Kd.C k41 w A0_0 l0_0.length l0_0) (hr1_0 : Kd.C k41 w A1_0 l1_0.length l1_0) :
    Calls Tryz.prog 71 #[.agg #[.slice A0_0 l0_0.length c0_0, .int .i64 a0_1], .agg #[.slice A1_0 l1_0.length c1_0, .int .i64 a1_1]] w fun e w' => e = .returned (.bool (same ((⟨l0_0, a0_1⟩ : S29) : S29) ((⟨l1_0, a1_1⟩ : S29) : S29))) ∧ Below w.heap.size w w' := by
  have Hl0_0 := Aside0.mk hr0_0
  clear hr0_0
  have Hl1_0 := Aside0.mk hr1_0
  clear hr1_0
  go_enter Tryz.func71, Tryz.ntmps71
  go_wp2_with fail
  refine (laws_eqEntryS.calls A0_0 c0_0 l0_0 A1_0 c1_0 l1_0 _ (Kd.C_below Hl0_0.out (by repeat (first | exact Below.refl _ _ | refine y01 ?_ _ | refine y04 ?_ | refine y02 ?_ _))) (Kd.C_below Hl1_0.out (by repeat (first | exact Below.refl _ _ | refine y01 ?_ _ | refine y04 ?_ | refine y02 ?_ _)))).mono ?_
  rintro e w10 ⟨rfl, hb⟩
  have s0_a1 : w10.cell? ⟨w.heap.size, 1, none⟩ = some (.int .i64 a0_1) := y00 hb (by first | assumption | (go_simp; done))
  have s0_b1 : w10.cell? ⟨w.heap.size + 1, 1, none⟩ = some (.int .i64 a1_1) := y00 hb (by first | assumption | (go_simp; done))
  have HB0 := Aside0.mk (y10 (w := w) hb (by repeat (first | exact Below.refl _ _ | refine y01 ?_ _ | refine y04 ?_ | refine y02 ?_ _)))
  clear hb
  by_cases h0 : l0_0 = l1_0
  · rw [← same_true h0]
    have E0 := Aside0.mk h0
    clear h0
    by_cases h1 : a0_1 = a1_1
    · have hb1 : (a0_1 != a1_1) = false := by rw [h1]; simp
      have E1 := Aside0.mk h1
      clear h1
      go_wp2
      go_ret
      exact ⟨ret_bool (same_true (by rw [E0.out, E1.out])), HB0.out⟩
    · have hb1 : (a0_1 != a1_1) = true := by simpa using h1
      have E1 := Aside0.mk h1
      clear h1
      go_wp2
      go_ret
      exact ⟨ret_bool (same_false (fun h => E1.out (congrArg (fun x : S29 => x.f1) h))), HB0.out⟩
  · rw [← same_false h0]
    have E0 := Aside0.mk h0
    clear h0
    go_wp2
    go_ret
    exact ⟨ret_bool (same_false (fun h => E0.out (congrArg (fun x : S29 => x.f0) h))), HB0.out⟩
noncomputable def laws_toLedger.f (k : Nat) (l0_0 : List (S64)) (a0_1 : Int) : Option ((List (S41)) × Int) := (laws_toEntryS.f k l0_0).bind fun t68004 => (some (t68004, a0_1))
set_option maxHeartbeats 8000000 in
set_option maxRecDepth 100000 in
theorem laws_toLedger.calls (k : Nat) (A0_0 : Option Addr) (c0_0 : Nat) (l0_0 : List (S64)) (a0_1 : Int) (r1 : List (S41)) (r2 : Int) (w : World) (hr0_0 : Kd.C k64 w A0_0 l0_0.length l0_0) (hc0_0 : l0_0.length ≤ c0_0) (h : laws_toLedger.f k l0_0 a0_1 = some (r1, r2)) :
    Calls Tryz.prog 67 #[.agg #[.slice A0_0 l0_0.length c0_0, .int .i64 a0_1]] w fun e w' => ∃ v0_ : Value, e = .returned (.agg #[v0_, .int .i64 r2]) ∧ Kd.S k41 41 w' w.heap.size (fun _ => True) v0_ r1 ∧ Below w.heap.size w w' := by
  have hu58 := Tryz.underlying58
  have hu29 := Tryz.underlying29
  have HR0_0 := Aside0.mk hr0_0
  have HC0_0 := Aside0.mk hc0_0
  clear hr0_0 hc0_0
  have HB := Aside0.mk (Below.refl w.heap.size w)
  have H : ((laws_toEntryS.f k l0_0).bind fun t68004 => (some (t68004, a0_1))) = some (r1, r2) := h
  clear h
  replace H := Option.bind_eq_some_iff.mp H
  obtain ⟨t68004, A20, H⟩ := H
  replace H : (some (t68004, a0_1)) = some (r1, r2) := H
  have A2 := Aside0.mk A20
  clear A20
  simp only [Option.some.injEq, Prod.mk.injEq] at H
  obtain ⟨rfl, rfl⟩ := H
  go_enter Tryz.func67, Tryz.ntmps67
  go_wp2_with (first | ((with_reducible refine gate_dst (N := 1) rfl ?_); refine box_event ?hg (N := 1) ?hd (cs := #[.slice A0_0 l0_0.length c0_0, .int .i64 a0_1]) (t := 58) ?hr ?_; (case hd => rfl); (case hg => rfl); (case hr => first | (go_simp; done) | (go_simp; rfl)); intro gb68001 hg w3 hbox hb; have n0_ := Aside0.mk (below_step (by repeat (first | (with_reducible first | exact HB.out | apply y01 | apply y02 | apply y04) | exact HB.out)) hb); have n1_ := Aside0.mk (hbox); have n2_ := Aside0.mk ((by rw [hg]; exact (below_size (by repeat (first | (with_reducible first | exact HB.out | apply y01 | apply y02 | apply y04) | exact HB.out))) : w.heap.size ≤ gb68001)); have n3_ := Aside0.mk ((by rw [hg]; exact (below_size (by repeat (first | (with_reducible first | exact HB.out | apply y01 | apply y02 | apply y04) | exact HB.out))) : w.heap.size ≤ gb68001)); clear HB; have HB := n0_; have BK68001 := n1_; have GW68001 := n2_; have GE68001 := n3_; clear n0_ n1_ n2_ n3_; clear hb hbox hg) | ((with_reducible refine gate_dst (N := 2) rfl ?_); refine box_event ?hg (N := 2) ?hd (cs := #[.slice none 0 0, .int .i64 0]) (t := 29) ?hr ?_; (case hd => rfl); (case hg => rfl); (case hr => first | (go_simp; done) | (go_simp; rfl)); intro gb68002 hg w4 hbox hb; have n0_ := Aside0.mk (blk_below (g := gb68001) (o := .cells #[.slice A0_0 l0_0.length c0_0, .int .i64 a0_1] 58 (0, 0)) (by (with_reducible repeat (first | refine y07 ?_ _ | refine y09 ?_ | refine y06 ?_ _)); exact BK68001.out) hb); have n1_ := Aside0.mk (below_step (by repeat (first | (with_reducible first | exact HB.out | apply y01 | apply y02 | apply y04 | refine y08 ?_ GE68001.out) | exact HB.out)) hb); have n2_ := Aside0.mk (hbox); have n3_ := Aside0.mk ((by rw [hg]; exact (below_size (by repeat (first | (with_reducible first | exact HB.out | apply y01 | apply y02 | apply y04 | refine y08 ?_ GE68001.out) | exact HB.out))) : w.heap.size ≤ gb68002)); have n4_ := Aside0.mk ((by rw [hg]; exact (below_size (by repeat (first | (with_reducible first | exact HB.out | apply y01 | apply y02 | apply y04 | refine y08 ?_ GE68001.out) | exact HB.out))) : w.heap.size ≤ gb68002)); have n5_ := Aside0.mk ((by rw [hg]; exact Nat.ne_of_lt (blk_lt (g := gb68001) (o := .cells #[.slice A0_0 l0_0.length c0_0, .int .i64 a0_1] 58 (0, 0)) (by (with_reducible repeat (first | refine y07 ?_ _ | refine y09 ?_ | refine y06 ?_ _)); exact BK68001.out)) : gb68001 ≠ gb68002)); have n6_ := Aside0.mk ((by rw [hg]; exact Nat.ne_of_gt (blk_lt (g := gb68001) (o := .cells #[.slice A0_0 l0_0.length c0_0, .int .i64 a0_1] 58 (0, 0)) (by (with_reducible repeat (first | refine y07 ?_ _ | refine y09 ?_ | refine y06 ?_ _)); exact BK68001.out)) : gb68002 ≠ gb68001)); clear BK68001; clear HB; have BK68001 := n0_; have HB := n1_; have BK68002 := n2_; have GW68002 := n3_; have GE68002 := n4_; have NB68001_68002 := n5_; have NB68002_68001 := n6_; clear n0_ n1_ n2_ n3_ n4_ n5_ n6_; clear hb hbox hg) | ((with_reducible refine gate_dst (N := 3) rfl ?_); refine box_event ?hg (N := 3) ?hd (cs := #[.slice none 0 0, .int .i64 0]) (t := 29) ?hr ?_; (case hd => rfl); (case hg => rfl); (case hr => first | (go_simp; done) | (go_simp; rfl)); intro gb68003 hg w5 hbox hb; have n0_ := Aside0.mk (blk_below (g := gb68001) (o := .cells #[.slice A0_0 l0_0.length c0_0, .int .i64 a0_1] 58 (0, 0)) (by (with_reducible repeat (first | refine y07 ?_ _ | refine y09 ?_ | refine y06 ?_ _)); exact BK68001.out) hb); have n1_ := Aside0.mk (blk_below (g := gb68002) (o := .cells #[.slice none 0 0, .int .i64 0] 29 (0, 0)) (by (with_reducible repeat (first | refine y07 ?_ _ | refine y09 ?_ | refine y06 ?_ _)); exact BK68002.out) hb); have n2_ := Aside0.mk (below_step (by repeat (first | (with_reducible first | exact HB.out | apply y01 | apply y02 | apply y04 | refine y08 ?_ GE68001.out | refine y08 ?_ GE68002.out) | exact HB.out)) hb); have n3_ := Aside0.mk (hbox); have n4_ := Aside0.mk ((by rw [hg]; exact (below_size (by repeat (first | (with_reducible first | exact HB.out | apply y01 | apply y02 | apply y04 | refine y08 ?_ GE68001.out | refine y08 ?_ GE68002.out) | exact HB.out))) : w.heap.size ≤ gb68003)); have n5_ := Aside0.mk ((by rw [hg]; exact (below_size (by repeat (first | (with_reducible first | exact HB.out | apply y01 | apply y02 | apply y04 | refine y08 ?_ GE68001.out | refine y08 ?_ GE68002.out) | exact HB.out))) : w.heap.size ≤ gb68003)); have n6_ := Aside0.mk ((by rw [hg]; exact Nat.ne_of_lt (blk_lt (g := gb68001) (o := .cells #[.slice A0_0 l0_0.length c0_0, .int .i64 a0_1] 58 (0, 0)) (by (with_reducible repeat (first | refine y07 ?_ _ | refine y09 ?_ | refine y06 ?_ _)); exact BK68001.out)) : gb68001 ≠ gb68003)); have n7_ := Aside0.mk ((by rw [hg]; exact Nat.ne_of_gt (blk_lt (g := gb68001) (o := .cells #[.slice A0_0 l0_0.length c0_0, .int .i64 a0_1] 58 (0, 0)) (by (with_reducible repeat (first | refine y07 ?_ _ | refine y09 ?_ | refine y06 ?_ _)); exact BK68001.out)) : gb68003 ≠ gb68001)); have n8_ := Aside0.mk ((by rw [hg]; exact Nat.ne_of_lt (blk_lt (g := gb68002) (o := .cells #[.slice none 0 0, .int .i64 0] 29 (0, 0)) (by (with_reducible repeat (first | refine y07 ?_ _ | refine y09 ?_ | refine y06 ?_ _)); exact BK68002.out)) : gb68002 ≠ gb68003)); have n9_ := Aside0.mk ((by rw [hg]; exact Nat.ne_of_gt (blk_lt (g := gb68002) (o := .cells #[.slice none 0 0, .int .i64 0] 29 (0, 0)) (by (with_reducible repeat (first | refine y07 ?_ _ | refine y09 ?_ | refine y06 ?_ _)); exact BK68002.out)) : gb68003 ≠ gb68002)); clear BK68001; clear BK68002; clear HB; have BK68001 := n0_; have BK68002 := n1_; have HB := n2_; have BK68003 := n3_; have GW68003 := n4_; have GE68003 := n5_; have NB68001_68003 := n6_; have NB68003_68001 := n7_; have NB68002_68003 := n8_; have NB68003_68002 := n9_; clear n0_ n1_ n2_ n3_ n4_ n5_ n6_ n7_ n8_ n9_; clear hb hbox hg; have hnb6 := NB68001_68002.out; have hnc6 := NB68002_68001.out; have hnb7 := NB68001_68003.out; have hnc7 := NB68003_68001.out; have hcz8_0 : w5.cell? ⟨gb68001, 0, none⟩ = some (.slice A0_0 l0_0.length c0_0) := (y03 BK68001.out 0).trans rfl; have hcz8_1 : w5.cell? ⟨gb68001, 1, none⟩ = some (.int .i64 a0_1) := (y03 BK68001.out 1).trans rfl; have hfz8_0 := y05 BK68001.out 0; have hfz8_1 := y05 BK68001.out 1) | ((with_reducible refine gate_callee (f := 108) rfl ?_); refine goesL_ (some 6) rfl rfl Tryz.func108 (by kernel_rfl) rfl #[.slice A0_0 l0_0.length c0_0] rfl (by (try simp only [List.map_toArray, List.map_cons, List.map_nil]); first | done | rfl | (simp only [List.length_drop, List.length_take]; rfl)) ?_; (with_reducible refine (laws_toEntryS.calls k _ _ l0_0 t68004 _ ?side1 ?side2 A2.out).mono ?_); (case side1 => repeat (first | exact (Kd.C_below HR0_0.out HB.out) | (with_reducible refine Kd.C_alloc ?_ _) | (with_reducible refine Kd.C_drewN ?_ _) | (with_reducible refine Kd.C_drew ?_))); (case side2 => exact HC0_0.out); rintro e w9 ⟨v68005, rfl, ho0, hb⟩; refine ⟨_, rfl, ?_⟩; have n0_ := Aside0.mk (Kd.S_lower ho0 (below_size (by repeat (first | (with_reducible first | exact HB.out | apply y01 | apply y02 | apply y04 | refine y08 ?_ GE68001.out | refine y08 ?_ GE68002.out | refine y08 ?_ GE68003.out) | exact HB.out)))); have n1_ := Aside0.mk (blk_below (g := gb68001) (o := .cells #[.slice A0_0 l0_0.length c0_0, .int .i64 a0_1] 58 (0, 0)) (by (with_reducible repeat (first | refine y07 ?_ _ | refine y09 ?_ | refine y06 ?_ _)); exact BK68001.out) hb); have n2_ := Aside0.mk (blk_below (g := gb68002) (o := .cells #[.slice none 0 0, .int .i64 0] 29 (0, 0)) (by (with_reducible repeat (first | refine y07 ?_ _ | refine y09 ?_ | refine y06 ?_ _)); exact BK68002.out) hb); have n3_ := Aside0.mk (blk_below (g := gb68003) (o := .cells #[.slice none 0 0, .int .i64 0] 29 (0, 0)) (by (with_reducible repeat (first | refine y07 ?_ _ | refine y09 ?_ | refine y06 ?_ _)); exact BK68003.out) hb); have n4_ := Aside0.mk (below_step (by repeat (first | (with_reducible first | exact HB.out | apply y01 | apply y02 | apply y04 | refine y08 ?_ GE68001.out | refine y08 ?_ GE68002.out | refine y08 ?_ GE68003.out) | exact HB.out)) hb); clear BK68001; clear BK68002; clear BK68003; clear HB; have HO68006 := n0_; have BK68001 := n1_; have BK68002 := n2_; have BK68003 := n3_; have HB := n4_; clear n0_ n1_ n2_ n3_ n4_; (try clear hb); (try clear hb2); (try clear hk); (try clear hi); (try clear ho0); obtain ⟨Ao10, co10, eo10⟩ := Kd.S_slice HO68006.out; subst eo10; have hnb11 := NB68003_68002.out; have hnc11 := NB68002_68003.out; have hcz12_0 : w9.cell? ⟨gb68003, 0, none⟩ = some (.slice none 0 0) := (y03 BK68003.out 0).trans rfl; have hcz12_1 : w9.cell? ⟨gb68003, 1, none⟩ = some (.int .i64 0) := (y03 BK68003.out 1).trans rfl; have hfz12_0 := y05 BK68003.out 0; have hfz12_1 := y05 BK68003.out 1; have hcz13_0 : w9.cell? ⟨gb68001, 0, none⟩ = some (.slice A0_0 l0_0.length c0_0) := (y03 BK68001.out 0).trans rfl; have hcz13_1 : w9.cell? ⟨gb68001, 1, none⟩ = some (.int .i64 a0_1) := (y03 BK68001.out 1).trans rfl; have hfz13_0 := y05 BK68001.out 0; have hfz13_1 := y05 BK68001.out 1; have hcz14_0 : w9.cell? ⟨gb68002, 0, none⟩ = some (.slice none 0 0) := (y03 BK68002.out 0).trans rfl; have hcz14_1 : w9.cell? ⟨gb68002, 1, none⟩ = some (.int .i64 0) := (y03 BK68002.out 1).trans rfl; have hfz14_0 := y05 BK68002.out 0; have hfz14_1 := y05 BK68002.out 1))
  refine bodyPost_ret (results_cell_row rfl _ _ gb68002 29 #[.slice Ao10 t68004.length co10, .int .i64 a0_1] (0, 0) _ rfl (by (with_reducible repeat (first | refine y07 ?_ _ | refine y09 ?_ | refine y06 ?_ _)); refine blk_put (cs := #[.slice Ao10 t68004.length co10, .int .i64 0]) ?_ 1 _ rfl; (with_reducible repeat (first | refine y07 ?_ _ | refine y09 ?_ | refine y06 ?_ _)); refine blk_put (cs := #[.slice none 0 0, .int .i64 0]) ?_ 0 _ rfl; (with_reducible repeat (first | refine y07 ?_ _ | refine y09 ?_ | refine y06 ?_ _)); refine blk_far ?_ NB68002_68003.out _; (with_reducible repeat (first | refine y07 ?_ _ | refine y09 ?_ | refine y06 ?_ _)); refine blk_far ?_ NB68002_68003.out _; (with_reducible repeat (first | refine y07 ?_ _ | refine y09 ?_ | refine y06 ?_ _)); exact BK68002.out) Tryz.underlying29 rfl (by kernel_rfl)) rfl ?_
  exact ⟨_, by first | rfl | (simp [errW_none, errW_some] <;> rfl) | (simp [*, errW_none, errW_some] <;> rfl), by (with_reducible repeat (first | apply Kd.S_alloc | apply Kd.S_drewN | apply Kd.S_drew)); exact Kd.S_mono (Kd.S_far (p := ⟨gb68002, 1, none⟩) (Kd.S_far (p := ⟨gb68002, 0, none⟩) (Kd.S_far (p := ⟨gb68003, 1, none⟩) (Kd.S_far (p := ⟨gb68003, 0, none⟩) (Kd.S_types (Kd.S_types HO68006.out BK68003.out (by decide)) BK68002.out (by decide)) (fun _ hk => hk.1.2) (.slice Ao10 t68004.length co10)) (fun _ hk => hk.1.2) (.int .i64 a0_1)) (fun _ hk => hk.2) (.slice Ao10 t68004.length co10)) (fun _ hk => hk.2) (.int .i64 a0_1)) (fun _ hk => trivial), by repeat (first | (with_reducible first | exact HB.out | apply y01 | apply y02 | apply y04 | refine y08 ?_ GE68001.out | refine y08 ?_ GE68002.out | refine y08 ?_ GE68003.out) | exact HB.out)⟩
def wf61 (x : S61) : Prop := wf55 x.f0 ∧ wf58 x.f1 ∧ (x.f2.length ≤ maxLen ∧ ∀ y ∈ x.f2, wf160 y) ∧ (Lit.int .i64 x.f3).wf = true ∧ (Lit.int .i64 x.f4).wf = true
def small61 (x : S61) : Prop := small55 x.f0 ∧ small58 x.f1 ∧ (x.f2.length ≤ 1048576)
set_option maxHeartbeats 4000000 in
set_option maxRecDepth 100000 in
theorem laws_szBooks.calls (A0_0 : Option Addr) (c0_0 : Nat) (l0_0 : List (S182)) (a0_1 : Int) (a0_2 : Int) (A0_3 : Option Addr) (c0_3 : Nat) (l0_3 : List (S64)) (a0_4 : Int) (A0_5 : Option Addr) (c0_5 : Nat) (l0_5 : List (S160)) (a0_6 : Int) (a0_7 : Int) (a1 : Int) (w : World) (hr0_0 : Kd.C k182 w A0_0 l0_0.length l0_0) (hr0_3 : Kd.C k64 w A0_3 l0_3.length l0_3) (hr0_5 : Kd.C k160 w A0_5 l0_5.length l0_5) (h0 : 0 ≤ a1) (h1 : a1 ≤ 1048576) (hw : wf61 ((⟨(⟨l0_0, a0_1, a0_2⟩ : S55), (⟨l0_3, a0_4⟩ : S58), l0_5, a0_6, a0_7⟩ : S61) : S61)) :
    Calls Tryz.prog 18 #[.agg #[.slice A0_0 l0_0.length c0_0, .int .i64 a0_1, .int .i64 a0_2, .slice A0_3 l0_3.length c0_3, .int .i64 a0_4, .slice A0_5 l0_5.length c0_5, .int .i64 a0_6, .int .i64 a0_7], .int .i64 a1] w (SzPost w a1 (small61 ((⟨(⟨l0_0, a0_1, a0_2⟩ : S55), (⟨l0_3, a0_4⟩ : S58), l0_5, a0_6, a0_7⟩ : S61) : S61))) := by
  have Hl0_0 := Aside0.mk hr0_0
  clear hr0_0
  have Hl0_3 := Aside0.mk hr0_3
  clear hr0_3
  have Hl0_5 := Aside0.mk hr0_5
  clear hr0_5
  unfold wf61 at hw
  obtain ⟨g0, g1, g2, g3, g4⟩ := hw
  go_enter Tryz.func18, Tryz.ntmps18
  go_wp2_with fail
  refine (laws_szFrame.calls A0_0 c0_0 l0_0 a0_1 a0_2 a1 _ (Kd.C_below Hl0_0.out (by repeat (first | exact y01 (Below.refl _ _) _ | refine y01 ?_ _))) (by omega) (by omega) g0).mono ?_
  rintro e w10 ⟨r0, rfl, hr1_0, hr2_0, hr3_0, hb⟩
  have s0_3 : w10.cell? ⟨w.heap.size, 3, none⟩ = some (.slice A0_3 l0_3.length c0_3) := y00 hb (by first | assumption | (go_simp; done))
  have s0_4 : w10.cell? ⟨w.heap.size, 4, none⟩ = some (.int .i64 a0_4) := y00 hb (by first | assumption | (go_simp; done))
  have s0_5 : w10.cell? ⟨w.heap.size, 5, none⟩ = some (.slice A0_5 l0_5.length c0_5) := y00 hb (by first | assumption | (go_simp; done))
  have s0_6 : w10.cell? ⟨w.heap.size, 6, none⟩ = some (.int .i64 a0_6) := y00 hb (by first | assumption | (go_simp; done))
  have s0_7 : w10.cell? ⟨w.heap.size, 7, none⟩ = some (.int .i64 a0_7) := y00 hb (by first | assumption | (go_simp; done))
  have HB0 := Aside0.mk (y10 (w := w) hb (by repeat (first | exact y01 (Below.refl _ _) _ | refine y01 ?_ _)))
  have HR0 := Aside0.mk hr3_0
  clear hb hr3_0
  by_cases q0 : r0 < 0
  · skip
    go_wp2_with fail
    go_ret
    exact ⟨-1, rfl, by omega, by omega, fun h => absurd h (by omega), HB0.out⟩
  · skip
    go_wp2_with fail
    refine (laws_szLedger.calls A0_3 c0_3 l0_3 a0_4 r0 _ (Kd.C_below Hl0_3.out (by repeat (first | exact HB0.out | refine y01 ?_ _))) (by omega) (by omega) g1).mono ?_
    rintro e w11 ⟨r1, rfl, hr1_1, hr2_1, hr3_1, hb⟩
    have s1_5 : w11.cell? ⟨w.heap.size, 5, none⟩ = some (.slice A0_5 l0_5.length c0_5) := y00 hb (by first | assumption | (go_simp; done))
    have s1_6 : w11.cell? ⟨w.heap.size, 6, none⟩ = some (.int .i64 a0_6) := y00 hb (by first | assumption | (go_simp; done))
    have s1_7 : w11.cell? ⟨w.heap.size, 7, none⟩ = some (.int .i64 a0_7) := y00 hb (by first | assumption | (go_simp; done))
    have HB1 := Aside0.mk (y10 (w := w) hb (by repeat (first | exact HB0.out | refine y01 ?_ _)))
    have HR1 := Aside0.mk hr3_1
    clear hb hr3_1
    by_cases q1 : r1 < 0
    · skip
      go_wp2_with fail
      go_ret
      exact ⟨-1, rfl, by omega, by omega, fun h => absurd h (by omega), HB1.out⟩
    · skip
      go_wp2_with fail
      refine (laws_szPeriodS.calls A0_5 c0_5 l0_5 r1 _ (Kd.C_below Hl0_5.out (by repeat (first | exact HB1.out | refine y01 ?_ _))) (by omega) (by omega) g2.2).mono ?_
      rintro e w12 ⟨r2, rfl, hr1_2, hr2_2, hr3_2, hb⟩
      have s2_6 : w12.cell? ⟨w.heap.size, 6, none⟩ = some (.int .i64 a0_6) := y00 hb (by first | assumption | (go_simp; done))
      have s2_7 : w12.cell? ⟨w.heap.size, 7, none⟩ = some (.int .i64 a0_7) := y00 hb (by first | assumption | (go_simp; done))
      have HB2 := Aside0.mk (y10 (w := w) hb (by repeat (first | exact HB1.out | refine y01 ?_ _)))
      have HR2 := Aside0.mk hr3_2
      clear hb hr3_2
      by_cases q2 : r2 < 0
      · skip
        go_wp2_with fail
        go_ret
        exact ⟨-1, rfl, by omega, by omega, fun h => absurd h (by omega), HB2.out⟩
      · skip
        go_wp2_with fail
        go_ret
        exact ⟨_, rfl, by omega, by omega, fun _ => by unfold small61; exact ⟨(HR0.out (by omega)), (HR1.out (by omega)), (HR2.out (by omega))⟩, HB2.out⟩
end Go.Proofs.YtjkjjfbcakbmnaaGreatDoor.Q
