/- Parts of the proof: what functions of the program and of the reference answer.
   No condition. -/
import Derived.Test.YtjkjjfbcakbmnaaDoorZBooksShut1
import Derived.Test.YtjkjjfbcakbmnaaDoorZBooksShut13
import Derived.Test.YtjkjjfbcakbmnaaDoorZBooksShut4
import Derived.Test.YtjkjjfbcakbmnaaDoorZBooksShut9
import Derived.Test.YtjkjjfbcakbmnaaDoorZBooksShut14
namespace Go.Proofs.YtjkjjfbcakbmnaaDoor.Q
open Go.RowKit Go.Proofs.YtjkjjfbcakbmnaaDoorW.PrintWords Go.Proofs.YtjkjjfbcakbmnaaDoorW.PrintLast Go.Proofs.YtjkjjfbcakbmnaaDoorW.PrintMore
attribute [local go_sem] max2_int min2_int max_two min_two max_three min_three max_four min_four   -- for this text's walks alone
set_option linter.unusedVariables false
set_option linter.unusedSimpArgs false
open Classical in
noncomputable def textB (s : ByteArray) : Bool := decide (textUpto s s.size ∧ s.size ≤ 40)
open Classical in
theorem textB_iff {s : ByteArray} : textB s = true ↔ textUpto s s.size ∧ s.size ≤ 40 := by unfold textB; rw [decide_eq_true_eq]
theorem textB_not {s : ByteArray} (h : ¬ (textUpto s s.size ∧ s.size ≤ 40)) : false = textB s := by
  cases hb : textB s with
  | false => rfl
  | true => exact absurd (textB_iff.1 hb) h
set_option maxHeartbeats 4000000 in
set_option maxRecDepth 100000 in
theorem spec_l5TextOk.to (s : ByteArray) (w : World) (hm : s.size ≤ maxLen) : Calls Tryd.prog 43 #[.string s] w fun x w' => x = .returned (.bool (textB s)) ∧ w' = w := by
  have hm' : (s.size : Int) ≤ 9223372036854775807 := by unfold maxLen at hm; omega
  go_enter Tryd.func43, Tryd.ntmps43
  go_wp2_with fail
  go_loop [3] (fun v => ∃ i : Int, 0 ≤ i ∧ i ≤ (s.size : Int) ∧ v = .int .i64 i ∧ Aside0 (textUpto s i)) (fun v => (s.size - (intOf v).toNat))
  case atStart => exact ⟨0, by omega, by omega, rfl, ⟨fun j h0 h1 => by omega⟩⟩
  case round =>
    obtain ⟨i, hi0, hi1, rfl, HT⟩ := hrel
    by_cases hlt : i < (s.size : Int)
    · have hx := bt_at s i
      by_cases hb : 32 ≤ bt s i
      · have HB := Aside0.mk (textUpto_step hi0 HT.out hb)
        go_wp2_with fail
        go_round
        case rel => exact ⟨i + 1, by omega, by omega, rfl, HB⟩
        case measure => simp [intOf]; omega
      · have HB := Aside0.mk (textB_not (fun q => hb (q.1 i hi0 hlt)))
        go_wp2_with fail
        go_ret
        exact ⟨ret_bool HB.out, rfl⟩
    · have HTX := Aside0.mk (show textUpto s s.size from fun j h0 h1 => HT.out j h0 (by omega))
      clear HT
      by_cases h4 : s.size ≤ 40
      · have h4' : (s.size : Int) ≤ 40 := by omega
        go_wp2_with fail
        go_ret
        exact ⟨ret_bool (by rw [textB_iff.2 ⟨HTX.out, h4⟩]), rfl⟩
      · go_wp2_with fail
        go_ret
        exact ⟨ret_bool (by rw [← textB_not (fun q => h4 q.2)]; simp; omega), rfl⟩
open Classical in
noncomputable def lineB (chart : List Acc) (dims curs : Int) (x : Lin) : Bool := decide (lineP chart dims curs x)
open Classical in
theorem lineB_true {chart : List Acc} {dims curs : Int} {x : Lin} : lineB chart dims curs x = true ↔ lineP chart dims curs x := by unfold lineB; rw [decide_eq_true_eq]
theorem lineB_not {chart : List Acc} {dims curs : Int} {x : Lin} (h : ¬ lineP chart dims curs x) : false = lineB chart dims curs x := by
  cases hb : lineB chart dims curs x with
  | false => rfl
  | true => exact absurd (lineB_true.1 hb) h
set_option maxHeartbeats 4000000 in
set_option maxRecDepth 100000 in
theorem spec_l5LineOk.to (A0 : Option Addr) (c0 : Nat) (l0 : List Acc) (dims curs : Int) (x : Lin) (w : World) (hr0 : Kd.C k64 w A0 l0.length l0) (hs : ∀ x ∈ l0, x.f0.size ≤ maxLen) (hch : chartOk l0 = true) (hd : 1 ≤ dims ∧ dims ≤ 20) (hc : 1 ≤ curs ∧ curs ≤ 20) :
    Calls Tryd.prog 44 #[.agg #[.slice A0 l0.length c0, .int .i64 dims, .int .i64 curs], .agg #[.int .i64 x.f0, .int .i64 x.f1, .int .i64 x.f2, .int .i64 x.f3, .int .i64 x.f4]] w fun e w' => e = .returned (.bool (lineB l0 dims curs x)) ∧ Below w.heap.size w w' := by
  have hl := hr0.2.1
  have hlen := (chartOk_iff.1 hch).2.1
  have H0 := Aside0.mk (Kd.C_below hr0 (below_two w (.cells #[.slice A0 l0.length c0, .int .i64 dims, .int .i64 curs] 26) (.cells #[.int .i64 x.f0, .int .i64 x.f1, .int .i64 x.f2, .int .i64 x.f3, .int .i64 x.f4] 81)))
  have HS := Aside0.mk hs
  have HCH := Aside0.mk hch
  obtain ⟨hd0, hd1⟩ := hd
  obtain ⟨hc0, hc1⟩ := hc
  clear hr0 hs hch
  go_enter Tryd.func44, Tryd.ntmps44
  go_wp2_with fail
  refine (spec_l1In.to _ _ _ _).mono ?_
  rintro e w' ⟨rfl, rfl⟩
  cases h1 : inB x.f0 0 ((l0.length : Int) - 1) with
  | false =>
    have HN := Aside0.mk (lineB_not (fun q => inB_false.1 h1 ⟨q.1.1, by have := q.1.2.1; omega⟩) : false = lineB l0 dims curs x)
    clear h1
    go_wp2_with fail
    go_ret
    exact ⟨ret_bool HN.out, below_two _ _ _⟩
  | true =>
    clear h1
    go_wp2_with fail
    refine (spec_Leaf.to A0 c0 l0 x.f0 _ H0.out HS.out).mono ?_
    rintro e w1 ⟨rfl, hb⟩
    have HB := Aside0.mk (below_into (w := w) hb (below_two _ _ _))
    have f1 : w1.cell? ⟨w.heap.size, 1, none⟩ = some (.int .i64 dims) := pw_cell_below hb (by go_simp)
    have f2 : w1.cell? ⟨w.heap.size, 2, none⟩ = some (.int .i64 curs) := pw_cell_below hb (by go_simp)
    have x1 : w1.cell? ⟨w.heap.size + 1, 1, none⟩ = some (.int .i64 x.f1) := pw_cell_below hb (by go_simp)
    have x2 : w1.cell? ⟨w.heap.size + 1, 2, none⟩ = some (.int .i64 x.f2) := pw_cell_below hb (by go_simp)
    have x3 : w1.cell? ⟨w.heap.size + 1, 3, none⟩ = some (.int .i64 x.f3) := pw_cell_below hb (by go_simp)
    have x4 : w1.cell? ⟨w.heap.size + 1, 4, none⟩ = some (.int .i64 x.f4) := pw_cell_below hb (by go_simp)
    clear hb
    rw [HCH.out, Bool.true_and]
    cases h2 : leafB l0 x.f0 with
    | false =>
      have HN := Aside0.mk (lineB_not (fun q => by have := leafB_of q.1; rw [h2] at this; cases this) : false = lineB l0 dims curs x)
      clear h2
      go_wp2_with fail
      go_ret
      exact ⟨ret_bool HN.out, HB.out⟩
    | true =>
      have HLF := Aside0.mk (leafB_true.1 h2)
      clear h2
      go_wp2_with fail
      refine (spec_l1In.to _ _ _ _).mono ?_
      rintro e w' ⟨rfl, rfl⟩
      cases h3 : inB x.f1 0 (dims - 1) with
      | false =>
        have HN := Aside0.mk (lineB_not (fun q => inB_false.1 h3 q.2.1) : false = lineB l0 dims curs x)
        clear h3
        go_wp2_with fail
        go_ret
        exact ⟨ret_bool HN.out, HB.out⟩
      | true =>
        have HDM := Aside0.mk (inB_true.1 h3)
        clear h3
        go_wp2_with fail
        refine (spec_l1In.to _ _ _ _).mono ?_
        rintro e w' ⟨rfl, rfl⟩
        cases h4 : inB x.f2 0 (curs - 1) with
        | false =>
          have HN := Aside0.mk (lineB_not (fun q => inB_false.1 h4 q.2.2.1) : false = lineB l0 dims curs x)
          clear h4
          go_wp2_with fail
          go_ret
          exact ⟨ret_bool HN.out, HB.out⟩
        | true =>
          have HCR := Aside0.mk (inB_true.1 h4)
          clear h4
          go_wp2_with fail
          refine (spec_l1Amount.to _ _).mono ?_
          rintro e w' ⟨rfl, rfl⟩
          cases h5 : inB x.f3 (-100000000000) 100000000000 with
          | false =>
            have HN := Aside0.mk (lineB_not (fun q => inB_false.1 h5 q.2.2.2.1) : false = lineB l0 dims curs x)
            clear h5
            go_wp2_with fail
            go_ret
            exact ⟨ret_bool HN.out, HB.out⟩
          | true =>
            have HAM := Aside0.mk (inB_true.1 h5)
            clear h5
            go_wp2_with fail
            refine (spec_l1Amount.to _ _).mono ?_
            rintro e w' ⟨rfl, rfl⟩
            cases h6 : inB x.f4 (-100000000000) 100000000000 with
            | false =>
              have HN := Aside0.mk (lineB_not (fun q => inB_false.1 h6 q.2.2.2.2.1) : false = lineB l0 dims curs x)
              clear h6
              go_wp2_with fail
              go_ret
              exact ⟨ret_bool HN.out, HB.out⟩
            | true =>
              have HBS := Aside0.mk (inB_true.1 h6)
              clear h6
              by_cases h7 : x.f2 = 0
              · have h7b : (x.f2 != 0) = false := by rw [h7]; rfl
                by_cases h8 : x.f3 = x.f4
                · have HY := Aside0.mk (lineB_true.2 (show lineP l0 dims curs x from ⟨HLF.out, HDM.out, HCR.out, HAM.out, HBS.out, fun _ => h8⟩))
                  have h8b : (x.f3 == x.f4) = true := beq_iff_eq.2 h8
                  clear h7 h8
                  go_wp2_with fail
                  go_ret
                  exact ⟨ret_bool HY.out.symm, HB.out⟩
                · have HN := Aside0.mk (lineB_not (fun q => h8 (q.2.2.2.2.2 h7)) : false = lineB l0 dims curs x)
                  have h8b : (x.f3 == x.f4) = false := beq_eq_false_iff_ne.2 h8
                  clear h7 h8
                  go_wp2_with fail
                  go_ret
                  exact ⟨ret_bool HN.out, HB.out⟩
              · have HY := Aside0.mk (lineB_true.2 (show lineP l0 dims curs x from ⟨HLF.out, HDM.out, HCR.out, HAM.out, HBS.out, fun q => absurd q h7⟩))
                have h7b : (x.f2 != 0) = true := bne_iff_ne.2 h7
                clear h7
                go_wp2_with fail
                go_ret
                exact ⟨ret_bool HY.out.symm, HB.out⟩
set_option maxHeartbeats 4000000 in
set_option maxRecDepth 100000 in
theorem impl_FrameOk.to (A0 : Option Addr) (c0 : Nat) (l0 : List Acc) (dims curs : Int) (w : World) (hr0 : Kd.C k64 w A0 l0.length l0) (hs : ∀ x ∈ l0, x.f0.size ≤ maxLen) :
    Calls Tryd.prog 53 #[.agg #[.slice A0 l0.length c0, .int .i64 dims, .int .i64 curs]] w fun e w' => e = .returned (.bool (frameB l0 dims curs)) ∧ Below w.heap.size w w' := by
  have H0 := Aside0.mk hr0
  clear hr0
  unfold frameB
  go_enter Tryd.func53, Tryd.ntmps53
  go_wp2_with fail
  refine (impl_between.to dims _ _ _).mono ?_
  rintro e w5 ⟨rfl, rfl⟩
  cases hinB : inB dims 1 20 with
  | false =>
    go_wp2_with fail
    go_ret
    exact ⟨ret_bool (by simp [hinB]), below_alloc (Below.refl _ _) _⟩
  | true =>
    go_wp2_with fail
    refine (impl_between.to curs _ _ _).mono ?_
    rintro e w6 ⟨rfl, rfl⟩
    cases hinC : inB curs 1 20 with
    | false =>
      go_wp2_with fail
      go_ret
      exact ⟨ret_bool (by simp [hinB, hinC]), below_alloc (Below.refl _ _) _⟩
    | true =>
      go_wp2_with fail
      refine (impl_ChartOk.to A0 c0 l0 _ (Kd.C_below H0.out (below_alloc (Below.refl _ _) _)) hs).mono ?_
      rintro e w1 ⟨rfl, hb⟩
      have HB := Aside0.mk (below_into (w := w) hb (below_alloc (Below.refl _ _) _))
      have s0 : w1.cell? ⟨w.heap.size, 0, none⟩ = some (.slice A0 l0.length c0) := pw_cell_below hb (by go_simp)
      have s1 : w1.cell? ⟨w.heap.size, 1, none⟩ = some (.int .i64 dims) := pw_cell_below hb (by go_simp)
      have s2 : w1.cell? ⟨w.heap.size, 2, none⟩ = some (.int .i64 curs) := pw_cell_below hb (by go_simp)
      clear hb
      cases hch : chartOk l0 with
      | false =>
        go_wp2_with fail
        go_ret
        exact ⟨ret_bool (by simp [hinB, hinC, hch]), HB.out⟩
      | true =>
        go_wp2_with fail
        go_ret
        exact ⟨ret_bool (by simp [hinB, hinC, hch]), HB.out⟩
def linkStep (s : Int × Bool) (x : Int) : Int × Bool := if -549755813888 ≤ x ∧ x ≤ 549755813887 then ((s.1 * 1000003 + x + 549755813888) % 1099511627791, s.2) else (s.1, true)
def linkAll (s : Int × Bool) (xs : List Int) : Int × Bool := xs.foldl linkStep s
def HeadIn (s : Int × Bool) : Prop := 0 ≤ s.1 ∧ s.1 < 1099511627791
theorem linkStep_in {s : Int × Bool} (h : HeadIn s) (x : Int) : HeadIn (linkStep s x) := by
  unfold linkStep HeadIn at *
  split
  · exact ⟨Int.emod_nonneg _ (by omega), Int.emod_lt_of_pos _ (by omega)⟩
  · exact h
theorem linkAll_in {s : Int × Bool} (h : HeadIn s) (xs : List Int) : HeadIn (linkAll s xs) := by
  induction xs generalizing s with
  | nil => exact h
  | cons x xs ih => exact ih (linkStep_in h x)
theorem linkAll_append (s : Int × Bool) (xs ys : List Int) : linkAll s (xs ++ ys) = linkAll (linkAll s xs) ys := List.foldl_append
theorem linkAll_cons (s : Int × Bool) (x : Int) (xs : List Int) : linkAll s (x :: xs) = linkAll (linkStep s x) xs := rfl
def ChainAt (w : World) (g : Nat) (s : Int × Bool) : Prop := w.heap[g]? = some (.cells #[.int .i64 s.1, .bool s.2] 105 (0, 0))
structure LinkPost (w0 w : World) (g : Nat) (s : Int × Bool) (w' : World) : Prop where
  at_ : ChainAt w' g s
  bel : Below w0.heap.size w0 w'
  keep : KeepBut w w' g none
theorem LinkPost.refl {w0 w : World} {g : Nat} {s : Int × Bool} (h : ChainAt w g s) (hB : Below w0.heap.size w0 w) : LinkPost w0 w g s w := ⟨h, hB, KeepBut.refl w g none⟩
theorem LinkPost.trans {w0 w w1 w2 : World} {g : Nat} {s t : Int × Bool} (h : LinkPost w0 w g s w1) (h2 : LinkPost w0 w1 g t w2) : LinkPost w0 w g t w2 := ⟨h2.at_, h2.bel, KeepBut.trans h.keep h2.keep (.inl rfl)⟩
set_option maxHeartbeats 8000000 in
set_option maxRecDepth 100000 in
theorem chain_link_calls (g : Nat) (s : Int × Bool) (x : Int) (w0 w : World) (hc : ChainAt w g s) (hs : HeadIn s) (hge : w0.heap.size ≤ g) (hB : Below w0.heap.size w0 w) :
    Calls Tryd.prog 64 #[.pointer (some ⟨g, 0, none⟩), .int .i64 x] w fun e w' => e = .returned (.tuple #[]) ∧ LinkPost w0 w g (linkStep s x) w' := by
  obtain ⟨h0, h1⟩ := hs
  have HC := Aside0.mk hc
  have HB := Aside0.mk hB
  unfold ChainAt at hc
  have c0 : w.cell? ⟨g, 0, none⟩ = some (.int .i64 s.1) := blk_cell hc 0
  have c1 : w.cell? ⟨g, 1, none⟩ = some (.bool s.2) := blk_cell hc 1
  have f0 := blk_frozen hc 0
  have f1 := blk_frozen hc 1
  clear hc hB
  by_cases hx : -549755813888 ≤ x ∧ x ≤ 549755813887
  · have hb := inB_of hx
    have hst : linkStep s x = ((s.1 * 1000003 + x + 549755813888) % 1099511627791, s.2) := if_pos hx
    have htm : (s.1 * 1000003 + x + 549755813888).tmod 1099511627791 = (s.1 * 1000003 + x + 549755813888) % 1099511627791 := Int.tmod_eq_emod_of_nonneg (by omega)
    have HST := Aside0.mk hst
    have HTM := Aside0.mk htm
    clear hst htm
    obtain ⟨hx0, hx1⟩ := hx
    go_enter Tryd.func64, Tryd.ntmps64
    go_wp2_with fail
    refine (impl_between.to _ _ _ _).mono ?_
    rintro e w' ⟨rfl, rfl⟩
    rw [hb]
    go_wp2_with fail
    go_end0
    refine ⟨rfl, ?_⟩
    rw [HST.out]
    exact ⟨blk_set HC.out 0 _, below_set HB.out hge, KeepBut.set_ (KeepBut.refl _ _ _) _ _⟩
  · have hb := inB_not hx
    have hst : linkStep s x = (s.1, true) := if_neg hx
    have HST := Aside0.mk hst
    clear hst
    go_enter Tryd.func64, Tryd.ntmps64
    go_wp2_with fail
    refine (impl_between.to _ _ _ _).mono ?_
    rintro e w' ⟨rfl, rfl⟩
    rw [hb]
    go_wp2_with fail
    (try simp only [Exit.inBlock, Exit.then])
    refine bodyPost_ret (results_none rfl _ _ _) rfl ?_
    refine ⟨rfl, ?_⟩
    rw [HST.out]
    exact ⟨blk_set HC.out 1 _, below_set HB.out hge, KeepBut.set_ (KeepBut.refl _ _ _) _ _⟩
def lineNums (x : Lin) : List Int := [x.f0, x.f1, x.f2, x.f3, x.f4]
def bytesN (s : ByteArray) : Nat → List Int
  | 0 => []
  | n + 1 => bytesN s n ++ [bt s n]
def numsOf (e : Ent) : List Int := [e.f0, e.f1, (e.f2.size : Int)] ++ bytesN e.f2 e.f2.size ++ [(e.f3.length : Int)] ++ e.f3.flatMap lineNums
theorem link_bytes (s : Int × Bool) (xs : List Int) (t : ByteArray) {i : Int} (h0 : 0 ≤ i) : linkStep (linkAll s (xs ++ bytesN t i.toNat)) (bt t i) = linkAll s (xs ++ bytesN t (i + 1).toNat) := by
  rw [show (i + 1).toNat = i.toNat + 1 by omega]
  show _ = linkAll s (xs ++ (bytesN t i.toNat ++ [bt t (i.toNat : Int)]))
  rw [← List.append_assoc, linkAll_append s (xs ++ _), show ((i.toNat : Nat) : Int) = i by omega]
  rfl
theorem link_lines (s : Int × Bool) (xs : List Int) {l : List Lin} {i : Int} (h0 : 0 ≤ i) (h1 : i < (l.length : Int)) : linkStep (linkStep (linkStep (linkStep (linkStep (linkAll s (xs ++ (l.take i.toNat).flatMap lineNums)) (rd_T81 l i).f0) (rd_T81 l i).f1) (rd_T81 l i).f2) (rd_T81 l i).f3) (rd_T81 l i).f4 = linkAll s (xs ++ (l.take (i + 1).toNat).flatMap lineNums) := by
  rw [take_snoc h0 h1, List.flatMap_append, ← List.append_assoc, linkAll_append s (xs ++ _)]
  rfl
def entO (e : Ent) (A3 : Option Addr) (c3 : Nat) : Obj := .cells #[.int .i64 e.f0, .int .i64 e.f1, .string e.f2, .slice A3 e.f3.length c3] 35 (0, 0)
theorem LinkPost.box {w0 w w' : World} {g : Nat} {s : Int × Bool} {e : Ent} {A3 : Option Addr} {c3 : Nat} (h : LinkPost w0 (w.alloc (entO e A3 c3)) g s w') (hg : g < w.heap.size) : w'.heap[w.heap.size]? = some (.cells #[.int .i64 e.f0, .int .i64 e.f1, .string e.f2, .slice A3 e.f3.length c3] 35 (0, 0)) := h.keep.blk (blk_new _ _) (by omega) (by simp)
theorem LinkPost.alloc {w0 w w1 : World} {g : Nat} {s : Int × Bool} (h : LinkPost w0 w g s w1) (o : Obj) : LinkPost w0 w g s (w1.alloc o) := ⟨blk_alloc h.at_ _, below_alloc h.bel _, keep_alloc h.keep _⟩
set_option maxHeartbeats 8000000 in
set_option maxRecDepth 100000 in
theorem impl_numbersOf.to (g : Nat) (s : Int × Bool) (e : Ent) (A3 : Option Addr) (c3 : Nat) (w0 w : World) (hc : ChainAt w g s) (hs : HeadIn s) (hge : w0.heap.size ≤ g) (hB : Below w0.heap.size w0 w) (hr3 : Kd.C k81 w0 A3 e.f3.length e.f3) (hm : e.f2.size ≤ 40) :
    Calls Tryd.prog 63 #[.agg #[.int .i64 e.f0, .int .i64 e.f1, .string e.f2, .slice A3 e.f3.length c3], .func (.func 64) #[.pointer (some ⟨g, 0, none⟩)] #[]] w fun x w' => x = .returned (.tuple #[]) ∧ LinkPost w0 w g (linkAll s (numsOf e)) w' := by
  have hgw : g < w.heap.size := blk_lt hc
  have HP := Aside0.mk (show LinkPost w0 (w.alloc (entO e A3 c3)) g s (w.alloc (entO e A3 c3)) from LinkPost.refl (blk_alloc hc _) (by exact hB.alloc (by have := hB.size; omega) _))
  have H3 := Aside0.mk hr3
  have HS := Aside0.mk hs
  have HS0 := Aside0.mk hs
  have hlen := hr3.2.1
  clear hc hB hr3 hs
  go_enter Tryd.func63, Tryd.ntmps63
  go_wp2_with fail
  refine (chain_link_calls g _ _ w0 _ HP.out.at_ HS.out hge HP.out.bel).mono ?_
  rintro x w1 ⟨rfl, P1⟩
  have P1 := Aside0.mk (HP.out.trans P1)
  have HS1 := Aside0.mk (linkStep_in HS.out e.f0)
  have y1 := blk_cell (P1.out.box hgw) 1
  have HS1 := Aside0.mk (linkStep_in HS.out e.f0)
  clear HP HS
  go_wp2_with fail
  refine (chain_link_calls g _ _ w0 _ P1.out.at_ HS1.out hge P1.out.bel).mono ?_
  rintro x w2 ⟨rfl, P2⟩
  have P2 := Aside0.mk (P1.out.trans P2)
  have HS2 := Aside0.mk (linkStep_in HS1.out e.f1)
  have y2 := blk_cell (P2.out.box hgw) 2
  clear P1 HS1 y1
  go_wp2_with fail
  refine (chain_link_calls g _ _ w0 _ P2.out.at_ HS2.out hge P2.out.bel).mono ?_
  rintro x w3 ⟨rfl, P3⟩
  have P3 := Aside0.mk (show LinkPost w0 (w.alloc (entO e A3 c3)) g (linkAll s ([e.f0, e.f1, (e.f2.size : Int)] ++ bytesN e.f2 (0 : Int).toNat)) w3 from P2.out.trans P3)
  clear P2 HS2 y2
  go_wp2_with fail
  go_loopw [4] (fun v wr => ∃ i : Int, 0 ≤ i ∧ i ≤ (e.f2.size : Int) ∧ v = .int .i64 i ∧ Aside0 (LinkPost w0 (w.alloc (entO e A3 c3)) g (linkAll s ([e.f0, e.f1, (e.f2.size : Int)] ++ bytesN e.f2 i.toNat)) wr)) (fun v _ => (e.f2.size - (intOf v).toNat))
  case atStart => exact ⟨0, by omega, by omega, rfl, P3⟩
  case round =>
    clear P3
    obtain ⟨i, hi0, hi1, rfl, HP⟩ := hrel
    have z2 := blk_cell (HP.out.box hgw) 2
    have z3 := blk_cell (HP.out.box hgw) 3
    by_cases hlt : i < (e.f2.size : Int)
    · have hx := bt_at e.f2 i
      obtain ⟨hb0, hb1⟩ := bt_range e.f2 i
      go_wp2_with fail
      refine (chain_link_calls g _ _ w0 _ HP.out.at_ (linkAll_in HS0.out _) hge HP.out.bel).mono ?_
      rintro x w4 ⟨rfl, P4⟩
      have P4 := Aside0.mk (HP.out.trans P4)
      go_wp2_with fail
      go_roundw
      case rel => exact ⟨i + 1, by omega, by omega, rfl, ⟨by have := P4.out; rw [link_bytes _ _ _ hi0] at this; exact this⟩⟩
      case measure => simp [intOf]; omega
    · obtain rfl : i = (e.f2.size : Int) := by omega
      go_wp2_with fail
      refine (chain_link_calls g _ _ w0 _ HP.out.at_ (linkAll_in HS0.out _) hge HP.out.bel).mono ?_
      rintro x w5 ⟨rfl, P5⟩
      have P5 := Aside0.mk (show LinkPost w0 (w.alloc (entO e A3 c3)) g (linkAll s ([e.f0, e.f1, (e.f2.size : Int)] ++ bytesN e.f2 e.f2.size ++ [(e.f3.length : Int)] ++ (e.f3.take (0 : Int).toNat).flatMap lineNums)) w5 from by
        have := HP.out.trans P5
        rw [show e.f3.take (0 : Int).toNat = [] from rfl, List.flatMap_nil, List.append_nil, linkAll_append s (_ ++ _)]
        exact this)
      have y3 := blk_cell (P5.out.box hgw) 3
      clear HP z2 z3
      go_wp2_with fail
      go_loopw [42] (fun v wr => ∃ i : Int, 0 ≤ i ∧ i ≤ (e.f3.length : Int) ∧ v = .int .i64 i ∧ Aside0 (LinkPost w0 (w.alloc (entO e A3 c3)) g (linkAll s ([e.f0, e.f1, (e.f2.size : Int)] ++ bytesN e.f2 e.f2.size ++ [(e.f3.length : Int)] ++ (e.f3.take i.toNat).flatMap lineNums)) wr)) (fun v _ => (e.f3.length - (intOf v).toNat))
      case atStart => exact ⟨0, by omega, by omega, rfl, P5⟩
      case round =>
        clear P5 y3
        obtain ⟨j, hj0, hj1, rfl, HP⟩ := hrel
        by_cases hlt : j < (e.f3.length : Int)
        · obtain ⟨ad, e0, x0, x1, x2, x3, x4⟩ := at_T81 (Kd.C_below H3.out HP.out.bel) j hj0 hlt
          cases e0
          have hgr : g < wr.heap.size := blk_lt HP.out.at_
          have Q := Aside0.mk (HP.out.alloc (lineO (rd_T81 e.f3 j)))
          have T0 := Aside0.mk (linkAll_in HS0.out ([e.f0, e.f1, (e.f2.size : Int)] ++ bytesN e.f2 e.f2.size ++ [(e.f3.length : Int)] ++ (e.f3.take j.toNat).flatMap lineNums))
          clear HP
          go_wp2_with fail
          refine (chain_link_calls g _ _ w0 _ Q.out.at_ T0.out hge Q.out.bel).mono ?_
          rintro x w6 ⟨rfl, R0⟩
          have N0 := Aside0.mk (R0.keep.blk (blk_new wr (lineO (rd_T81 e.f3 j))) (by omega) (by simp))
          have Q0 := Aside0.mk (Q.out.trans R0)
          have T1 := Aside0.mk (linkStep_in T0.out (rd_T81 e.f3 j).f0)
          have u1 := blk_cell N0.out 1
          clear Q T0 R0
          go_wp2_with fail
          refine (chain_link_calls g _ _ w0 _ Q0.out.at_ T1.out hge Q0.out.bel).mono ?_
          rintro x w7 ⟨rfl, R1⟩
          have N1 := Aside0.mk (R1.keep.blk (N0.out) (by omega) (by simp))
          have Q1 := Aside0.mk (Q0.out.trans R1)
          have T2 := Aside0.mk (linkStep_in T1.out (rd_T81 e.f3 j).f1)
          have u2 := blk_cell N1.out 2
          clear Q0 T1 R1 u1
          go_wp2_with fail
          refine (chain_link_calls g _ _ w0 _ Q1.out.at_ T2.out hge Q1.out.bel).mono ?_
          rintro x w8 ⟨rfl, R2⟩
          have N2 := Aside0.mk (R2.keep.blk (N1.out) (by omega) (by simp))
          have Q2 := Aside0.mk (Q1.out.trans R2)
          have T3 := Aside0.mk (linkStep_in T2.out (rd_T81 e.f3 j).f2)
          have u3 := blk_cell N2.out 3
          clear Q1 T2 R2 u2
          go_wp2_with fail
          refine (chain_link_calls g _ _ w0 _ Q2.out.at_ T3.out hge Q2.out.bel).mono ?_
          rintro x w9 ⟨rfl, R3⟩
          have N3 := Aside0.mk (R3.keep.blk (N2.out) (by omega) (by simp))
          have Q3 := Aside0.mk (Q2.out.trans R3)
          have T4 := Aside0.mk (linkStep_in T3.out (rd_T81 e.f3 j).f3)
          have u4 := blk_cell N3.out 4
          clear Q2 T3 R3 u3
          go_wp2_with fail
          refine (chain_link_calls g _ _ w0 _ Q3.out.at_ T4.out hge Q3.out.bel).mono ?_
          rintro x w10 ⟨rfl, R4⟩
          have N4 := Aside0.mk (R4.keep.blk (N3.out) (by omega) (by simp))
          have Q4 := Aside0.mk (Q3.out.trans R4)
          go_wp2_with fail
          go_roundw
          case rel => exact ⟨j + 1, by omega, by omega, rfl, ⟨by have := Q4.out; rw [link_lines _ _ hj0 hlt] at this; exact this⟩⟩
          case measure => simp [intOf]; omega
        · obtain rfl : j = (e.f3.length : Int) := by omega
          have HE := Aside0.mk (show LinkPost w0 w g (linkAll s (numsOf e)) wr from by
            have h := HP.out
            rw [List.take_of_length_le (by omega)] at h
            exact ⟨h.at_, h.bel, KeepBut.trans (keep_alloc (KeepBut.refl _ _ _) _) h.keep (.inl rfl)⟩)
          go_wp2_with fail
          go_end0
          exact ⟨rfl, HE.out⟩
def tooLong (e : Ent) : Prop := 60 < e.f3.length ∨ 40 < e.f2.size
open Classical in
noncomputable def headV (l : List Ent) : Int :=
  if 1000 < l.length ∨ ∃ e ∈ l, tooLong e then 0 else if (linkAll (1, false) (l.flatMap numsOf)).2 = true then 0 else (linkAll (1, false) (l.flatMap numsOf)).1
theorem headV_long {l : List Ent} (h : 1000 < l.length ∨ ∃ e ∈ l, tooLong e) : headV l = 0 := if_pos h
theorem headV_bad {l : List Ent} (h : ¬ (1000 < l.length ∨ ∃ e ∈ l, tooLong e)) (hb : (linkAll (1, false) (l.flatMap numsOf)).2 = true) : headV l = 0 := by unfold headV; rw [if_neg h, if_pos hb]
theorem headV_good {l : List Ent} (h : ¬ (1000 < l.length ∨ ∃ e ∈ l, tooLong e)) (hb : (linkAll (1, false) (l.flatMap numsOf)).2 = false) : headV l = (linkAll (1, false) (l.flatMap numsOf)).1 := by unfold headV; rw [if_neg h, if_neg (by rw [hb]; simp)]
theorem head_step (s : Int × Bool) {l : List Ent} {i : Int} (h0 : 0 ≤ i) (h1 : i < (l.length : Int)) : linkAll (linkAll s ((l.take i.toNat).flatMap numsOf)) (numsOf (rd_T35 l i)) = linkAll s ((l.take (i + 1).toNat).flatMap numsOf) := by
  have ht : l.take (i + 1).toNat = l.take i.toNat ++ [rd_T35 l i] := by
    rw [show (i + 1).toNat = i.toNat + 1 by omega, List.take_add_one]
    unfold rd_T35
    rw [List.getD_eq_getElem?_getD, List.getElem?_eq_getElem (by omega)]
    rfl
  rw [ht, List.flatMap_append, linkAll_append s]
  rw [show [rd_T35 l i].flatMap numsOf = numsOf (rd_T35 l i) by simp]
theorem headIn_one : HeadIn (1, false) := by unfold HeadIn; decide
set_option maxHeartbeats 8000000 in
set_option maxRecDepth 100000 in
theorem impl_HeadOf.to (A0 : Option Addr) (c0 : Nat) (l0 : List Ent) (w : World) (hr0 : Kd.C k35 w A0 l0.length l0) :
    Calls Tryd.prog 54 #[.slice A0 l0.length c0] w fun x w' => x = .returned (.int .i64 (headV l0)) ∧ Below w.heap.size w w' := by
  have hl := hr0.2.1
  have H0 := Aside0.mk hr0
  clear hr0
  by_cases h1 : 1000 < l0.length
  case pos =>
    have HV := Aside0.mk (headV_long (l := l0) (Or.inl h1))
    go_enter Tryd.func54, Tryd.ntmps54
    go_wp2_with fail
    go_ret
    exact ⟨ret_i HV.out.symm, Below.refl _ _⟩
  have HP := Aside0.mk (show LinkPost w (w.alloc (.cells #[.int .i64 1, .bool false] 105)) w.heap.size (linkAll (1, false) ((l0.take (0 : Int).toNat).flatMap numsOf)) (w.alloc (.cells #[.int .i64 1, .bool false] 105)) from LinkPost.refl (blk_new _ _) (below_alloc (Below.refl _ _) _))
  go_enter Tryd.func54, Tryd.ntmps54
  go_wp2_with fail
  go_loopw [16] (fun v wr => ∃ i : Int, 0 ≤ i ∧ i ≤ (l0.length : Int) ∧ v = .int .i64 i ∧ Aside0 (LinkPost w (w.alloc (.cells #[.int .i64 1, .bool false] 105)) w.heap.size (linkAll (1, false) ((l0.take i.toNat).flatMap numsOf)) wr) ∧ Aside0 (∀ x ∈ l0.take i.toNat, ¬ tooLong x)) (fun v _ => (l0.length - (intOf v).toNat))
  case atStart => exact ⟨0, by omega, by omega, rfl, HP, ⟨fun x hx => by cases hx⟩⟩
  case round =>
    clear HP
    obtain ⟨i, hi0, hi1, rfl, HP, HT⟩ := hrel
    have hgw : w.heap.size < wr.heap.size := blk_lt HP.out.at_
    by_cases hlt : i < (l0.length : Int)
    · obtain ⟨ad, A3, c3, e0, x0, x1, x2, x3, x4, x5⟩ := at_T35 H0.out i hi0 hlt
      cases e0
      have y0 := pw_cell_below HP.out.bel x0
      have y1 := pw_cell_below HP.out.bel x1
      have y2 := pw_cell_below HP.out.bel x2
      have y3 := pw_cell_below HP.out.bel x3
      have X5 := Aside0.mk x5
      have Q := Aside0.mk (HP.out.alloc (entO (rd_T35 l0 i) A3 c3))
      have HLN := Aside0.mk (fun (q : tooLong (rd_T35 l0 i)) => headV_long (l := l0) (Or.inr ⟨rd_T35 l0 i, by unfold rd_T35; rw [List.getD_eq_getElem?_getD, List.getElem?_eq_getElem (by omega)]; exact List.getElem_mem _, q⟩))
      clear x0 x1 x2 x3 x5 HP
      by_cases h2 : 60 < (rd_T35 l0 i).f3.length
      · have HV := Aside0.mk (HLN.out (Or.inl h2))
        go_wp2_with fail
        go_ret
        exact ⟨ret_i HV.out.symm, Q.out.bel⟩
      · by_cases h3 : 40 < (rd_T35 l0 i).f2.size
        · have HV := Aside0.mk (HLN.out (Or.inr h3))
          go_wp2_with fail
          go_ret
          exact ⟨ret_i HV.out.symm, Q.out.bel⟩
        · have HT1 := Aside0.mk (all_step (z := z35) (p := fun x => ¬ tooLong x) hi0 hlt HT.out (fun q => q.elim h2 h3))
          clear HT HLN
          go_wp2_with fail
          refine (impl_numbersOf.to _ _ (rd_T35 l0 i) A3 c3 w _ Q.out.at_ (linkAll_in headIn_one _) (Nat.le_refl _) Q.out.bel X5.out (by omega)).mono ?_
          rintro x w1 ⟨rfl, P1⟩
          have P1 := Aside0.mk (Q.out.trans P1)
          clear Q X5
          go_wp2_with fail
          go_roundw
          case rel => exact ⟨i + 1, by omega, by omega, rfl, ⟨by have := P1.out; rw [head_step _ hi0 hlt] at this; exact this⟩, HT1⟩
          case measure => simp [intOf]; omega
    · have hno : ¬ (1000 < l0.length ∨ ∃ e ∈ l0, tooLong e) := fun q => q.elim h1 (fun ⟨e, he, q⟩ => all_end (by omega) HT.out e he q)
      have hat := HP.out.at_
      have HB := Aside0.mk HP.out.bel
      rw [List.take_of_length_le (by omega)] at hat
      cases hb : (linkAll (1, false) (l0.flatMap numsOf)).2 with
      | true =>
        have HV := Aside0.mk (headV_bad hno hb)
        have c1 := blk_cell hat 1
        rw [hb] at c1
        clear hat HT HP hno hb
        go_wp2_with fail
        go_ret
        exact ⟨ret_i HV.out.symm, HB.out⟩
      | false =>
        have HV := Aside0.mk (headV_good hno hb)
        have c0 := blk_cell hat 0
        have c1 := blk_cell hat 1
        rw [hb] at c1
        clear hat HT HP hno hb
        go_wp2_with fail
        go_ret
        exact ⟨ret_i HV.out.symm, HB.out⟩
end Go.Proofs.YtjkjjfbcakbmnaaDoor.Q
namespace Go.Proofs.YtjkjjfbcakbmnaaDoor.Q
open Go.RowKit Go.Proofs.YtjkjjfbcakbmnaaDoorW.PrintWords Go.Proofs.YtjkjjfbcakbmnaaDoorW.PrintLast Go.Proofs.YtjkjjfbcakbmnaaDoorW.PrintMore
set_option linter.unusedVariables false
set_option linter.unusedSimpArgs false
set_option maxHeartbeats 8000000 in
set_option maxRecDepth 100000 in
theorem spec_l4DrawChart.e (w0 w : World) (g : Nat) (c : List Int) (m : Int) (hI : Cur w0 w g c) (hB : Below w0.heap.size w0 w) (hc : c.length ≤ 1048576) (hm : 0 < m) (hm7 : m ≤ 7) :
    Calls Tryd.prog 55 #[.pointer (some ⟨g, 0, none⟩), .int .i64 m] w fun e w' => ∃ (v : Value) (l : List Acc), e = .returned v ∧ Kd.R k64 64 w' w.heap.size (fun _ => True) v l ∧ (goodChart l ∧ 3 ≤ l.length) ∧ Drew w0 w w' g c := by
  have HL := hB.size
  have D0 := Aside0.mk (Drew.refl hI hB)
  clear hI hB
  go_enter Tryd.func55, Tryd.ntmps55
  go_wp2_with (first | ((with_reducible refine gate_dst (N := 12) rfl ?_); refine Kd.R_lit k64 _ 64 ?hg (N := 12) ?hd (xs := ([] : List (S64))) (inner := []) (ok := fun _ => True) (okp := fun _ => True) ?hr ?hp (fun _ hk => hk) trivial (Below.refl _ _) (Nat.le_refl _) (by simp) ?_; (case hd => rfl); (case hg => rfl); (case hr => first | (go_simp; done) | (go_simp; rfl)); (case hp => exact (Reps.none _ _)); intro v5 w4 ho hb hg_ hnew_; clear hg_ hnew_; have D1 := Aside0.mk (D0.out.below hb); have R1 := Aside0.mk (Kd.R_mono (D1.out.cur.apart ho (by decide)) (ok' := fun k => k ≠ g) (fun _ hk => hk.2)); clear hb ho))
  refine (spec_l1Below.e m D1.out.cur D1.out.bel hc (by omega)).mono ?_
  rintro x w5 ⟨r, rfl, ⟨r0, r1, _⟩, hD⟩
  have D2 := Aside0.mk (D1.out.call hD)
  have R2 := Aside0.mk (hD.R R1.out (fun _ hk => hk))
  have hr := r1 hm
  clear D0 D1 R1 hD r1
  have GC := Aside0.mk goodChart_nil
  go_wp2_with fail
  go_loopg [5, 6] (3 + r).toNat (fun kq v5 v6 W => ∃ (n : Int) (l : List Acc), v6 = .int .i64 n ∧ 0 ≤ n ∧ kq = n.toNat ∧ (l.length : Int) + n = 3 + r ∧ Aside0 (k64.R 64 W w.heap.size (fun k => k ≠ g) v5 l) ∧ Aside0 (goodChart l) ∧ Aside0 (Drew w0 w W g c))
  case atStart => exact ⟨3 + r, [], rfl, by omega, rfl, by simp, R2, GC, D2⟩
  case round =>
    clear R2 GC D2
    obtain ⟨n, l, rfl, n0, hk, hln, RO, GC, D⟩ := hrel
    obtain ⟨A5, c5, rfl⟩ := Kd.R_slice RO.out
    by_cases hn : n > 0
    · obtain ⟨q0, rfl⟩ : ∃ q, gk = q + 1 := ⟨gk - 1, by omega⟩
      have hl10 : l.length < 10 := by omega
      go_wp2_with fail
      refine (spec_l1DrawName.e D.out.cur D.out.bel hc).mono ?_
      rintro x w6 ⟨s, rfl, hs, hD⟩
      replace RO := Aside0.mk (hD.R RO.out (fun _ hk => hk))
      replace D := Aside0.mk (D.out.call hD)
      clear hD
      go_wp2_with fail
      refine (spec_l1Below.e 5 D.out.cur D.out.bel hc (by omega)).mono ?_
      rintro x w7 ⟨kd, rfl, ⟨kd0, kd1, _⟩, hD⟩
      replace RO := Aside0.mk (hD.R RO.out (fun _ hk => hk))
      replace D := Aside0.mk (D.out.call hD)
      have kd2 := kd1 (by omega)
      clear hD kd1
      have hb := below_alloc (Below.refl w7.heap.size w7) (Obj.cells #[.string s, .int .i64 (-1), .int .i64 (1 + kd)] 64)
      have BK := Aside0.mk (blk_new w7 (Obj.cells #[.string s, .int .i64 (-1), .int .i64 (1 + kd)] 64))
      have GB := D.out.size
      have NB := Nat.ne_of_gt D.out.cur.lt
      replace RO := Aside0.mk (Kd.R_below (Kd.R_mono (ok' := fun k => k ≠ g ∧ k ≠ w7.heap.size) (Kd.R_bound RO.out) (fun k hk => ⟨hk.1, by have := hk.2.2.1; omega⟩)) hb)
      replace D := Aside0.mk (D.out.below hb)
      clear hb
      go_wp2_with fail
      generalize w7.alloc (Obj.cells #[.string s, .int .i64 (-1), .int .i64 (1 + kd)] 64) = w8 at *
      have hs' : s.size ≤ 100 := by omega
      clear hs
      go_loopg [9] l.length (fun kq v9 W => ∃ (k : Int) (s' : ByteArray), v9 = .int .i64 k ∧ 0 ≤ k ∧ k ≤ (l.length : Int) ∧ kq + k.toNat = l.length ∧ s'.size ≤ 100 ∧ Aside0 (W.heap[w7.heap.size]? = some (.cells #[.string s', .int .i64 (-1), .int .i64 (1 + kd)] 64 (0, 0))) ∧ Aside0 (k64.R 64 W w.heap.size (fun k => k ≠ g ∧ k ≠ w7.heap.size) (.slice A5 l.length c5) l) ∧ Aside0 (Drew w0 w W g c))
      case atStart => exact ⟨0, s, rfl, by omega, by omega, by simp, hs', BK, RO, D⟩
      case round =>
        clear BK RO D hs'
        obtain ⟨k, s, rfl, k0, k1, hkk, hs, BK, RO, D⟩ := hrel
        by_cases hkl : k < (l.length : Int)
        · obtain ⟨q, rfl⟩ : ∃ q, gk = q + 1 := ⟨gk - 1, by omega⟩
          obtain ⟨ad, e0, x0, x1, x2⟩ := at_T64 (Kd.R_reads' RO.out).2.2 k k0 hkl
          subst e0
          have y0 : wr.cell? ⟨w7.heap.size, 0, none⟩ = some (.string s) := (blk_cell BK.out 0).trans rfl
          clear x1 x2
          go_wp2_with fail
          go_quiet (fail)
          go_wp2_with fail
          · refine (spec_l1Text.to l.length (l.length : Int) _ (by omega) (by omega) (by omega)).mono ?_
            rintro x w9 ⟨rfl, hd⟩
            have hsz := decT_size l.length
            replace BK := Aside0.mk (blk_below (o := .cells #[.string s, .int .i64 (-1), .int .i64 (1 + kd)] 64 (0, 0)) (blk_drewN BK.out _) hd.below)
            replace RO := Aside0.mk (Kd.R_below (Kd.R_drewN RO.out _) hd.below)
            replace D := Aside0.mk ((D.out.drewN _).below hd.below)
            have y0 : w9.cell? ⟨w7.heap.size, 0, none⟩ = some (.string s) := (blk_cell BK.out 0).trans rfl
            have y1 : w9.frozen? ⟨w7.heap.size, 0, none⟩ = false := blk_frozen BK.out 0
            clear hd x0
            go_wp2_with fail
            go_roundg q
            case rel =>
              refine ⟨k + 1, _, by go_num, by omega, by omega, by omega, ?_, ⟨blk_set BK.out 0 _⟩, ⟨Kd.R_far (p := ⟨w7.heap.size, 0, none⟩) RO.out (fun _ hk => hk.2) _⟩, ⟨D.out.set (p := ⟨w7.heap.size, 0, none⟩) HL GB NB _⟩⟩
              rw [ByteArray.size_append]
              show 1 + _ ≤ 100
              omega
            case measure => omega
          · go_roundg q
            case rel => exact ⟨k + 1, s, by go_num, by omega, by omega, by omega, hs, ⟨blk_drewN BK.out _⟩, ⟨Kd.R_drewN RO.out _⟩, ⟨D.out.drewN _⟩⟩
            case measure => omega
        · have hke : k = (l.length : Int) := by omega
          clear hkk k0 k1 hkl
          subst hke
          go_upto_region 12 with fail
          go_cut [52] (fun v52 W => ∃ b : Bool, v52 = .bool b ∧ (b = true → 0 < l.length) ∧ Aside0 (W.heap[w7.heap.size]? = some (.cells #[.string s, .int .i64 (-1), .int .i64 (1 + kd)] 64 (0, 0))) ∧ Aside0 (k64.R 64 W w.heap.size (fun k => k ≠ g ∧ k ≠ w7.heap.size) (.slice A5 l.length c5) l) ∧ Aside0 (Drew w0 w W g c))
          case first =>
            by_cases h0 : 0 < l.length
            · go_wp2_with fail
              refine (spec_l1Once.e 3 D.out.cur D.out.bel hc (by omega)).mono ?_
              rintro x w9 ⟨b, rfl, hD⟩
              replace BK := Aside0.mk (hD.blk BK.out NB)
              replace RO := Aside0.mk (hD.R RO.out (fun _ hk => hk.1))
              replace D := Aside0.mk (D.out.call hD)
              clear hD
              go_wp2_with fail
              go_meet
              exact ⟨!b, rfl, fun _ => h0, BK, RO, D⟩
            · have h0' : l.length = 0 := by omega
              go_wp2_with fail
              go_meet
              exact ⟨false, rfl, (fun h => by cases h), BK, RO, D⟩
          case rest =>
            clear BK RO D
            obtain ⟨b, rfl, hb0, BK, RO, D⟩ := hcut
            go_upto_if 52 with fail
            go_cut [] (fun W => ∃ (p kk : Int), p < (l.length : Int) ∧ Aside0 (W.heap[w7.heap.size]? = some (.cells #[.string s, .int .i64 p, .int .i64 kk] 64 (0, 0))) ∧ Aside0 (k64.R 64 W w.heap.size (fun k => k ≠ g ∧ k ≠ w7.heap.size) (.slice A5 l.length c5) l) ∧ Aside0 (Drew w0 w W g c))
            case first =>
              cases b
              · go_wp2_with fail
                go_meet
                exact ⟨-1, 1 + kd, by omega, BK, RO, D⟩
              · have h0 := hb0 rfl
                go_wp2_with fail
                refine (spec_l1Below.e 3 D.out.cur D.out.bel hc (by omega)).mono ?_
                rintro x w9 ⟨u, rfl, ⟨u0, u1, _⟩, hD⟩
                have u2 := u1 (by omega)
                replace BK := Aside0.mk (hD.blk BK.out NB)
                replace RO := Aside0.mk (hD.R RO.out (fun _ hk => hk.1))
                replace D := Aside0.mk (D.out.call hD)
                clear hD
                go_wp2_with fail
                go_loopg [10, 11] u.toNat (fun kq v10 v11 W => ∃ (on up : Int), v10 = .int .i64 on ∧ 0 ≤ on ∧ on < (l.length : Int) ∧ v11 = .int .i64 up ∧ 0 ≤ up ∧ up ≤ 3 ∧ kq = up.toNat ∧ Aside0 (W.heap[w7.heap.size]? = some (.cells #[.string s, .int .i64 (-1), .int .i64 (1 + kd)] 64 (0, 0))) ∧ Aside0 (k64.R 64 W w.heap.size (fun k => k ≠ g ∧ k ≠ w7.heap.size) (.slice A5 l.length c5) l) ∧ Aside0 (Drew w0 w W g c))
                case atStart => exact ⟨(l.length : Int) - 1, u, by go_num, by omega, by omega, rfl, u0, by omega, rfl, BK, RO, D⟩
                case round =>
                  clear BK RO D u0 u1 u2
                  obtain ⟨on, up, rfl, o0, o1, rfl, up0, up3, hup, BK, RO, D⟩ := hrel
                  obtain ⟨ad, e0, x0, x1, x2⟩ := at_T64 (Kd.R_reads' RO.out).2.2 on o0 o1
                  have hlt := GC.out.2.2 on o0 o1
                  have HLT := Aside0.mk hlt
                  subst e0
                  clear x0 x2 hlt
                  by_cases hu : up > 0
                  · obtain ⟨q, rfl⟩ : ∃ q, gk = q + 1 := ⟨gk - 1, by omega⟩
                    by_cases hp : 0 ≤ (rd_T64 l on).f1
                    · go_wp2_with fail
                      go_roundg q
                      case rel => exact ⟨(rd_T64 l on).f1, up - 1, rfl, hp, Int.lt_trans HLT.out o1, by go_num, by omega, by omega, by omega, BK, RO, D⟩
                      case measure => omega
                    · have hp' : (rd_T64 l on).f1 < 0 := by omega
                      clear HLT hp
                      go_wp2_with fail
                      refine (spec_l4Deep.to _ c5 l on _ (Kd.R_reads' RO.out).2.2 o0 o1 (by omega) (goodChart_deep GC.out o1)).mono ?_
                      rintro x w' ⟨rfl, rfl⟩
                      by_cases hdp : deepAt l on < 8
                      · obtain ⟨ad, e0, x0, x1, x2⟩ := at_T64 (Kd.R_reads' RO.out).2.2 on o0 o1
                        cases e0
                        have y1 := blk_frozen BK.out 1
                        have y2 := blk_frozen BK.out 2
                        have z1 := (blk_cell BK.out 1).trans rfl
                        have z2 := (blk_cell BK.out 2).trans rfl
                        have x2' := (blk_far BK.out (p := ad.add (on.toNat * 3 + 2)))
                        clear x0 x1 x2'
                        go_wp2_with fail
                        go_meet
                        exact ⟨on, (rd_T64 l on).f2, o1, ⟨blk_set (blk_set BK.out 1 _) 2 _⟩, ⟨Kd.R_far (p := ⟨w7.heap.size, 2, none⟩) (Kd.R_far (p := ⟨w7.heap.size, 1, none⟩) RO.out (fun _ hk => hk.2) _) (fun _ hk => hk.2) _⟩, ⟨(D.out.set (p := ⟨w7.heap.size, 1, none⟩) HL GB NB _).set (p := ⟨w7.heap.size, 2, none⟩) HL GB NB _⟩⟩
                      · go_wp2_with fail
                        go_meet
                        exact ⟨-1, 1 + kd, by omega, BK, RO, D⟩
                  · clear HLT
                    go_wp2_with fail
                    refine (spec_l4Deep.to _ c5 l on _ (Kd.R_reads' RO.out).2.2 o0 o1 (by omega) (goodChart_deep GC.out o1)).mono ?_
                    rintro x w' ⟨rfl, rfl⟩
                    by_cases hdp : deepAt l on < 8
                    · obtain ⟨ad, e0, x0, x1, x2⟩ := at_T64 (Kd.R_reads' RO.out).2.2 on o0 o1
                      cases e0
                      have y1 := blk_frozen BK.out 1
                      have y2 := blk_frozen BK.out 2
                      have z1 := (blk_cell BK.out 1).trans rfl
                      have z2 := (blk_cell BK.out 2).trans rfl
                      have x2' := (blk_far BK.out (p := ad.add (on.toNat * 3 + 2)))
                      clear x0 x1 x2'
                      go_wp2_with fail
                      go_meet
                      exact ⟨on, (rd_T64 l on).f2, o1, ⟨blk_set (blk_set BK.out 1 _) 2 _⟩, ⟨Kd.R_far (p := ⟨w7.heap.size, 2, none⟩) (Kd.R_far (p := ⟨w7.heap.size, 1, none⟩) RO.out (fun _ hk => hk.2) _) (fun _ hk => hk.2) _⟩, ⟨(D.out.set (p := ⟨w7.heap.size, 1, none⟩) HL GB NB _).set (p := ⟨w7.heap.size, 2, none⟩) HL GB NB _⟩⟩
                    · go_wp2_with fail
                      go_meet
                      exact ⟨-1, 1 + kd, by omega, BK, RO, D⟩
            case rest =>
              clear BK RO D
              obtain ⟨p, kk, hp, BK, RO, D⟩ := hcut
              have y0 := (blk_cell BK.out 0).trans rfl
              have y1 := (blk_cell BK.out 1).trans rfl
              have y2 := (blk_cell BK.out 2).trans rfl
              go_wp2_with (first | ((with_reducible refine gate_builtin (b := .append) (xs := #[.tmp 86, .tmp 88]) rfl ?_); at_builtin; refine Kd.R_append k64 w.heap.size rfl (.tmp 86) (.tmp 88) 24 64 (.agg #[(.string ⟨#[]⟩), (.int .i64 0), (.int .i64 0)]) 32 rfl Tryd.underlying24 info64 rfl (by decide) (by omega) (.slice A5 l.length c5) l (⟨s, p, kk⟩ : S64) [.string s, .int .i64 p, .int .i64 kk] (fun k_ => k_ ≠ g ∧ k_ ≠ w7.heap.size) (fun _ => False) rfl (by first | (go_simp; done) | (go_simp; rfl)) ?aP (fun _ hk => hk.elim) ?aF ?aO (Below.refl _ _) ?aS ?aL ?_; (case aP => exact k64_mkM _ _ _ (⟨s, p, kk⟩ : S64)); (case aF => exact fun k hk => ⟨by have := D.out.cur.lt; omega, by have := blk_lt BK.out; omega⟩); (case aO => exact RO.out); (case aS => exact D.out.size); (case aL => omega); intro v1 w1 ho hb hg hat; have RO2 := Aside0.mk ho; have D2 := Aside0.mk (D.out.grown HL hg (fun k hk => ⟨Kd.R_base RO.out k hk, (RO.out.1 k hk).1⟩)); clear ho hb hg hat y0 y1 y2))
              go_roundg q0
              case rel => exact ⟨n - 1, l ++ [⟨s, p, kk⟩], by go_num, by omega, by omega, by simp; omega, ⟨Kd.R_mono RO2.out (fun _ hk => hk.1)⟩, ⟨goodChart_snoc GC.out hl10 hs hp⟩, D2⟩
              case measure => omega
    · have hn0 : n = 0 := by omega
      subst hn0
      go_wp2_with fail
      go_ret
      exact ⟨_, rfl, l, Kd.R_mono RO.out (fun _ _ => trivial), ⟨GC.out, by omega⟩, D.out⟩
end Go.Proofs.YtjkjjfbcakbmnaaDoor.Q
