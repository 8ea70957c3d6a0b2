/- Parts of the proof: what functions of the program and of the reference answer.
   No condition. -/
import Derived.Test.YtjkjjfbcakbmnaaDoorZBooksShut1
import Derived.Test.YtjkjjfbcakbmnaaDoorZBooksShut8
import Derived.Test.YtjkjjfbcakbmnaaDoorZBooksShut7
import Derived.Test.YtjkjjfbcakbmnaaDoorZBooksShut10
import Derived.Test.YtjkjjfbcakbmnaaDoorZBooksShut11
import Derived.Test.YtjkjjfbcakbmnaaDoorZBooksShut15
import Derived.Test.YtjkjjfbcakbmnaaDoorZBooksShut13
import Derived.Test.YtjkjjfbcakbmnaaDoorZBooksShut4
import Derived.Test.YtjkjjfbcakbmnaaDoorZBooksShut17
import Derived.Test.YtjkjjfbcakbmnaaDoorZBooksShut9
import Derived.Test.YtjkjjfbcakbmnaaDoorZBooksShut14
namespace Go.Proofs.YtjkjjfbcakbmnaaDoor.Q
open Go.RowKit Go.Proofs.YtjkjjfbcakbmnaaDoorW.PrintWords Go.Proofs.YtjkjjfbcakbmnaaDoorW.PrintLast Go.Proofs.YtjkjjfbcakbmnaaDoorW.PrintMore
set_option linter.unusedVariables false
set_option linter.unusedSimpArgs false
theorem blk8 {W : World} {g t : Nat} {z0 z1 z2 z3 z4 z5 z6 z7 : Value} (h : W.heap[g]? = some (.cells #[z0, z1, z2, z3, z4, z5, z6, z7] t (0, 0))) (u0 u1 u2 u3 u4 u5 u6 u7 : Value) : ((((((((W.setCell ⟨g, 0, none⟩ u0).setCell ⟨g, 1, none⟩ u1).setCell ⟨g, 2, none⟩ u2).setCell ⟨g, 3, none⟩ u3).setCell ⟨g, 4, none⟩ u4).setCell ⟨g, 5, none⟩ u5).setCell ⟨g, 6, none⟩ u6).setCell ⟨g, 7, none⟩ u7).heap[g]? = some (.cells #[u0, u1, u2, u3, u4, u5, u6, u7] t (0, 0)) := by
  refine blk_put (cs := #[u0, u1, u2, u3, u4, u5, u6, z7]) ?_ 7 _ rfl
  refine blk_put (cs := #[u0, u1, u2, u3, u4, u5, z6, z7]) ?_ 6 _ rfl
  refine blk_put (cs := #[u0, u1, u2, u3, u4, z5, z6, z7]) ?_ 5 _ rfl
  refine blk_put (cs := #[u0, u1, u2, u3, z4, z5, z6, z7]) ?_ 4 _ rfl
  refine blk_put (cs := #[u0, u1, u2, z3, z4, z5, z6, z7]) ?_ 3 _ rfl
  refine blk_put (cs := #[u0, u1, z2, z3, z4, z5, z6, z7]) ?_ 2 _ rfl
  refine blk_put (cs := #[u0, z1, z2, z3, z4, z5, z6, z7]) ?_ 1 _ rfl
  refine blk_put (cs := #[z0, z1, z2, z3, z4, z5, z6, z7]) ?_ 0 _ rfl
  exact h
section
variable {α : Type} {dd : Kd α} {e base g : Nat} {W w : World} {ok : Nat → Prop} {v : Value} {xs : List α}
theorem R_set8 (h : dd.R e W base ok v xs) (hok : ∀ k, ok k → k ≠ g) (u0 u1 u2 u3 u4 u5 u6 u7 : Value) : dd.R e ((((((((W.setCell ⟨g, 0, none⟩ u0).setCell ⟨g, 1, none⟩ u1).setCell ⟨g, 2, none⟩ u2).setCell ⟨g, 3, none⟩ u3).setCell ⟨g, 4, none⟩ u4).setCell ⟨g, 5, none⟩ u5).setCell ⟨g, 6, none⟩ u6).setCell ⟨g, 7, none⟩ u7) base ok v xs := by
  refine Kd.R_far ?_ hok _
  refine Kd.R_far ?_ hok _
  refine Kd.R_far ?_ hok _
  refine Kd.R_far ?_ hok _
  refine Kd.R_far ?_ hok _
  refine Kd.R_far ?_ hok _
  refine Kd.R_far ?_ hok _
  refine Kd.R_far ?_ hok _
  exact h
theorem S_set8 (h : Kd.S dd e W base ok v xs) (hok : ∀ k, ok k → k ≠ g) (u0 u1 u2 u3 u4 u5 u6 u7 : Value) : Kd.S dd e ((((((((W.setCell ⟨g, 0, none⟩ u0).setCell ⟨g, 1, none⟩ u1).setCell ⟨g, 2, none⟩ u2).setCell ⟨g, 3, none⟩ u3).setCell ⟨g, 4, none⟩ u4).setCell ⟨g, 5, none⟩ u5).setCell ⟨g, 6, none⟩ u6).setCell ⟨g, 7, none⟩ u7) base ok v xs := by
  refine Kd.S_far ?_ hok _
  refine Kd.S_far ?_ hok _
  refine Kd.S_far ?_ hok _
  refine Kd.S_far ?_ hok _
  refine Kd.S_far ?_ hok _
  refine Kd.S_far ?_ hok _
  refine Kd.S_far ?_ hok _
  refine Kd.S_far ?_ hok _
  exact h
theorem below_set8 (h : Below w.heap.size w W) (hg : w.heap.size ≤ g) (u0 u1 u2 u3 u4 u5 u6 u7 : Value) : Below w.heap.size w ((((((((W.setCell ⟨g, 0, none⟩ u0).setCell ⟨g, 1, none⟩ u1).setCell ⟨g, 2, none⟩ u2).setCell ⟨g, 3, none⟩ u3).setCell ⟨g, 4, none⟩ u4).setCell ⟨g, 5, none⟩ u5).setCell ⟨g, 6, none⟩ u6).setCell ⟨g, 7, none⟩ u7) := by
  repeat (refine below_set ?_ hg)
  exact h
end
structure Bk where
  m0 : List Acc
  d : Int
  c : Int
  m1 : List Ent
  h : Int
  m2 : List Per
  a : Int
  b : Int
def Bk.none : Bk := ⟨[], 0, 0, [], 0, [], 0, 0⟩
def Bk.val (x : Bk) (v0 v3 v5 : Value) : Value := .agg #[v0, .int .i64 x.d, .int .i64 x.c, v3, .int .i64 x.h, v5, .int .i64 x.a, .int .i64 x.b]
def Bk.own (x : Bk) (W : World) (base : Nat) (v0 v3 v5 : Value) : Prop := Kd.R k64 64 W base (fun _ => True) v0 x.m0 ∧ Kd.S k35 35 W base (fun _ => True) v3 x.m1 ∧ Kd.R k66 66 W base (fun _ => True) v5 x.m2
theorem copyBooks_is {l0 : List Acc} {d c : Int} {l1 : List Ent} {h : Int} {l2 : List Per} {a b : Int} (hs : smallB l0 l1 l2) : impl_copyBooks.f l0 d c l1 h l2 a b = some (l0, d, c, l1, h, l2, a, b) := by
  obtain ⟨h0, ⟨h1, h2⟩, h3⟩ := hs
  unfold impl_copyBooks.f impl_copyLedger.f
  simp only [Option.bind_some, List.nil_append, List.length_nil, Nat.zero_add]
  rw [if_pos (by omega), if_pos (by omega), if_pos ⟨h1, h2⟩]
  rfl
theorem l6Books_is {l0 : List Acc} {d c : Int} {l1 : List Ent} {h : Int} {l2 : List Per} {a b : Int} (hs : smallB l0 l1 l2) (k : Nat) (hk : l1.length < k) : spec_l6Books.f k l0 d c l1 h l2 a b = some (l0, d, c, l1, h, l2, a, b) := by
  obtain ⟨h0, ⟨h1, h2⟩, h3⟩ := hs
  have he := l5Entries_l0 l1 h1 h2 l1.length k 0 (by omega) (by omega) hk
  unfold spec_l6Books.f spec_l5Ledger.f spec_l5Entries.f
  simp only [Option.bind_some, List.nil_append, List.length_nil, Nat.zero_add]
  rw [if_pos (by omega), show spec_l5Entries.l0 k l1 [] 0 = some l1 from he]
  simp only [Option.bind_some]
  rw [if_pos (by omega)]
end Go.Proofs.YtjkjjfbcakbmnaaDoor.Q
namespace Go.Proofs.YtjkjjfbcakbmnaaDoor.Q
open Go.RowKit Go.Proofs.YtjkjjfbcakbmnaaDoorW.PrintWords Go.Proofs.YtjkjjfbcakbmnaaDoorW.PrintLast Go.Proofs.YtjkjjfbcakbmnaaDoorW.PrintMore
attribute [local go_sem] max2_int min2_int max_two min_two max_three min_three max_four min_four   -- for this text's walks alone
set_option linter.unusedVariables false
set_option linter.unusedSimpArgs false
theorem curSum_step {l : List Lin} {i : Int} (c : Int) (h0 : 0 ≤ i) (h1 : i < (l.length : Int)) : curSum (l.take (i + 1).toNat) c = curSum (l.take i.toNat) c + if (rd_T81 l i).f2 = c then (rd_T81 l i).f3 else 0 := by rw [take_snoc h0 h1, curSum_snoc]
theorem dimSum_step {l : List Lin} {i : Int} (c : Int) (h0 : 0 ≤ i) (h1 : i < (l.length : Int)) : dimSum (l.take (i + 1).toNat) c = dimSum (l.take i.toNat) c + if (rd_T81 l i).f1 = c then (rd_T81 l i).f4 else 0 := by rw [take_snoc h0 h1, dimSum_snoc]
theorem sums_bounds {l : List Lin} (h : ∀ x ∈ l, (-100000000000 ≤ x.f3 ∧ x.f3 ≤ 100000000000) ∧ (-100000000000 ≤ x.f4 ∧ x.f4 ≤ 100000000000)) (hl : l.length ≤ 60) (n : Nat) (c d : Int) : (-6000000000000 ≤ curSum (l.take n) c ∧ curSum (l.take n) c ≤ 6000000000000) ∧ (-6000000000000 ≤ dimSum (l.take n) d ∧ dimSum (l.take n) d ≤ 6000000000000) := by
  have hs : smallLines (l.take n) := fun y hy => h y (List.mem_of_mem_take hy)
  have h1 := curSum_small hs c
  have h2 := dimSum_small hs d
  have h3 : ((l.take n).length : Int) ≤ 60 := by rw [List.length_take]; omega
  omega
theorem frame_parts {chart : List Acc} {dims curs : Int} (h : frameB chart dims curs = true) : chartOk chart = true ∧ (1 ≤ dims ∧ dims ≤ 20) ∧ (1 ≤ curs ∧ curs ≤ 20) := by
  unfold frameB at h
  rw [Bool.and_eq_true, Bool.and_eq_true] at h
  exact ⟨h.1, inB_true.1 h.2.1, inB_true.1 h.2.2⟩
theorem and_l {a b c : Bool} (h : a = true) (k : c = b) : c = (a && b) := by rw [h, Bool.true_and]; exact k
theorem and_r {a b : Bool} (h : a = false) : false = (a && b) := by rw [h]; rfl
set_option maxHeartbeats 16000000 in
set_option maxRecDepth 100000 in
theorem spec_EntryOk.to (A0 : Option Addr) (c0 : Nat) (l0 : List Acc) (dims curs : Int) (e : Ent) (A3 : Option Addr) (c3 : Nat) (w : World) (hr0 : Kd.C k64 w A0 l0.length l0) (hs : ∀ x ∈ l0, x.f0.size ≤ maxLen) (hr3 : Kd.C k81 w A3 e.f3.length e.f3) (hm : e.f2.size ≤ maxLen) :
    Calls Tryd.prog 18 #[.agg #[.slice A0 l0.length c0, .int .i64 dims, .int .i64 curs], .agg #[.int .i64 e.f0, .int .i64 e.f1, .string e.f2, .slice A3 e.f3.length c3]] w fun x w' => x = .returned (.bool (frameB l0 dims curs && entryB l0 dims curs e)) ∧ Below w.heap.size w w' := by
  have hl0 := hr0.2.1
  have hlen := hr3.2.1
  have H0 := Aside0.mk hr0
  have H3 := Aside0.mk hr3
  have HS := Aside0.mk hs
  have HM := Aside0.mk hm
  have H00 := Aside0.mk (Kd.C_below hr0 (below_two w (.cells #[.slice A0 l0.length c0, .int .i64 dims, .int .i64 curs] 26) (.cells #[.int .i64 e.f0, .int .i64 e.f1, .string e.f2, .slice A3 e.f3.length c3] 35)))
  clear hr0 hr3 hs hm
  go_enter Tryd.func18, Tryd.ntmps18
  go_wp2_with fail
  refine (spec_FrameOk.to A0 c0 l0 dims curs _ H00.out HS.out).mono ?_
  rintro x w1 ⟨rfl, hb⟩
  have HB := Aside0.mk (below_into (w := w) hb (below_two _ _ _))
  have f0 : w1.cell? ⟨w.heap.size, 0, none⟩ = some (.slice A0 l0.length c0) := pw_cell_below hb (by go_simp)
  have f1 : w1.cell? ⟨w.heap.size, 1, none⟩ = some (.int .i64 dims) := pw_cell_below hb (by go_simp)
  have f2 : w1.cell? ⟨w.heap.size, 2, none⟩ = some (.int .i64 curs) := pw_cell_below hb (by go_simp)
  have y0 : w1.cell? ⟨w.heap.size + 1, 0, none⟩ = some (.int .i64 e.f0) := pw_cell_below hb (by go_simp)
  have y1 : w1.cell? ⟨w.heap.size + 1, 1, none⟩ = some (.int .i64 e.f1) := pw_cell_below hb (by go_simp)
  have y2 : w1.cell? ⟨w.heap.size + 1, 2, none⟩ = some (.string e.f2) := pw_cell_below hb (by go_simp)
  have y3 : w1.cell? ⟨w.heap.size + 1, 3, none⟩ = some (.slice A3 e.f3.length c3) := pw_cell_below hb (by go_simp)
  clear hb H00
  cases hfr : frameB l0 dims curs with
  | false =>
    have HF := Aside0.mk hfr
    clear hfr
    go_wp2_with fail
    go_ret
    exact ⟨ret_bool (and_r HF.out), HB.out⟩
  | true =>
    obtain ⟨hch, hd, hc⟩ := frame_parts hfr
    have HCH := Aside0.mk hch
    have HD := Aside0.mk hd
    have HC := Aside0.mk hc
    have HF := Aside0.mk hfr
    clear hfr hch hd hc
    go_wp2_with fail
    refine (spec_l2Day.to _ _).mono ?_
    rintro x w' ⟨rfl, rfl⟩
    cases h1 : inB e.f0 0 40000 with
    | false =>
      have HN := Aside0.mk (entryB_not (fun q => inB_false.1 h1 q.1) : false = entryB l0 dims curs e)
      clear h1
      go_wp2_with fail
      go_ret
      exact ⟨ret_bool (and_l HF.out HN.out), HB.out⟩
    | true =>
      have P1 := Aside0.mk (inB_true.1 h1)
      clear h1
      go_wp2_with fail
      refine (spec_l1In.to _ _ _ _).mono ?_
      rintro x w' ⟨rfl, rfl⟩
      cases h2 : inB e.f1 0 1000 with
      | false =>
        have HN := Aside0.mk (entryB_not (fun q => inB_false.1 h2 q.2.1) : false = entryB l0 dims curs e)
        clear h2
        go_wp2_with fail
        go_ret
        exact ⟨ret_bool (and_l HF.out HN.out), HB.out⟩
      | true =>
        have P2 := Aside0.mk (inB_true.1 h2)
        clear h2
        go_wp2_with fail
        refine (spec_l5TextOk.to _ _ HM.out).mono ?_
        rintro x w' ⟨rfl, rfl⟩
        cases h3 : textB e.f2 with
        | false =>
          have HN := Aside0.mk (entryB_not (fun q => by have := textB_iff.2 ⟨q.2.2.2.2.1, q.2.2.1⟩; rw [h3] at this; cases this) : false = entryB l0 dims curs e)
          clear h3
          go_wp2_with fail
          go_ret
          exact ⟨ret_bool (and_l HF.out HN.out), HB.out⟩
        | true =>
          have P3 := Aside0.mk (textB_iff.1 h3)
          clear h3
          go_wp2_with fail
          refine (spec_l1In.to _ _ _ _).mono ?_
          rintro x w' ⟨rfl, rfl⟩
          cases h4 : inB (e.f3.length : Int) 2 60 with
          | false =>
            have HN := Aside0.mk (entryB_not (fun q => inB_false.1 h4 (by have := q.2.2.2.1; omega)) : false = entryB l0 dims curs e)
            clear h4
            go_wp2_with fail
            go_ret
            exact ⟨ret_bool (and_l HF.out HN.out), HB.out⟩
          | true =>
            obtain ⟨hn0, hn1⟩ := inB_true.1 h4
            clear h4
            have HB1 := Aside0.mk (Below.refl w'.heap.size w')
            have F0 := Aside0.mk f0
            have F1 := Aside0.mk f1
            have F2 := Aside0.mk f2
            have Y3 := Aside0.mk y3
            go_wp2_with fail
            clear f0 f1 f2 y0 y1 y2 y3
            go_loopw [5] (fun v wr => ∃ i : Int, 0 ≤ i ∧ i ≤ (e.f3.length : Int) ∧ v = .int .i64 i ∧ Aside0 (Below w'.heap.size w' wr) ∧ Aside0 (∀ x ∈ e.f3.take i.toNat, lineP l0 dims curs x)) (fun v _ => (e.f3.length - (intOf v).toNat))
            case atStart => exact ⟨0, by omega, by omega, rfl, HB1, ⟨fun x hx => by cases hx⟩⟩
            case round =>
              clear HB1
              obtain ⟨i, hi0, hi1, rfl, HB1, HO⟩ := hrel
              have f0 := pw_cell_below HB1.out F0.out
              have f1 := pw_cell_below HB1.out F1.out
              have f2 := pw_cell_below HB1.out F2.out
              have y3 := pw_cell_below HB1.out Y3.out
              have HBW := Aside0.mk (below_into HB1.out HB.out)
              by_cases hlt : i < (e.f3.length : Int)
              · obtain ⟨ad, e0, x0, x1, x2, x3, x4⟩ := at_T81 (Kd.C_below H3.out HBW.out) i hi0 hlt
                cases e0
                have HC0 := Aside0.mk (Kd.C_below H0.out HBW.out)
                go_wp2_with fail
                go_region_held3 (fun w' => w'.cell? ⟨w.heap.size, 0, none⟩ = some (.slice A0 l0.length c0) ∧ w'.cell? ⟨w.heap.size, 1, none⟩ = some (.int .i64 dims) ∧ w'.cell? ⟨w.heap.size, 2, none⟩ = some (.int .i64 curs) ∧ w'.cell? ⟨w.heap.size + 1, 3, none⟩ = some (.slice (some ad) e.f3.length c3) ∧ w'.cell? (ad.add (i.toNat * 5)) = some (.int .i64 (rd_T81 e.f3 i).f0) ∧ w'.cell? ⟨(ad.add (i.toNat * 5)).block, (ad.add (i.toNat * 5)).off + 1, none⟩ = some (.int .i64 (rd_T81 e.f3 i).f1) ∧ w'.cell? ⟨(ad.add (i.toNat * 5)).block, (ad.add (i.toNat * 5)).off + 2, none⟩ = some (.int .i64 (rd_T81 e.f3 i).f2) ∧ w'.cell? ⟨(ad.add (i.toNat * 5)).block, (ad.add (i.toNat * 5)).off + 3, none⟩ = some (.int .i64 (rd_T81 e.f3 i).f3) ∧ w'.cell? ⟨(ad.add (i.toNat * 5)).block, (ad.add (i.toNat * 5)).off + 4, none⟩ = some (.int .i64 (rd_T81 e.f3 i).f4)) ((first | go_keep | exact ⟨pw_cell_below hb (by assumption), pw_cell_below hb (by assumption), pw_cell_below hb (by assumption), pw_cell_below hb (by assumption), pw_cell_below hb (by assumption), pw_cell_below hb (by assumption), pw_cell_below hb (by assumption), pw_cell_below hb (by assumption), pw_cell_below hb (by assumption)⟩))
                  ((go_at_call 44; refine (spec_l5LineOk.to A0 c0 l0 dims curs (rd_T81 e.f3 i) _ (by repeat (first | exact HC0.out | refine Kd.C_drew ?_)) HS.out HCH.out HD.out HC.out).mono ?_; rintro x w2 ⟨rfl, hb⟩))
                have HB2 := Aside0.mk (below_into (w := w') hb (below_drew HB1.out))
                clear hb
                cases hlb : lineB l0 dims curs (rd_T81 e.f3 i) with
                | false =>
                  have HN := Aside0.mk (entryB_not (fun q => by have := lineB_true.2 (all_at (z := z81) (p := lineP l0 dims curs) hi0 hlt q.2.2.2.2.2.1); rw [show lineB l0 dims curs (e.f3.getD i.toNat z81) = false from hlb] at this; cases this) : false = entryB l0 dims curs e)
                  have HBF := Aside0.mk (below_into HB2.out HB.out)
                  clear hlb HB2
                  go_wp2_with fail
                  go_ret
                  exact ⟨ret_bool (and_l HF.out HN.out), HBF.out⟩
                | true =>
                  have HO2 := Aside0.mk (all_step (z := z81) (p := lineP l0 dims curs) hi0 hlt HO.out (lineB_true.1 hlb))
                  clear hlb
                  go_wp2_with fail
                  go_roundw
                  case rel => exact ⟨i + 1, by omega, by omega, rfl, HB2, HO2⟩
                  case measure => simp [intOf]; omega
              · have HOK := Aside0.mk (all_end (by omega) HO.out : ∀ x ∈ e.f3, lineP l0 dims curs x)
                have HSB := Aside0.mk (fun n c d => sums_bounds (l := e.f3) (fun x hx => ⟨(HOK.out x hx).2.2.2.1, (HOK.out x hx).2.2.2.2.1⟩) (by omega) n c d)
                have HAM := Aside0.mk (fun (k : Int) (h0 : 0 ≤ k) (h1 : k < (e.f3.length : Int)) => (all_at (z := z81) (p := fun x => (-100000000000 ≤ x.f3 ∧ x.f3 ≤ 100000000000) ∧ (-100000000000 ≤ x.f4 ∧ x.f4 ≤ 100000000000)) h0 h1 (fun x hx => ⟨(HOK.out x hx).2.2.2.1, (HOK.out x hx).2.2.2.2.1⟩)))
                clear HO
                go_wp2_with fail
                clear f0 f1 f2 y3
                go_loopw [6] (fun v wr => ∃ i : Int, 0 ≤ i ∧ i ≤ (e.f3.length : Int) ∧ v = .int .i64 i ∧ Aside0 (Below w'.heap.size w' wr) ∧ Aside0 (∀ x ∈ e.f3.take i.toNat, curSum e.f3 x.f2 = 0 ∧ dimSum e.f3 x.f1 = 0)) (fun v _ => (e.f3.length - (intOf v).toNat))
                case atStart => exact ⟨0, by omega, by omega, rfl, HB1, ⟨fun x hx => by cases hx⟩⟩
                case round =>
                  clear HB1 HBW
                  obtain ⟨j, hj0, hj1, rfl, HB1, HZ⟩ := hrel
                  have y3 := pw_cell_below HB1.out Y3.out
                  by_cases hlt2 : j < (e.f3.length : Int)
                  · go_wp2_with fail
                    clear y3
                    go_loopw [7, 8, 9] (fun vc vd vk wr => ∃ k : Int, 0 ≤ k ∧ k ≤ (e.f3.length : Int) ∧ vk = .int .i64 k ∧ vc = .int .i64 (curSum (e.f3.take k.toNat) (rd_T81 e.f3 j).f2) ∧ vd = .int .i64 (dimSum (e.f3.take k.toNat) (rd_T81 e.f3 j).f1) ∧ Aside0 (Below w'.heap.size w' wr)) (fun _ _ vk _ => (e.f3.length - (intOf vk).toNat))
                    case atStart => exact ⟨0, by omega, by omega, rfl, rfl, rfl, HB1⟩
                    case round =>
                      clear HB1
                      obtain ⟨k, hk0, hk1, rfl, rfl, rfl, HB1⟩ := hrel
                      have y3 := pw_cell_below HB1.out Y3.out
                      have HBW := Aside0.mk (below_into HB1.out HB.out)
                      by_cases hlt3 : k < (e.f3.length : Int)
                      · obtain ⟨ad, e0, x0, x1, x2, x3, x4⟩ := at_T81 (Kd.C_below H3.out HBW.out) k hk0 hlt3
                        obtain ⟨bd, e1, z0, z1, z2, z3, z4⟩ := at_T81 (Kd.C_below H3.out HBW.out) j hj0 hlt2
                        cases e0
                        obtain rfl : ad = bd := by injection e1
                        have HC1 := Aside0.mk (curSum_step (l := e.f3) (rd_T81 e.f3 j).f2 hk0 hlt3)
                        have HD1 := Aside0.mk (dimSum_step (l := e.f3) (rd_T81 e.f3 j).f1 hk0 hlt3)
                        obtain ⟨⟨b0, b1⟩, b2, b3⟩ := HSB.out k.toNat (rd_T81 e.f3 j).f2 (rd_T81 e.f3 j).f1
                        obtain ⟨⟨m0, m1⟩, m2, m3⟩ := show (-100000000000 ≤ (rd_T81 e.f3 k).f3 ∧ (rd_T81 e.f3 k).f3 ≤ 100000000000) ∧ (-100000000000 ≤ (rd_T81 e.f3 k).f4 ∧ (rd_T81 e.f3 k).f4 ≤ 100000000000) from HAM.out k hk0 hlt3
                        generalize curSum (e.f3.take k.toNat) (rd_T81 e.f3 j).f2 = cs at *
                        generalize dimSum (e.f3.take k.toNat) (rd_T81 e.f3 j).f1 = ds at *
                        cases hq : ((rd_T81 e.f3 k).f2 == (rd_T81 e.f3 j).f2) with
                        | true =>
                          cases hr : ((rd_T81 e.f3 k).f1 == (rd_T81 e.f3 j).f1) with
                          | true =>
                            go_wp2_with fail
                            go_quiet (fail)
                            go_wp2_with fail
                            go_quiet (fail)
                            go_wp2_with fail
                            go_roundw
                            case rel => exact ⟨k + 1, by omega, by omega, rfl, by rw [HC1.out, if_pos (beq_iff_eq.1 hq)], by rw [HD1.out, if_pos (beq_iff_eq.1 hr)], ⟨pw_below_drewN HB1.out _⟩⟩
                            case measure => simp [intOf]; omega
                          | false =>
                            go_wp2_with fail
                            go_quiet (fail)
                            go_wp2_with fail
                            go_quiet (fail)
                            go_wp2_with fail
                            go_roundw
                            case rel => exact ⟨k + 1, by omega, by omega, rfl, by rw [HC1.out, if_pos (beq_iff_eq.1 hq)], by rw [HD1.out, if_neg (beq_eq_false_iff_ne.1 hr), Int.add_zero], ⟨pw_below_drewN HB1.out _⟩⟩
                            case measure => simp [intOf]; omega
                        | false =>
                          cases hr : ((rd_T81 e.f3 k).f1 == (rd_T81 e.f3 j).f1) with
                          | true =>
                            go_wp2_with fail
                            go_quiet (fail)
                            go_wp2_with fail
                            go_quiet (fail)
                            go_wp2_with fail
                            go_roundw
                            case rel => exact ⟨k + 1, by omega, by omega, rfl, by rw [HC1.out, if_neg (beq_eq_false_iff_ne.1 hq), Int.add_zero], by rw [HD1.out, if_pos (beq_iff_eq.1 hr)], ⟨pw_below_drewN HB1.out _⟩⟩
                            case measure => simp [intOf]; omega
                          | false =>
                            go_wp2_with fail
                            go_quiet (fail)
                            go_wp2_with fail
                            go_quiet (fail)
                            go_wp2_with fail
                            go_roundw
                            case rel => exact ⟨k + 1, by omega, by omega, rfl, by rw [HC1.out, if_neg (beq_eq_false_iff_ne.1 hq), Int.add_zero], by rw [HD1.out, if_neg (beq_eq_false_iff_ne.1 hr), Int.add_zero], ⟨pw_below_drewN HB1.out _⟩⟩
                            case measure => simp [intOf]; omega
                      · have HKE : k = (e.f3.length : Int) := by omega
                        subst HKE
                        have hcd := Aside0.mk (show curSum (e.f3.take (e.f3.length : Int).toNat) (rd_T81 e.f3 j).f2 = curSum e.f3 (rd_T81 e.f3 j).f2 ∧ dimSum (e.f3.take (e.f3.length : Int).toNat) (rd_T81 e.f3 j).f1 = dimSum e.f3 (rd_T81 e.f3 j).f1 by rw [List.take_of_length_le (by omega)]; exact ⟨rfl, rfl⟩)
                        generalize curSum (e.f3.take (e.f3.length : Int).toNat) (rd_T81 e.f3 j).f2 = cs at *
                        generalize dimSum (e.f3.take (e.f3.length : Int).toNat) (rd_T81 e.f3 j).f1 = ds at *
                        by_cases z1 : cs = 0
                        · have z1b : (cs != 0) = false := by rw [z1]; rfl
                          by_cases z2 : ds = 0
                          · have z2b : (ds != 0) = false := by rw [z2]; rfl
                            have HZ2 := Aside0.mk (all_step (z := z81) (p := fun x => curSum e.f3 x.f2 = 0 ∧ dimSum e.f3 x.f1 = 0) hj0 hlt2 HZ.out ⟨hcd.out.1 ▸ z1, hcd.out.2 ▸ z2⟩)
                            clear hcd
                            go_wp2_with fail
                            go_roundw
                            case rel => exact ⟨j + 1, by omega, by omega, rfl, HB1, HZ2⟩
                            case measure => simp [intOf]; omega
                          · have z2b : (ds != 0) = true := bne_iff_ne.2 z2
                            have HN := Aside0.mk (entryB_not (fun q => z2 (hcd.out.2.trans (all_at (z := z81) (p := fun x => curSum e.f3 x.f2 = 0 ∧ dimSum e.f3 x.f1 = 0) hj0 hlt2 q.2.2.2.2.2.2).2)) : false = entryB l0 dims curs e)
                            clear hcd
                            go_wp2_with fail
                            go_ret
                            exact ⟨ret_bool (and_l HF.out HN.out), HBW.out⟩
                        · have z1b : (cs != 0) = true := bne_iff_ne.2 z1
                          have HN := Aside0.mk (entryB_not (fun q => z1 (hcd.out.1.trans (all_at (z := z81) (p := fun x => curSum e.f3 x.f2 = 0 ∧ dimSum e.f3 x.f1 = 0) hj0 hlt2 q.2.2.2.2.2.2).1)) : false = entryB l0 dims curs e)
                          clear hcd
                          go_wp2_with fail
                          go_ret
                          exact ⟨ret_bool (and_l HF.out HN.out), HBW.out⟩
                  · have HBW := Aside0.mk (below_into HB1.out HB.out)
                    have HE := Aside0.mk (show entryP l0 dims curs e from ⟨P1.out, P2.out, P3.out.2, ⟨by omega, by omega⟩, P3.out.1, HOK.out, all_end (by omega) HZ.out⟩)
                    go_wp2_with fail
                    go_ret
                    exact ⟨ret_bool (and_l HF.out (entryB_true.2 HE.out).symm), HBW.out⟩
end Go.Proofs.YtjkjjfbcakbmnaaDoor.Q
namespace Go.Proofs.YtjkjjfbcakbmnaaDoor.Q
open Go.RowKit Go.Proofs.YtjkjjfbcakbmnaaDoorW.PrintWords Go.Proofs.YtjkjjfbcakbmnaaDoorW.PrintLast Go.Proofs.YtjkjjfbcakbmnaaDoorW.PrintMore
set_option linter.unusedVariables false
set_option linter.unusedSimpArgs false
theorem results_c1 {P : Program} {fn : Func} {p : Tmp} {ty : TypeId} (h : fn.results = #[.cell p ty]) (tmps : Array Value) (w : World) (g : Nat) (t : TypeId) (cs : Array Value) (fr : Nat × Nat) (d : TypeDesc)
    (hp : tmps.getD p undef = .pointer (some ⟨g, 0, none⟩)) (hg : w.heap[g]? = some (.cells cs t fr))
    (hu : P.underlying ty = some d) (hd : (match d with | .struct _ | .array _ _ => true | _ => false) = true) (hi : (P.info? ty).map (·.size) = some cs.size) :
    (results fn tmps).run P w = .ok (.agg cs) w := by
  have hp' : tmps[p]?.getD undef = .pointer (some ⟨g, 0, none⟩) := by simpa using hp
  simp [results, h, hp', asAddr, run_loadVar_row w g t ty cs fr d hg hu hd hi]
theorem Drew.S {α : Type} {d : Kd α} {e base : Nat} {ok : Nat → Prop} {v : Value} {xs : List α} {w0 w W : World} {g : Nat} {c : List Int} (h : Drew w0 w W g c) (hr : Kd.S d e w base ok v xs) (hok : ∀ k, ok k → k ≠ g) : Kd.S d e W base ok v xs := Kd.S_step hr (fun k ho hlt => h.keep.2 k hlt (hok k ho) (by simp))
set_option maxHeartbeats 4000000 in
set_option maxRecDepth 100000 in
theorem spec_l5DrawFrame.e (w0 w : World) (g : Nat) (c : List Int) (hI : Cur w0 w g c) (hB : Below w0.heap.size w0 w) (hc : c.length ≤ 1048576) :
    Calls Tryd.prog 34 #[.pointer (some ⟨g, 0, none⟩)] w fun e w' => ∃ (v : Value) (l : List Acc) (d u : Int), e = .returned (.agg #[v, .int .i64 d, .int .i64 u]) ∧ Kd.R k64 64 w' w.heap.size (fun _ => True) v l ∧ (goodChart l ∧ 3 ≤ l.length) ∧ ((1 ≤ d ∧ d ≤ 3) ∧ 1 ≤ u ∧ u ≤ 3) ∧ Drew w0 w w' g c := by
  have HL := hB.size
  have D := Aside0.mk ((Drew.refl hI hB).alloc (.cells #[.slice none 0 0, .int .i64 0, .int .i64 0] 26))
  have BK := Aside0.mk (blk_new w (.cells #[.slice none 0 0, .int .i64 0, .int .i64 0] 26))
  have NB := Nat.ne_of_gt hI.lt
  have hz : w.heap.size < (w.alloc (.cells #[.slice none 0 0, .int .i64 0, .int .i64 0] 26)).heap.size := by simp
  clear hI hB
  go_enter Tryd.func34, Tryd.ntmps34
  go_wp2_with fail
  generalize w.alloc (Obj.cells #[.slice none 0 0, .int .i64 0, .int .i64 0] 26) = w1 at *
  refine (spec_l4DrawChart.e w0 _ g c 7 D.out.cur D.out.bel hc (by omega) (by omega)).mono ?_
  rintro x w2 ⟨v, l, rfl, hR, hg, hD⟩
  obtain ⟨A, cc, rfl⟩ := Kd.R_slice hR
  replace BK := Aside0.mk (hD.blk BK.out NB)
  replace D := Aside0.mk (D.out.call hD)
  have RO := Aside0.mk (Kd.R_lower (Kd.R_mono (hD.cur.apart (Kd.R_bound hR) (by decide)) (ok' := fun k => k ≠ g ∧ k ≠ w.heap.size) (fun k hk => ⟨hk.2, by have := hk.1.2.1; omega⟩)) (Nat.le_of_lt hz))
  have HG := Aside0.mk hg
  clear hD hR hg
  go_wp2_with fail
  refine (spec_l1Below.e 3 D.out.cur D.out.bel hc (by omega)).mono ?_
  rintro x w3 ⟨d, rfl, ⟨d0, d1, _⟩, hD⟩
  have d2 := d1 (by omega)
  replace BK := Aside0.mk (hD.blk BK.out NB)
  replace RO := Aside0.mk (hD.R RO.out (fun _ hk => hk.1))
  replace D := Aside0.mk (D.out.call hD)
  clear hD d1
  go_wp2_with fail
  refine (spec_l1Below.e 3 D.out.cur D.out.bel hc (by omega)).mono ?_
  rintro x w4 ⟨u, rfl, ⟨u0, u1, _⟩, hD⟩
  have u2 := u1 (by omega)
  replace BK := Aside0.mk (hD.blk BK.out NB)
  replace RO := Aside0.mk (hD.R RO.out (fun _ hk => hk.1))
  replace D := Aside0.mk (D.out.call hD)
  clear hD u1
  have y0 := (blk_cell BK.out 0).trans rfl
  have yz0 := blk_frozen BK.out 0
  have y1 := (blk_cell BK.out 1).trans rfl
  have yz1 := blk_frozen BK.out 1
  have y2 := (blk_cell BK.out 2).trans rfl
  have yz2 := blk_frozen BK.out 2
  have BK2 := Aside0.mk (blk3 BK.out (.slice A l.length cc) (.int .i64 (1 + d)) (.int .i64 (1 + u)))
  go_wp2_with fail
  refine bodyPost_ret (results_c1 rfl _ _ w.heap.size 26 #[.slice A l.length cc, .int .i64 (1 + d), .int .i64 (1 + u)] (0, 0) _ rfl BK2.out Tryd.underlying26 rfl (by kernel_rfl)) rfl ?_
  exact ⟨_, l, _, _, rfl, Kd.R_mono (Kd.R_far (Kd.R_far (Kd.R_far RO.out (fun _ hk => hk.2) _) (fun _ hk => hk.2) _) (fun _ hk => hk.2) _) (fun _ _ => trivial), HG.out, ⟨by omega, by omega⟩, ((D.out.set HL (Nat.le_refl _) NB _).set HL (Nat.le_refl _) NB _).set HL (Nat.le_refl _) NB _⟩
set_option maxHeartbeats 4000000 in
set_option maxRecDepth 100000 in
theorem spec_l5DrawLeaf.e (w0 w : World) (g : Nat) (c : List Int) (A : Option Addr) (cc : Nat) (l : List Acc) (hI : Cur w0 w g c) (hB : Below w0.heap.size w0 w) (hc : c.length ≤ 1048576) (hr1 : ∀ W, KeepBut w W g none → Kd.C k64 W A l.length l) (hs : ∀ x ∈ l, x.f0.size ≤ maxLen) (hl0 : 0 < l.length) (hl1 : l.length ≤ 1000) :
    Calls Tryd.prog 39 #[.pointer (some ⟨g, 0, none⟩), .slice A l.length cc] w fun e w' => ∃ r : Int, e = .returned (.int .i64 r) ∧ 0 ≤ r ∧ r < (l.length : Int) ∧ Drew w0 w w' g c := by
  have H1 := Aside0.mk hr1
  have HS := Aside0.mk hs
  have D := Aside0.mk (Drew.refl hI hB)
  clear hI hB hr1 hs
  go_enter Tryd.func39, Tryd.ntmps39
  go_wp2_with fail
  refine (spec_l1Below.e (l.length : Int) D.out.cur D.out.bel hc (by omega)).mono ?_
  rintro x w1 ⟨k, rfl, ⟨k0, k1, _⟩, hD⟩
  have k2 := k1 (by omega)
  replace D := Aside0.mk (D.out.call hD)
  clear hD k1
  go_wp2_with fail
  go_loopg [6] l.length (fun kq v6 W => ∃ i : Int, v6 = .int .i64 i ∧ 0 ≤ i ∧ i ≤ (l.length : Int) ∧ kq + i.toNat = l.length ∧ Aside0 (Drew w0 w W g c))
  case atStart => exact ⟨0, rfl, by omega, by omega, by simp, D⟩
  case round =>
    clear D
    obtain ⟨i, rfl, i0, i1, hi, D⟩ := hrel
    by_cases hlt : i < (l.length : Int)
    · obtain ⟨q, rfl⟩ : ∃ q, gk = q + 1 := ⟨gk - 1, by omega⟩
      go_wp2_with fail
      refine (spec_Leaf.to A cc l _ _ (H1.out _ D.out.keep) HS.out).mono ?_
      rintro x w2 ⟨rfl, hb⟩
      have hm0 := Int.emod_nonneg (k + i) (show (l.length : Int) ≠ 0 by omega)
      have hm1 := Int.emod_lt_of_pos (k + i) (show 0 < (l.length : Int) by omega)
      replace D := Aside0.mk (D.out.below hb)
      clear hb
      go_wp2_with fail
      · go_ret
        exact ⟨_, rfl, hm0, hm1, D.out⟩
      · go_roundg q
        case rel => exact ⟨i + 1, by go_num, by omega, by omega, by omega, D⟩
        case measure => omega
    · go_wp2_with fail
      go_ret
      exact ⟨_, rfl, by omega, by omega, D.out⟩
end Go.Proofs.YtjkjjfbcakbmnaaDoor.Q
namespace Go.Proofs.YtjkjjfbcakbmnaaDoor.Q
open Go.RowKit Go.Proofs.YtjkjjfbcakbmnaaDoorW.PrintWords Go.Proofs.YtjkjjfbcakbmnaaDoorW.PrintLast Go.Proofs.YtjkjjfbcakbmnaaDoorW.PrintMore
attribute [local go_sem] max2_int min2_int max_two min_two max_three min_three max_four min_four   -- for this text's walks alone
set_option linter.unusedVariables false
set_option linter.unusedSimpArgs false
def ledgerP (chart : List Acc) (dims curs : Int) (l : List Ent) (h : Int) : Prop := frameB chart dims curs = true ∧ l.length ≤ 1000 ∧ (∀ e ∈ l, entryP chart dims curs e) ∧ h = headV l
open Classical in
noncomputable def ledgerB (chart : List Acc) (dims curs : Int) (l : List Ent) (h : Int) : Bool := decide (ledgerP chart dims curs l h)
open Classical in
theorem ledgerB_true {chart : List Acc} {dims curs : Int} {l : List Ent} {h : Int} : ledgerB chart dims curs l h = true ↔ ledgerP chart dims curs l h := by unfold ledgerB; rw [decide_eq_true_eq]
theorem ledgerB_not {chart : List Acc} {dims curs : Int} {l : List Ent} {h : Int} (k : ¬ ledgerP chart dims curs l h) : false = ledgerB chart dims curs l h := by
  cases hb : ledgerB chart dims curs l h with
  | false => rfl
  | true => exact absurd (ledgerB_true.1 hb) k
set_option maxHeartbeats 8000000 in
set_option maxRecDepth 100000 in
theorem impl_LedgerOk.to (A0 : Option Addr) (c0 : Nat) (l0 : List Acc) (dims curs : Int) (A1 : Option Addr) (c1 : Nat) (l1 : List Ent) (h : Int) (w : World) (hr0 : Kd.C k64 w A0 l0.length l0) (hs : ∀ x ∈ l0, x.f0.size ≤ maxLen) (hr1 : Kd.C k35 w A1 l1.length l1) (hm : ∀ e ∈ l1, e.f2.size ≤ maxLen) :
    Calls Tryd.prog 28 #[.agg #[.slice A0 l0.length c0, .int .i64 dims, .int .i64 curs], .agg #[.slice A1 l1.length c1, .int .i64 h]] w fun x w' => x = .returned (.bool (ledgerB l0 dims curs l1 h)) ∧ Below w.heap.size w w' := by
  have hl0 := hr0.2.1
  have hl1 := hr1.2.1
  have H0 := Aside0.mk hr0
  have H1 := Aside0.mk hr1
  have HS := Aside0.mk hs
  have HM := Aside0.mk hm
  have H00 := Aside0.mk (Kd.C_below hr0 (below_two w (.cells #[.slice A0 l0.length c0, .int .i64 dims, .int .i64 curs] 26) (.cells #[.slice A1 l1.length c1, .int .i64 h] 29)))
  clear hr0 hr1 hs hm
  go_enter Tryd.func28, Tryd.ntmps28
  go_wp2_with fail
  refine (impl_FrameOk.to A0 c0 l0 dims curs _ H00.out HS.out).mono ?_
  rintro x w1 ⟨rfl, hb⟩
  have HB := Aside0.mk (below_into (w := w) hb (below_two _ _ _))
  have f0 : w1.cell? ⟨w.heap.size, 0, none⟩ = some (.slice A0 l0.length c0) := pw_cell_below hb (by go_simp)
  have f1 : w1.cell? ⟨w.heap.size, 1, none⟩ = some (.int .i64 dims) := pw_cell_below hb (by go_simp)
  have f2 : w1.cell? ⟨w.heap.size, 2, none⟩ = some (.int .i64 curs) := pw_cell_below hb (by go_simp)
  have y0 : w1.cell? ⟨w.heap.size + 1, 0, none⟩ = some (.slice A1 l1.length c1) := pw_cell_below hb (by go_simp)
  have y1 : w1.cell? ⟨w.heap.size + 1, 1, none⟩ = some (.int .i64 h) := pw_cell_below hb (by go_simp)
  clear hb H00
  cases hfr : frameB l0 dims curs with
  | false =>
    have HN := Aside0.mk (ledgerB_not (fun q => by have := q.1; rw [hfr] at this; cases this) : false = ledgerB l0 dims curs l1 h)
    clear hfr
    go_wp2_with fail
    go_ret
    exact ⟨ret_bool HN.out, HB.out⟩
  | true =>
    have HF := Aside0.mk hfr
    obtain ⟨_, hd, hc⟩ := frame_parts hfr
    have HD := Aside0.mk hd
    have HC := Aside0.mk hc
    clear hfr hd hc
    by_cases hlen : 1000 < l1.length
    · have HN := Aside0.mk (ledgerB_not (fun q => by have := q.2.1; omega) : false = ledgerB l0 dims curs l1 h)
      go_wp2_with fail
      go_ret
      exact ⟨ret_bool HN.out, HB.out⟩
    · have HB1 := Aside0.mk (Below.refl w1.heap.size w1)
      have F0 := Aside0.mk f0
      have F1 := Aside0.mk f1
      have F2 := Aside0.mk f2
      have Y0 := Aside0.mk y0
      have Y1 := Aside0.mk y1
      go_wp2_with fail
      clear f0 f1 f2 y0 y1
      go_loopw [19] (fun v wr => ∃ i : Int, 0 ≤ i ∧ i ≤ (l1.length : Int) ∧ v = .int .i64 i ∧ Aside0 (Below w1.heap.size w1 wr) ∧ Aside0 (∀ e ∈ l1.take i.toNat, entryP l0 dims curs e)) (fun v _ => (l1.length - (intOf v).toNat))
      case atStart => exact ⟨0, by omega, by omega, rfl, HB1, ⟨fun x hx => by cases hx⟩⟩
      case round =>
        clear HB1
        obtain ⟨i, hi0, hi1, rfl, HB1, HO⟩ := hrel
        have f0 := pw_cell_below HB1.out F0.out
        have f1 := pw_cell_below HB1.out F1.out
        have f2 := pw_cell_below HB1.out F2.out
        have y0 := pw_cell_below HB1.out Y0.out
        have y1 := pw_cell_below HB1.out Y1.out
        have HBW := Aside0.mk (below_into HB1.out HB.out)
        have hz0 := World.block_lt_of_cell? _ _ f0
        have hz1 := World.block_lt_of_cell? _ _ y0
        by_cases hlt : i < (l1.length : Int)
        · obtain ⟨ad, A3, c3, e0, x0, x1, x2, x3, x4, x5⟩ := at_T35 (Kd.C_below H1.out HBW.out) i hi0 hlt
          cases e0
          have X5 := Aside0.mk (Kd.C_below x5 (below_alloc (Below.refl wr.heap.size wr) (entO (rd_T35 l1 i) A3 c3)))
          have HC0 := Aside0.mk (Kd.C_below H0.out (below_alloc HBW.out (entO (rd_T35 l1 i) A3 c3)))
          have HMI := Aside0.mk (all_at (z := z35) (p := fun e => e.f2.size ≤ maxLen) hi0 hlt HM.out)
          clear x5
          go_wp2_with fail
          refine (impl_entryIn.to A0 c0 l0 dims curs (rd_T35 l1 i) A3 c3 _ HC0.out X5.out HD.out HC.out HMI.out).mono ?_
          rintro x w2 ⟨rfl, hb⟩
          have HB2 := Aside0.mk (below_into (w := w1) hb (below_alloc HB1.out _))
          clear hb
          cases hen : entryB l0 dims curs (rd_T35 l1 i) with
          | false =>
            have HN := Aside0.mk (ledgerB_not (fun q => by have := entryB_true.2 (all_at (z := z35) (p := entryP l0 dims curs) hi0 hlt q.2.2.1); rw [show entryB l0 dims curs (l1.getD i.toNat z35) = false from hen] at this; cases this) : false = ledgerB l0 dims curs l1 h)
            have HBF := Aside0.mk (below_into HB2.out HB.out)
            clear hen HB2
            go_wp2_with fail
            go_ret
            exact ⟨ret_bool HN.out, HBF.out⟩
          | true =>
            have HO2 := Aside0.mk (all_step (z := z35) (p := entryP l0 dims curs) hi0 hlt HO.out (entryB_true.1 hen))
            clear hen
            go_wp2_with fail
            go_roundw
            case rel => exact ⟨i + 1, by omega, by omega, rfl, HB2, HO2⟩
            case measure => simp [intOf]; omega
        · have HOK := Aside0.mk (all_end (by omega) HO.out : ∀ e ∈ l1, entryP l0 dims curs e)
          have HC1 := Aside0.mk (Kd.C_below H1.out HBW.out)
          clear HO f0 f1 f2
          go_wp2_with fail
          go_region_held3 (fun w' => w'.cell? ⟨w.heap.size + 1, 0, none⟩ = some (.slice A1 l1.length c1) ∧ w'.cell? ⟨w.heap.size + 1, 1, none⟩ = some (.int .i64 h)) ((first | go_keep | exact ⟨pw_cell_below hb (by assumption), pw_cell_below hb (by assumption)⟩))
            ((go_at_call 54; refine (impl_HeadOf.to A1 c1 l1 _ (by repeat (first | exact HC1.out | refine Kd.C_drew ?_))).mono ?_; rintro x w2 ⟨rfl, hb⟩))
          have HBF := Aside0.mk (below_into (w := w) hb (below_drew HBW.out))
          clear hb
          by_cases hh : h = headV l1
          · have hhb : (h == headV l1) = true := beq_iff_eq.2 hh
            have HY := Aside0.mk (ledgerB_true.2 (show ledgerP l0 dims curs l1 h from ⟨HF.out, by omega, HOK.out, hh⟩))
            clear hh
            go_wp2_with fail
            go_ret
            exact ⟨ret_bool (by rw [HY.out]; exact hhb), HBF.out⟩
          · have hhb : (h == headV l1) = false := beq_eq_false_iff_ne.2 hh
            have HN := Aside0.mk (ledgerB_not (fun q => hh q.2.2.2) : false = ledgerB l0 dims curs l1 h)
            clear hh
            go_wp2_with fail
            go_ret
            exact ⟨ret_bool (by rw [← HN.out]; exact hhb), HBF.out⟩
end Go.Proofs.YtjkjjfbcakbmnaaDoor.Q
