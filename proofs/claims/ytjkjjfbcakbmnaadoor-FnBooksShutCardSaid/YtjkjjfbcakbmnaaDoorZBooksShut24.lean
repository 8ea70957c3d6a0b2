/- Parts of the proof: what functions of the program and of the reference answer.
   No condition. -/
import Derived.Test.YtjkjjfbcakbmnaaDoorZBooksShut1
import Derived.Test.YtjkjjfbcakbmnaaDoorZBooksShut8
import Derived.Test.YtjkjjfbcakbmnaaDoorZBooksShut20
import Derived.Test.YtjkjjfbcakbmnaaDoorZBooksShut21
import Derived.Test.YtjkjjfbcakbmnaaDoorZBooksShut3
import Derived.Test.YtjkjjfbcakbmnaaDoorZBooksShut13
import Derived.Test.YtjkjjfbcakbmnaaDoorZBooksShut18
import Derived.Test.YtjkjjfbcakbmnaaDoorZBooksShut17
import Derived.Test.YtjkjjfbcakbmnaaDoorZBooksShut5
import Derived.Test.YtjkjjfbcakbmnaaDoorZBooksShut14
import Derived.Test.YtjkjjfbcakbmnaaDoorZBooksShut22
import Derived.Test.YtjkjjfbcakbmnaaDoorZBooksShut10
import Derived.Test.YtjkjjfbcakbmnaaDoorZBooksShut15
namespace Go.Proofs.YtjkjjfbcakbmnaaDoor.Q
open Go.RowKit Go.Proofs.YtjkjjfbcakbmnaaDoorW.PrintWords Go.Proofs.YtjkjjfbcakbmnaaDoorW.PrintLast Go.Proofs.YtjkjjfbcakbmnaaDoorW.PrintMore
set_option linter.unusedVariables false
set_option linter.unusedSimpArgs false
open Classical in
noncomputable def recC (m0 : List Acc) (d c : Int) (m1 : List Ent) (h : Int) (m2 : List Per) (a b : Int) (e : Ent) : Int :=
  if booksB m0 d c m1 h m2 a b = true then (if entryB m0 d c e = true then (if perV m2 e.f0 < 0 then 3 else if perV m2 e.f0 < a then 4 else if m1.length = 1000 then 5 else 0) else 2) else 1
def RecPost (A : Nat → Addr) (l0 : List Acc) (d c : Int) (l1 : List Ent) (h : Int) (l2 : List Per) (a b : Int) (x : Ent) (w : World) (e : Ending) (w' : World) : Prop :=
  Below w.heap.size w w' ∧ ((recC l0 d c l1 h l2 a b x = 0 ∧ ∃ v0 : Value, e = .returned (.tuple #[.agg #[v0, .int .i64 (headV (l1 ++ [x]))], .nilIface]) ∧ Kd.S k35 35 w' w.heap.size (fun _ => True) v0 (l1 ++ [x])) ∨
    (∃ k : Nat, k < 5 ∧ recC l0 d c l1 h l2 a b x = (k : Int) + 1 ∧ ∃ pb : Nat, w.heap.size ≤ pb ∧ e = .returned (.tuple #[.agg #[.slice none 0 0, .int .i64 0], .iface 88 (.pointer (some ⟨pb, 0, none⟩))]) ∧ w'.cell? ⟨pb, 0 + 1, none⟩ = some (.iface 134 (.pointer (some (A k))))))
theorem blk_drewI {W : World} {g : Nat} {o : Obj} (h : W.heap[g]? = some o) : W.drew.heap[g]? = some o := h
set_option maxHeartbeats 16000000 in
set_option maxRecDepth 100000 in
theorem impl_record.to (A : Nat → Addr) (A0 : Option Addr) (c0 : Nat) (l0 : List Acc) (d c : Int) (A1 : Option Addr) (c1 : Nat) (l1 : List Ent) (h : Int) (A2 : Option Addr) (c2 : Nat) (l2 : List Per) (a b : Int) (e0 e1 : Int) (e2 : ByteArray) (A3 : Option Addr) (c3 : Nat) (l3 : List Lin) (w : World) (hS : Sent w A) (hr0 : Kd.C k64 w A0 l0.length l0) (hc0 : l0.length ≤ c0) (hs : ∀ x ∈ l0, x.f0.size ≤ maxLen) (hr1 : Kd.C k35 w A1 l1.length l1) (hc1 : l1.length ≤ c1) (hm : ∀ e ∈ l1, e.f2.size ≤ maxLen) (hr2 : Kd.C k66 w A2 l2.length l2) (hc2 : l2.length ≤ c2) (hsm : (l1.length ≤ 1048576 ∧ ∀ y ∈ l1, y.f3.length ≤ 1048576)) (hr3 : Kd.C k81 w A3 l3.length l3) (hc3 : l3.length ≤ c3) (he : e2.size ≤ maxLen) (hl3 : l3.length ≤ 1048576) :
    Calls Tryd.prog 21 #[.agg #[.slice A0 l0.length c0, .int .i64 d, .int .i64 c, .slice A1 l1.length c1, .int .i64 h, .slice A2 l2.length c2, .int .i64 a, .int .i64 b], .agg #[.int .i64 e0, .int .i64 e1, .string e2, .slice A3 l3.length c3]] w fun e w' => RecPost A l0 d c l1 h l2 a b ⟨e0, e1, e2, l3⟩ w e w' := by
  have HR0 := Aside0.mk hr0
  have HR1 := Aside0.mk hr1
  have HR2 := Aside0.mk hr2
  have HR3 := Aside0.mk hr3
  have HC0 := Aside0.mk hc0
  have HC1 := Aside0.mk hc1
  have HC2 := Aside0.mk hc2
  have HC3 := Aside0.mk hc3
  have HS := Aside0.mk hs
  have HM := Aside0.mk hm
  have HSM := Aside0.mk hsm
  have HE := Aside0.mk he
  have HL3 := Aside0.mk hl3
  have HB := Aside0.mk (below_alloc (below_two w (.cells #[.slice A0 l0.length c0, .int .i64 d, .int .i64 c, .slice A1 l1.length c1, .int .i64 h, .slice A2 l2.length c2, .int .i64 a, .int .i64 b] 32) (.cells #[.int .i64 e0, .int .i64 e1, .string e2, .slice A3 l3.length c3] 35)) (.cells #[.slice none 0 0, .int .i64 0] 29))
  have SN := Aside0.mk (hS.below HB.out rfl)
  have hz := World.block_lt_of_cell? _ _ (hS.cell 4 (by omega))
  have hz0 : ¬ w.heap.size = 0 := by simp only at hz; omega
  have hz1 : ¬ w.heap.size = 1 := by simp only at hz; omega
  have hz2 : ¬ w.heap.size = 2 := by simp only at hz; omega
  have hn2 : ¬ 2 = w.heap.size + 1 + 1 := by omega
  have hn3 : ¬ 3 = w.heap.size + 1 + 1 := by omega
  have hn4 : ¬ 4 = w.heap.size + 1 + 1 := by omega
  clear hr0 hr1 hr2 hr3 hc0 hc1 hc2 hc3 hs hm hsm he hl3 hS
  go_enter Tryd.func21, Tryd.ntmps21
  go_wp2_with fail
  refine (impl_BooksOk.to A0 c0 l0 d c A1 c1 l1 h A2 c2 l2 a b _ (Kd.C_below HR0.out HB.out) HS.out (Kd.C_below HR1.out HB.out) HM.out (Kd.C_below HR2.out HB.out)).mono ?_
  rintro x w1 ⟨rfl, hb⟩
  have K0 : w1.heap[w.heap.size]? = some (.cells #[.slice A0 l0.length c0, .int .i64 d, .int .i64 c, .slice A1 l1.length c1, .int .i64 h, .slice A2 l2.length c2, .int .i64 a, .int .i64 b] 32 (0, 0)) := by
    have := blk_below (blk_alloc (blk_alloc (blk_new (w) (.cells #[.slice A0 l0.length c0, .int .i64 d, .int .i64 c, .slice A1 l1.length c1, .int .i64 h, .slice A2 l2.length c2, .int .i64 a, .int .i64 b] 32)) (.cells #[.int .i64 e0, .int .i64 e1, .string e2, .slice A3 l3.length c3] 35)) (.cells #[.slice none 0 0, .int .i64 0] 29)) hb
    simpa using this
  have K1 : w1.heap[w.heap.size + 1]? = some (.cells #[.int .i64 e0, .int .i64 e1, .string e2, .slice A3 l3.length c3] 35 (0, 0)) := by
    have := blk_below (blk_alloc (blk_new ((w).alloc (.cells #[.slice A0 l0.length c0, .int .i64 d, .int .i64 c, .slice A1 l1.length c1, .int .i64 h, .slice A2 l2.length c2, .int .i64 a, .int .i64 b] 32)) (.cells #[.int .i64 e0, .int .i64 e1, .string e2, .slice A3 l3.length c3] 35)) (.cells #[.slice none 0 0, .int .i64 0] 29)) hb
    simpa using this
  have K2 : w1.heap[w.heap.size + 1 + 1]? = some (.cells #[.slice none 0 0, .int .i64 0] 29 (0, 0)) := by
    have := blk_below (blk_new (((w).alloc (.cells #[.slice A0 l0.length c0, .int .i64 d, .int .i64 c, .slice A1 l1.length c1, .int .i64 h, .slice A2 l2.length c2, .int .i64 a, .int .i64 b] 32)).alloc (.cells #[.int .i64 e0, .int .i64 e1, .string e2, .slice A3 l3.length c3] 35)) (.cells #[.slice none 0 0, .int .i64 0] 29)) hb
    simpa using this
  have HB1 := Aside0.mk (below_into (w := w) hb HB.out)
  replace SN := Aside0.mk (SN.out.below hb rfl)
  have z2 : w.heap.size + 1 + 1 < w1.heap.size := blk_lt K2
  clear hb HB
  have f0 : w1.cell? ⟨w.heap.size, 0, none⟩ = some (.slice A0 l0.length c0) := (blk_cell K0 0).trans rfl
  have f1 : w1.cell? ⟨w.heap.size, 1, none⟩ = some (.int .i64 d) := (blk_cell K0 1).trans rfl
  have f2 : w1.cell? ⟨w.heap.size, 2, none⟩ = some (.int .i64 c) := (blk_cell K0 2).trans rfl
  have f3 : w1.cell? ⟨w.heap.size, 3, none⟩ = some (.slice A1 l1.length c1) := (blk_cell K0 3).trans rfl
  have f4 : w1.cell? ⟨w.heap.size, 4, none⟩ = some (.int .i64 h) := (blk_cell K0 4).trans rfl
  have f5 : w1.cell? ⟨w.heap.size, 5, none⟩ = some (.slice A2 l2.length c2) := (blk_cell K0 5).trans rfl
  have f6 : w1.cell? ⟨w.heap.size, 6, none⟩ = some (.int .i64 a) := (blk_cell K0 6).trans rfl
  have f7 : w1.cell? ⟨w.heap.size, 7, none⟩ = some (.int .i64 b) := (blk_cell K0 7).trans rfl
  have u0 : w1.cell? ⟨w.heap.size + 1, 0, none⟩ = some (.int .i64 e0) := (blk_cell K1 0).trans rfl
  have u1 : w1.cell? ⟨w.heap.size + 1, 1, none⟩ = some (.int .i64 e1) := (blk_cell K1 1).trans rfl
  have u2 : w1.cell? ⟨w.heap.size + 1, 2, none⟩ = some (.string e2) := (blk_cell K1 2).trans rfl
  have u3 : w1.cell? ⟨w.heap.size + 1, 3, none⟩ = some (.slice A3 l3.length c3) := (blk_cell K1 3).trans rfl
  have y0 : w1.cell? ⟨w.heap.size + 1 + 1, 0, none⟩ = some (.slice none 0 0) := (blk_cell K2 0).trans rfl
  have yf0 := blk_frozen K2 0
  have y1 : w1.cell? ⟨w.heap.size + 1 + 1, 1, none⟩ = some (.int .i64 0) := (blk_cell K2 1).trans rfl
  have yf1 := blk_frozen K2 1
  have s0 := SN.out.cell 0 (by omega)
  have s1 := SN.out.cell 1 (by omega)
  have s2 := SN.out.cell 2 (by omega)
  have s3 := SN.out.cell 3 (by omega)
  have s4 := SN.out.cell 4 (by omega)
  have LK2 := Aside0.mk K2
  have LK1 := Aside0.mk K1
  have LK0 := Aside0.mk K0
  clear K0 K1 K2
  cases q1 : booksB l0 d c l1 h l2 a b with
  | false =>
    have HN := Aside0.mk (show recC l0 d c l1 h l2 a b ⟨e0, e1, e2, l3⟩ = ((0 : Nat) : Int) + 1 from if_neg (by simp only [q1]; simp))
    clear q1
    go_wp2_with fail
    go_region
    go_wp2_with fail
    refine bodyPost_ret (results_ct rfl _ _ (w.heap.size + 1 + 1) 29 #[.slice none 0 0, .int .i64 0] (0, 0) _ rfl (by exact blk_drewI (blk_alloc (blk2 LK2.out _ _) _)) Tryd.underlying29 rfl (by kernel_rfl)) rfl ?_
    exact ⟨below_drew1 (below_alloc (below_put2 HB1.out (by omega) _ _) _), .inr ⟨0, by omega, HN.out, w1.heap.size, by omega, rfl, by go_simp⟩⟩
  | true =>
    have HQ := Aside0.mk q1
    have q3 := (booksB_true.1 q1).1
    have q2 := ledgerB_true.2 q3
    have fl := frame_len q3.1
    have z_w1 := z2
    clear q1
    go_wp2_with fail
    refine (impl_entryIn.to A0 c0 l0 d c ⟨e0, e1, e2, l3⟩ A3 c3 _ (Kd.C_below HR0.out HB1.out) (Kd.C_below HR3.out HB1.out) fl.2.1 fl.2.2 HE.out).mono ?_
    rintro x w2 ⟨rfl, hb⟩
    replace f0 := pw_cell_below hb f0
    replace f1 := pw_cell_below hb f1
    replace f2 := pw_cell_below hb f2
    replace f3 := pw_cell_below hb f3
    replace f4 := pw_cell_below hb f4
    replace f5 := pw_cell_below hb f5
    replace f6 := pw_cell_below hb f6
    replace f7 := pw_cell_below hb f7
    replace u0 := pw_cell_below hb u0
    replace u1 := pw_cell_below hb u1
    replace u2 := pw_cell_below hb u2
    replace u3 := pw_cell_below hb u3
    replace y0 := pw_cell_below hb y0
    replace yf0 := (hb.frozen (p := ⟨w.heap.size + 1 + 1, 0, none⟩) (by first | omega | exact z_w1)).trans yf0
    replace y1 := pw_cell_below hb y1
    replace yf1 := (hb.frozen (p := ⟨w.heap.size + 1 + 1, 1, none⟩) (by first | omega | exact z_w1)).trans yf1
    replace s0 := pw_cell_below hb s0
    replace s1 := pw_cell_below hb s1
    replace s2 := pw_cell_below hb s2
    replace s3 := pw_cell_below hb s3
    replace s4 := pw_cell_below hb s4
    replace LK0 := Aside0.mk (blk_below LK0.out hb)
    replace LK1 := Aside0.mk (blk_below LK1.out hb)
    replace LK2 := Aside0.mk (blk_below LK2.out hb)
    have HB2 := Aside0.mk (below_into (w := w) hb HB1.out)
    have zz_w2 := hb.size
    have z_w2 : w.heap.size + 1 + 1 < w2.heap.size := blk_lt LK2.out
    clear hb
    cases q4 : entryB l0 d c ⟨e0, e1, e2, l3⟩ with
    | false =>
      have HN := Aside0.mk (show recC l0 d c l1 h l2 a b ⟨e0, e1, e2, l3⟩ = ((1 : Nat) : Int) + 1 by unfold recC; rw [if_pos HQ.out, if_neg (by simp only [q4]; simp)]; rfl)
      clear q4 q2 q3 fl
      go_wp2_with fail
      go_region
      go_wp2_with fail
      refine bodyPost_ret (results_ct rfl _ _ (w.heap.size + 1 + 1) 29 #[.slice none 0 0, .int .i64 0] (0, 0) _ rfl (by exact blk_drewI (blk_alloc (blk2 LK2.out _ _) _)) Tryd.underlying29 rfl (by kernel_rfl)) rfl ?_
      exact ⟨below_drew1 (below_alloc (below_put2 HB2.out (by omega) _ _) _), .inr ⟨1, by omega, HN.out, w2.heap.size, by omega, rfl, by go_simp⟩⟩
    | true =>
      have HQ4 := Aside0.mk q4
      have QL := Aside0.mk q2
      clear q4 q2 q3 fl
      go_wp2_with fail
      refine (impl_PeriodAt.calls 100 A2 c2 l2 e0 (perV l2 e0) _ (Kd.C_below HR2.out HB2.out) HC2.out (impl_PeriodAt_is l2 e0)).mono ?_
      rintro x w3 ⟨rfl, hb⟩
      have hpv := Aside0.mk (rfl : perV l2 e0 = perV l2 e0)
      replace f0 := pw_cell_below hb f0
      replace f1 := pw_cell_below hb f1
      replace f2 := pw_cell_below hb f2
      replace f3 := pw_cell_below hb f3
      replace f4 := pw_cell_below hb f4
      replace f5 := pw_cell_below hb f5
      replace f6 := pw_cell_below hb f6
      replace f7 := pw_cell_below hb f7
      replace u0 := pw_cell_below hb u0
      replace u1 := pw_cell_below hb u1
      replace u2 := pw_cell_below hb u2
      replace u3 := pw_cell_below hb u3
      replace y0 := pw_cell_below hb y0
      replace yf0 := (hb.frozen (p := ⟨w.heap.size + 1 + 1, 0, none⟩) (by first | omega | exact z_w2)).trans yf0
      replace y1 := pw_cell_below hb y1
      replace yf1 := (hb.frozen (p := ⟨w.heap.size + 1 + 1, 1, none⟩) (by first | omega | exact z_w2)).trans yf1
      replace s0 := pw_cell_below hb s0
      replace s1 := pw_cell_below hb s1
      replace s2 := pw_cell_below hb s2
      replace s3 := pw_cell_below hb s3
      replace s4 := pw_cell_below hb s4
      replace LK0 := Aside0.mk (blk_below LK0.out hb)
      replace LK1 := Aside0.mk (blk_below LK1.out hb)
      replace LK2 := Aside0.mk (blk_below LK2.out hb)
      have HB3 := Aside0.mk (below_into (w := w) hb HB2.out)
      have zz_w3 := hb.size
      have z_w3 : w.heap.size + 1 + 1 < w3.heap.size := blk_lt LK2.out
      clear hb
      by_cases q5 : perV l2 e0 < 0
      · have HN := Aside0.mk (show recC l0 d c l1 h l2 a b ⟨e0, e1, e2, l3⟩ = ((2 : Nat) : Int) + 1 by unfold recC; rw [if_pos HQ.out, if_pos HQ4.out, if_pos (show perV l2 e0 < 0 from q5)]; rfl)
        have q5' : decide (perV l2 e0 < 0) = true := decide_eq_true q5
        clear q5 hpv
        generalize perV l2 e0 = pv at *
        go_wp2_with fail
        go_region
        go_wp2_with fail
        refine bodyPost_ret (results_ct rfl _ _ (w.heap.size + 1 + 1) 29 #[.slice none 0 0, .int .i64 0] (0, 0) _ rfl (by exact blk_drewI (blk_alloc (blk2 LK2.out _ _) _)) Tryd.underlying29 rfl (by kernel_rfl)) rfl ?_
        exact ⟨below_drew1 (below_alloc (below_put2 HB3.out (by omega) _ _) _), .inr ⟨2, by omega, HN.out, w3.heap.size, by omega, rfl, by go_simp⟩⟩
      by_cases q6 : perV l2 e0 < a
      · have HN := Aside0.mk (show recC l0 d c l1 h l2 a b ⟨e0, e1, e2, l3⟩ = ((3 : Nat) : Int) + 1 by unfold recC; rw [if_pos HQ.out, if_pos HQ4.out, if_neg (show ¬ perV l2 e0 < 0 from q5), if_pos (show perV l2 e0 < a from q6)]; rfl)
        clear hpv
        generalize perV l2 e0 = pv at *
        go_wp2_with fail
        go_region
        go_wp2_with fail
        refine bodyPost_ret (results_ct rfl _ _ (w.heap.size + 1 + 1) 29 #[.slice none 0 0, .int .i64 0] (0, 0) _ rfl (by exact blk_drewI (blk_alloc (blk2 LK2.out _ _) _)) Tryd.underlying29 rfl (by kernel_rfl)) rfl ?_
        exact ⟨below_drew1 (below_alloc (below_put2 HB3.out (by omega) _ _) _), .inr ⟨3, by omega, HN.out, w3.heap.size, by omega, rfl, by go_simp⟩⟩
      by_cases q7 : l1.length = 1000
      · have HN := Aside0.mk (show recC l0 d c l1 h l2 a b ⟨e0, e1, e2, l3⟩ = ((4 : Nat) : Int) + 1 by unfold recC; rw [if_pos HQ.out, if_pos HQ4.out, if_neg (show ¬ perV l2 e0 < 0 from q5), if_neg (show ¬ perV l2 e0 < a from q6), if_pos (show l1.length = 1000 from q7)]; rfl)
        have HR := Aside0.mk (show postR l0 d c l1 h ⟨e0, e1, e2, l3⟩ = (l1, h, 3) by unfold postR; rw [if_pos QL.out, if_pos HQ4.out, if_pos q7])
        have q5' : decide (perV l2 e0 < 0) = false := decide_eq_false q5
        have q6' : decide (perV l2 e0 < a) = false := decide_eq_false q6
        clear hpv q7
        generalize perV l2 e0 = pv at *
        go_wp2_with fail
        refine (impl_Post.at A0 c0 l0 d c A1 c1 l1 h e0 e1 e2 A3 c3 l3 l1 h 3 _ (Kd.C_below HR0.out HB3.out) HC0.out (Kd.C_below HR1.out HB3.out) HC1.out (Kd.C_below HR3.out HB3.out) HC3.out ⟨⟨HS.out, HM.out, HE.out, HSM.out.1, HSM.out.2, HL3.out⟩, HR.out⟩).mono ?_
        rintro x w4 ⟨v0, rfl, hO, hb⟩
        replace f0 := pw_cell_below hb f0
        replace f1 := pw_cell_below hb f1
        replace f2 := pw_cell_below hb f2
        replace f3 := pw_cell_below hb f3
        replace f4 := pw_cell_below hb f4
        replace f5 := pw_cell_below hb f5
        replace f6 := pw_cell_below hb f6
        replace f7 := pw_cell_below hb f7
        replace u0 := pw_cell_below hb u0
        replace u1 := pw_cell_below hb u1
        replace u2 := pw_cell_below hb u2
        replace u3 := pw_cell_below hb u3
        replace y0 := pw_cell_below hb y0
        replace yf0 := (hb.frozen (p := ⟨w.heap.size + 1 + 1, 0, none⟩) (by first | omega | exact z_w3)).trans yf0
        replace y1 := pw_cell_below hb y1
        replace yf1 := (hb.frozen (p := ⟨w.heap.size + 1 + 1, 1, none⟩) (by first | omega | exact z_w3)).trans yf1
        replace s0 := pw_cell_below hb s0
        replace s1 := pw_cell_below hb s1
        replace s2 := pw_cell_below hb s2
        replace s3 := pw_cell_below hb s3
        replace s4 := pw_cell_below hb s4
        replace LK0 := Aside0.mk (blk_below LK0.out hb)
        replace LK1 := Aside0.mk (blk_below LK1.out hb)
        replace LK2 := Aside0.mk (blk_below LK2.out hb)
        have HB4 := Aside0.mk (below_into (w := w) hb HB3.out)
        have zz_w4 := hb.size
        have z_w4 : w.heap.size + 1 + 1 < w4.heap.size := blk_lt LK2.out
        clear hb
        obtain ⟨B0, b0, rfl⟩ := Kd.S_slice hO
        clear hO
        go_wp2_with fail
        have hb := below_alloc (Below.refl w4.heap.size w4) (.cells #[.slice B0 l1.length b0, .int .i64 h] 29)
        generalize w4.alloc (.cells #[.slice B0 l1.length b0, .int .i64 h] 29) = w5 at *
        replace f0 := pw_cell_below hb f0
        replace f1 := pw_cell_below hb f1
        replace f2 := pw_cell_below hb f2
        replace f3 := pw_cell_below hb f3
        replace f4 := pw_cell_below hb f4
        replace f5 := pw_cell_below hb f5
        replace f6 := pw_cell_below hb f6
        replace f7 := pw_cell_below hb f7
        replace u0 := pw_cell_below hb u0
        replace u1 := pw_cell_below hb u1
        replace u2 := pw_cell_below hb u2
        replace u3 := pw_cell_below hb u3
        replace y0 := pw_cell_below hb y0
        replace yf0 := (hb.frozen (p := ⟨w.heap.size + 1 + 1, 0, none⟩) (by first | omega | exact z_w4)).trans yf0
        replace y1 := pw_cell_below hb y1
        replace yf1 := (hb.frozen (p := ⟨w.heap.size + 1 + 1, 1, none⟩) (by first | omega | exact z_w4)).trans yf1
        replace s0 := pw_cell_below hb s0
        replace s1 := pw_cell_below hb s1
        replace s2 := pw_cell_below hb s2
        replace s3 := pw_cell_below hb s3
        replace s4 := pw_cell_below hb s4
        replace LK0 := Aside0.mk (blk_below LK0.out hb)
        replace LK1 := Aside0.mk (blk_below LK1.out hb)
        replace LK2 := Aside0.mk (blk_below LK2.out hb)
        have HB5 := Aside0.mk (below_into (w := w) hb HB4.out)
        have zz_w5 := hb.size
        have z_w5 : w.heap.size + 1 + 1 < w5.heap.size := blk_lt LK2.out
        clear hb
        go_region
        go_wp2_with fail
        refine bodyPost_ret (results_ct rfl _ _ (w.heap.size + 1 + 1) 29 #[.slice none 0 0, .int .i64 0] (0, 0) _ rfl (by exact blk_drewI (blk_alloc (blk2 LK2.out _ _) _)) Tryd.underlying29 rfl (by kernel_rfl)) rfl ?_
        exact ⟨below_drew1 (below_alloc (below_put2 HB5.out (by omega) _ _) _), .inr ⟨4, by omega, HN.out, w5.heap.size, by omega, rfl, by go_simp⟩⟩
      · have HN := Aside0.mk (show recC l0 d c l1 h l2 a b ⟨e0, e1, e2, l3⟩ = 0 by unfold recC; rw [if_pos HQ.out, if_pos HQ4.out, if_neg (show ¬ perV l2 e0 < 0 from q5), if_neg (show ¬ perV l2 e0 < a from q6), if_neg (show ¬ l1.length = 1000 from q7)])
        have HR := Aside0.mk (show postR l0 d c l1 h ⟨e0, e1, e2, l3⟩ = (l1 ++ [⟨e0, e1, e2, l3⟩], headV (l1 ++ [⟨e0, e1, e2, l3⟩]), 0) by unfold postR; rw [if_pos QL.out, if_pos HQ4.out, if_neg q7])
        have q5' : decide (perV l2 e0 < 0) = false := decide_eq_false q5
        have q6' : decide (perV l2 e0 < a) = false := decide_eq_false q6
        clear hpv q7
        generalize perV l2 e0 = pv at *
        go_wp2_with fail
        refine (impl_Post.at A0 c0 l0 d c A1 c1 l1 h e0 e1 e2 A3 c3 l3 (l1 ++ [⟨e0, e1, e2, l3⟩]) (headV (l1 ++ [⟨e0, e1, e2, l3⟩])) 0 _ (Kd.C_below HR0.out HB3.out) HC0.out (Kd.C_below HR1.out HB3.out) HC1.out (Kd.C_below HR3.out HB3.out) HC3.out ⟨⟨HS.out, HM.out, HE.out, HSM.out.1, HSM.out.2, HL3.out⟩, HR.out⟩).mono ?_
        rintro x w4 ⟨v0, rfl, hO, hb⟩
        replace f0 := pw_cell_below hb f0
        replace f1 := pw_cell_below hb f1
        replace f2 := pw_cell_below hb f2
        replace f3 := pw_cell_below hb f3
        replace f4 := pw_cell_below hb f4
        replace f5 := pw_cell_below hb f5
        replace f6 := pw_cell_below hb f6
        replace f7 := pw_cell_below hb f7
        replace u0 := pw_cell_below hb u0
        replace u1 := pw_cell_below hb u1
        replace u2 := pw_cell_below hb u2
        replace u3 := pw_cell_below hb u3
        replace y0 := pw_cell_below hb y0
        replace yf0 := (hb.frozen (p := ⟨w.heap.size + 1 + 1, 0, none⟩) (by first | omega | exact z_w3)).trans yf0
        replace y1 := pw_cell_below hb y1
        replace yf1 := (hb.frozen (p := ⟨w.heap.size + 1 + 1, 1, none⟩) (by first | omega | exact z_w3)).trans yf1
        replace s0 := pw_cell_below hb s0
        replace s1 := pw_cell_below hb s1
        replace s2 := pw_cell_below hb s2
        replace s3 := pw_cell_below hb s3
        replace s4 := pw_cell_below hb s4
        replace LK0 := Aside0.mk (blk_below LK0.out hb)
        replace LK1 := Aside0.mk (blk_below LK1.out hb)
        replace LK2 := Aside0.mk (blk_below LK2.out hb)
        have HB4 := Aside0.mk (below_into (w := w) hb HB3.out)
        have zz_w4 := hb.size
        have z_w4 : w.heap.size + 1 + 1 < w4.heap.size := blk_lt LK2.out
        clear hb
        obtain ⟨B0, b0, rfl⟩ := Kd.S_slice hO
        have HO := Aside0.mk (Kd.S_lower (Kd.S_mono (ok' := fun k => w3.heap.size ≤ k) (Kd.S_bound hO) (fun k hk => hk.2.1)) (show w.heap.size ≤ w3.heap.size by omega))
        clear hO
        obtain ⟨hv, hhv⟩ : ∃ hv, hv = headV (l1 ++ [⟨e0, e1, e2, l3⟩]) := ⟨_, rfl⟩
        rw [← hhv]
        have HV := Aside0.mk hhv
        clear hhv HR
        go_wp2_with fail
        refine bodyPost_ret (results_ct rfl _ _ (w.heap.size + 1 + 1) 29 #[.slice B0 (l1.length + 1) b0, .int .i64 hv] (0, 0) _ rfl (by exact blk_alloc (blk2 LK2.out _ _) _) Tryd.underlying29 rfl (by kernel_rfl)) rfl ?_
        refine ⟨below_alloc (below_put2 HB4.out (by omega) _ _) _, .inl ⟨HN.out, .slice B0 (l1.length + 1) b0, HV.out ▸ rfl, Kd.S_mono (Kd.S_alloc (Kd.S_far (Kd.S_far (by simpa using HO.out) (fun k hk => by simp only; omega) _) (fun k hk => by simp only; omega) _) _) (fun _ _ => trivial)⟩⟩
open Classical in
noncomputable def shutR (x : Bk) : Bk × Int :=
  if booksB x.m0 x.d x.c x.m1 x.h x.m2 x.a x.b = true then (if x.a = (x.m2.length : Int) then (x, 3) else ({ x with a := x.a + 1 }, 0)) else (Bk.none, 1)
set_option maxHeartbeats 16000000 in
set_option maxRecDepth 100000 in
theorem impl_Shut.to (A0 : Option Addr) (c0 : Nat) (l0 : List Acc) (d c : Int) (A1 : Option Addr) (c1 : Nat) (l1 : List Ent) (h : Int) (A2 : Option Addr) (c2 : Nat) (l2 : List Per) (a b : Int) (w : World) (hr0 : Kd.C k64 w A0 l0.length l0) (hc0 : l0.length ≤ c0) (hs : ∀ x ∈ l0, x.f0.size ≤ maxLen) (hr1 : Kd.C k35 w A1 l1.length l1) (hc1 : l1.length ≤ c1) (hm : ∀ e ∈ l1, e.f2.size ≤ maxLen) (hr2 : Kd.C k66 w A2 l2.length l2) (hc2 : l2.length ≤ c2) (hsm : smallB l0 l1 l2) :
    Calls Tryd.prog 10 #[.agg #[.slice A0 l0.length c0, .int .i64 d, .int .i64 c, .slice A1 l1.length c1, .int .i64 h, .slice A2 l2.length c2, .int .i64 a, .int .i64 b]] w fun e w' => ∃ v0 v3 v5 : Value, e = .returned (.tuple #[(shutR ⟨l0, d, c, l1, h, l2, a, b⟩).1.val v0 v3 v5, .int .i64 (shutR ⟨l0, d, c, l1, h, l2, a, b⟩).2]) ∧ (shutR ⟨l0, d, c, l1, h, l2, a, b⟩).1.own w' w.heap.size v0 v3 v5 ∧ Below w.heap.size w w' := by
  have H0 := Aside0.mk hr0
  have H1 := Aside0.mk hr1
  have H2 := Aside0.mk hr2
  have C0 := Aside0.mk hc0
  have C1 := Aside0.mk hc1
  have C2 := Aside0.mk hc2
  have HS := Aside0.mk hs
  have HM := Aside0.mk hm
  have SM := Aside0.mk hsm
  have HB := Aside0.mk (below_two w (.cells #[.slice A0 l0.length c0, .int .i64 d, .int .i64 c, .slice A1 l1.length c1, .int .i64 h, .slice A2 l2.length c2, .int .i64 a, .int .i64 b] 32) (.cells #[.slice none 0 0, .int .i64 0, .int .i64 0, .slice none 0 0, .int .i64 0, .slice none 0 0, .int .i64 0, .int .i64 0] 32))
  clear hr0 hr1 hr2 hc0 hc1 hc2 hs hm hsm
  go_enter Tryd.func10, Tryd.ntmps10
  go_wp2_with fail
  refine (impl_BooksOk.to A0 c0 l0 d c A1 c1 l1 h A2 c2 l2 a b _ (Kd.C_below H0.out HB.out) HS.out (Kd.C_below H1.out HB.out) HM.out (Kd.C_below H2.out HB.out)).mono ?_
  rintro x w1 ⟨rfl, hb⟩
  have f0 : w1.cell? ⟨w.heap.size, 0, none⟩ = some (.slice A0 l0.length c0) := pw_cell_below hb (by go_simp)
  have f1 : w1.cell? ⟨w.heap.size, 1, none⟩ = some (.int .i64 d) := pw_cell_below hb (by go_simp)
  have f2 : w1.cell? ⟨w.heap.size, 2, none⟩ = some (.int .i64 c) := pw_cell_below hb (by go_simp)
  have f3 : w1.cell? ⟨w.heap.size, 3, none⟩ = some (.slice A1 l1.length c1) := pw_cell_below hb (by go_simp)
  have f4 : w1.cell? ⟨w.heap.size, 4, none⟩ = some (.int .i64 h) := pw_cell_below hb (by go_simp)
  have f5 : w1.cell? ⟨w.heap.size, 5, none⟩ = some (.slice A2 l2.length c2) := pw_cell_below hb (by go_simp)
  have f6 : w1.cell? ⟨w.heap.size, 6, none⟩ = some (.int .i64 a) := pw_cell_below hb (by go_simp)
  have f7 : w1.cell? ⟨w.heap.size, 7, none⟩ = some (.int .i64 b) := pw_cell_below hb (by go_simp)
  have g0 : w1.cell? ⟨w.heap.size + 1, 0, none⟩ = some (.slice none 0 0) := pw_cell_below hb (by go_simp)
  have g1 : w1.cell? ⟨w.heap.size + 1, 1, none⟩ = some (.int .i64 0) := pw_cell_below hb (by go_simp)
  have g2 : w1.cell? ⟨w.heap.size + 1, 2, none⟩ = some (.int .i64 0) := pw_cell_below hb (by go_simp)
  have g3 : w1.cell? ⟨w.heap.size + 1, 3, none⟩ = some (.slice none 0 0) := pw_cell_below hb (by go_simp)
  have g4 : w1.cell? ⟨w.heap.size + 1, 4, none⟩ = some (.int .i64 0) := pw_cell_below hb (by go_simp)
  have g5 : w1.cell? ⟨w.heap.size + 1, 5, none⟩ = some (.slice none 0 0) := pw_cell_below hb (by go_simp)
  have g6 : w1.cell? ⟨w.heap.size + 1, 6, none⟩ = some (.int .i64 0) := pw_cell_below hb (by go_simp)
  have g7 : w1.cell? ⟨w.heap.size + 1, 7, none⟩ = some (.int .i64 0) := pw_cell_below hb (by go_simp)
  have bk : w1.heap[w.heap.size + 1]? = some (.cells #[.slice none 0 0, .int .i64 0, .int .i64 0, .slice none 0 0, .int .i64 0, .slice none 0 0, .int .i64 0, .int .i64 0] 32 (0, 0)) := (hb.block (w.heap.size + 1) (by simp)).trans (by have := blk_new (w.alloc (.cells #[.slice A0 l0.length c0, .int .i64 d, .int .i64 c, .slice A1 l1.length c1, .int .i64 h, .slice A2 l2.length c2, .int .i64 a, .int .i64 b] 32)) (.cells #[.slice none 0 0, .int .i64 0, .int .i64 0, .slice none 0 0, .int .i64 0, .slice none 0 0, .int .i64 0, .int .i64 0] 32); simpa using this)
  have k0 : w1.frozen? ⟨w.heap.size + 1, 0, none⟩ = false := (hb.frozen (p := ⟨w.heap.size + 1, 0, none⟩) (by simp)).trans (by go_simp)
  have k1 : w1.frozen? ⟨w.heap.size + 1, 1, none⟩ = false := (hb.frozen (p := ⟨w.heap.size + 1, 1, none⟩) (by simp)).trans (by go_simp)
  have k2 : w1.frozen? ⟨w.heap.size + 1, 2, none⟩ = false := (hb.frozen (p := ⟨w.heap.size + 1, 2, none⟩) (by simp)).trans (by go_simp)
  have k3 : w1.frozen? ⟨w.heap.size + 1, 3, none⟩ = false := (hb.frozen (p := ⟨w.heap.size + 1, 3, none⟩) (by simp)).trans (by go_simp)
  have k4 : w1.frozen? ⟨w.heap.size + 1, 4, none⟩ = false := (hb.frozen (p := ⟨w.heap.size + 1, 4, none⟩) (by simp)).trans (by go_simp)
  have k5 : w1.frozen? ⟨w.heap.size + 1, 5, none⟩ = false := (hb.frozen (p := ⟨w.heap.size + 1, 5, none⟩) (by simp)).trans (by go_simp)
  have k6 : w1.frozen? ⟨w.heap.size + 1, 6, none⟩ = false := (hb.frozen (p := ⟨w.heap.size + 1, 6, none⟩) (by simp)).trans (by go_simp)
  have k7 : w1.frozen? ⟨w.heap.size + 1, 7, none⟩ = false := (hb.frozen (p := ⟨w.heap.size + 1, 7, none⟩) (by simp)).trans (by go_simp)
  replace HB := Aside0.mk (below_into (w := w) hb HB.out)
  have z1 : w.heap.size + 1 < w1.heap.size := World.block_lt_of_cell? _ _ g0
  clear hb
  cases q1 : booksB l0 d c l1 h l2 a b with
  | false =>
    have HN := Aside0.mk (show shutR ⟨l0, d, c, l1, h, l2, a, b⟩ = (Bk.none, 1) from if_neg (by simp only [q1]; simp))
    have BK0 := Aside0.mk bk
    clear q1 bk
    go_wp2_with fail
    rw [HN.out]
    refine bodyPost_ret (results_ct rfl _ _ (w.heap.size + 1) 32 #[.slice none 0 0, .int .i64 0, .int .i64 0, .slice none 0 0, .int .i64 0, .slice none 0 0, .int .i64 0, .int .i64 0] (0, 0) _ rfl (by exact blk8 BK0.out _ _ _ _ _ _ _ _) Tryd.underlying32 rfl (by kernel_rfl)) rfl ?_
    exact ⟨.slice none 0 0, .slice none 0 0, .slice none 0 0, rfl, ⟨Kd.R_nil _ _ _ _ _, Kd.S_nil _ _ _ _ _, Kd.R_nil _ _ _ _ _⟩, below_set8 HB.out (by omega) _ _ _ _ _ _ _ _⟩
  | true =>
    have q2 := (booksB_true.1 q1).2.2.1
    have q3 := (booksB_true.1 q1).2.1.1
    have HQ := Aside0.mk q1
    clear q1
    go_wp2_with fail
    refine (impl_copyBooks.calls A0 c0 l0 d c A1 c1 l1 h A2 c2 l2 a b l0 d c l1 h l2 a b _ (Kd.C_below H0.out HB.out) C0.out (Kd.C_below H1.out HB.out) C1.out (Kd.C_below H2.out HB.out) C2.out (copyBooks_is SM.out)).mono ?_
    rintro x w2 ⟨v0, v3, v5, rfl, hR0, hR3, hR5, hb⟩
    obtain ⟨B0, e0, rfl⟩ := Kd.R_slice hR0
    obtain ⟨B1, e1, rfl⟩ := Kd.S_slice hR3
    obtain ⟨B2, e2, rfl⟩ := Kd.R_slice hR5
    replace f0 := pw_cell_below hb f0
    replace f1 := pw_cell_below hb f1
    replace f2 := pw_cell_below hb f2
    replace f3 := pw_cell_below hb f3
    replace f4 := pw_cell_below hb f4
    replace f5 := pw_cell_below hb f5
    replace f6 := pw_cell_below hb f6
    replace f7 := pw_cell_below hb f7
    replace g0 := pw_cell_below hb g0
    replace k0 := (hb.frozen (p := ⟨w.heap.size + 1, 0, none⟩) z1).trans k0
    replace g1 := pw_cell_below hb g1
    replace k1 := (hb.frozen (p := ⟨w.heap.size + 1, 1, none⟩) z1).trans k1
    replace g2 := pw_cell_below hb g2
    replace k2 := (hb.frozen (p := ⟨w.heap.size + 1, 2, none⟩) z1).trans k2
    replace g3 := pw_cell_below hb g3
    replace k3 := (hb.frozen (p := ⟨w.heap.size + 1, 3, none⟩) z1).trans k3
    replace g4 := pw_cell_below hb g4
    replace k4 := (hb.frozen (p := ⟨w.heap.size + 1, 4, none⟩) z1).trans k4
    replace g5 := pw_cell_below hb g5
    replace k5 := (hb.frozen (p := ⟨w.heap.size + 1, 5, none⟩) z1).trans k5
    replace g6 := pw_cell_below hb g6
    replace k6 := (hb.frozen (p := ⟨w.heap.size + 1, 6, none⟩) z1).trans k6
    replace g7 := pw_cell_below hb g7
    replace k7 := (hb.frozen (p := ⟨w.heap.size + 1, 7, none⟩) z1).trans k7
    replace bk := (hb.block (w.heap.size + 1) z1).trans bk
    replace HB := Aside0.mk (below_into (w := w) hb HB.out)
    have z2 := hb.size
    have z3 : w.heap.size + 1 < w2.heap.size := by omega
    have z4 : w.heap.size < w2.heap.size := by omega
    have RR0 := Aside0.mk (Kd.R_lower (Kd.R_mono (ok' := fun k => w1.heap.size ≤ k) (Kd.R_bound hR0) (fun k hk => hk.2.1)) (show w.heap.size ≤ w1.heap.size by omega))
    have RR3 := Aside0.mk (Kd.S_lower (Kd.S_mono (ok' := fun k => w1.heap.size ≤ k) (Kd.S_bound hR3) (fun k hk => hk.2.1)) (show w.heap.size ≤ w1.heap.size by omega))
    have RR5 := Aside0.mk (Kd.R_lower (Kd.R_mono (ok' := fun k => w1.heap.size ≤ k) (Kd.R_bound hR5) (fun k hk => hk.2.1)) (show w.heap.size ≤ w1.heap.size by omega))
    have BK0 := Aside0.mk bk
    clear bk
    clear hb hR0 hR3 hR5
    by_cases hc : a = (l2.length : Int)
    case pos =>
      have HN := Aside0.mk (show shutR ⟨l0, d, c, l1, h, l2, a, b⟩ = (⟨l0, d, c, l1, h, l2, a, b⟩, 3) by unfold shutR; rw [if_pos HQ.out, if_pos hc])
      have cb : (a == (l2.length : Int)) = true := by simpa using hc
      have HC := Aside0.mk hc
      clear hc
      go_wp2_with fail
      rw [HN.out]
      refine bodyPost_ret (results_ct rfl _ _ (w.heap.size + 1) 32 #[.slice B0 l0.length e0, .int .i64 d, .int .i64 c, .slice B1 l1.length e1, .int .i64 h, .slice B2 l2.length e2, .int .i64 a, .int .i64 b] (0, 0) _ rfl (by exact blk_alloc (blk8 BK0.out _ _ _ _ _ _ _ _) _) Tryd.underlying32 rfl (by kernel_rfl)) rfl ?_
      exact ⟨_, _, _, rfl, ⟨Kd.R_mono (Kd.R_alloc (R_set8 RR0.out (fun k hk => by omega) _ _ _ _ _ _ _ _) _) (fun _ _ => trivial), Kd.S_mono (Kd.S_alloc (S_set8 RR3.out (fun k hk => by omega) _ _ _ _ _ _ _ _) _) (fun _ _ => trivial), Kd.R_mono (Kd.R_alloc (R_set8 RR5.out (fun k hk => by omega) _ _ _ _ _ _ _ _) _) (fun _ _ => trivial)⟩, below_alloc (below_set8 HB.out (by omega) _ _ _ _ _ _ _ _) _⟩
    case neg =>
      have HN := Aside0.mk (show shutR ⟨l0, d, c, l1, h, l2, a, b⟩ = (⟨l0, d, c, l1, h, l2, a + 1, b⟩, 0) by unfold shutR; rw [if_pos HQ.out, if_neg hc])
      have cb : (a == (l2.length : Int)) = false := by simpa using hc
      have HC := Aside0.mk hc
      clear hc
      go_wp2_with fail
      rw [HN.out]
      refine bodyPost_ret (results_ct rfl _ _ (w.heap.size + 1) 32 #[.slice B0 l0.length e0, .int .i64 d, .int .i64 c, .slice B1 l1.length e1, .int .i64 h, .slice B2 l2.length e2, .int .i64 (a + 1), .int .i64 b] (0, 0) _ rfl (by exact blk_alloc (blk8 BK0.out _ _ _ _ _ _ _ _) _) Tryd.underlying32 rfl (by kernel_rfl)) rfl ?_
      exact ⟨_, _, _, rfl, ⟨Kd.R_mono (Kd.R_alloc (R_set8 RR0.out (fun k hk => by omega) _ _ _ _ _ _ _ _) _) (fun _ _ => trivial), Kd.S_mono (Kd.S_alloc (S_set8 RR3.out (fun k hk => by omega) _ _ _ _ _ _ _ _) _) (fun _ _ => trivial), Kd.R_mono (Kd.R_alloc (R_set8 RR5.out (fun k hk => by omega) _ _ _ _ _ _ _ _) _) (fun _ _ => trivial)⟩, below_alloc (below_set8 HB.out (by omega) _ _ _ _ _ _ _ _) _⟩
end Go.Proofs.YtjkjjfbcakbmnaaDoor.Q
