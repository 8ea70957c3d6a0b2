/- Parts of the proof: what functions of the program and of the reference answer.
   No condition. -/
import Derived.Test.YtjkjjfbcakbmnaaDoorZBooksShut1
import Derived.Test.YtjkjjfbcakbmnaaDoorZBooksShut8
import Derived.Test.YtjkjjfbcakbmnaaDoorZBooksShut20
import Derived.Test.YtjkjjfbcakbmnaaDoorZBooksShut18
import Derived.Test.YtjkjjfbcakbmnaaDoorZBooksShut17
import Derived.Test.YtjkjjfbcakbmnaaDoorZBooksShut3
import Derived.Test.YtjkjjfbcakbmnaaDoorZBooksShut15
import Derived.Test.YtjkjjfbcakbmnaaDoorZBooksShut14
import Derived.Test.YtjkjjfbcakbmnaaDoorZBooksShut21
import Derived.Test.YtjkjjfbcakbmnaaDoorZBooksShut24
import Derived.Test.YtjkjjfbcakbmnaaDoorZBooksShut27
import Derived.Test.YtjkjjfbcakbmnaaDoorZBooksShut26
import Derived.Test.YtjkjjfbcakbmnaaDoorZBooksShut5
namespace Go.Proofs.YtjkjjfbcakbmnaaDoor.Q
open Go.RowKit Go.Proofs.YtjkjjfbcakbmnaaDoorW.PrintWords Go.Proofs.YtjkjjfbcakbmnaaDoorW.PrintLast Go.Proofs.YtjkjjfbcakbmnaaDoorW.PrintMore
set_option linter.unusedVariables false
set_option linter.unusedSimpArgs false
set_option maxHeartbeats 16000000 in
set_option maxRecDepth 100000 in
theorem spec_Record.to (A0 : Option Addr) (c0 : Nat) (l0 : List Acc) (d c : Int) (A1 : Option Addr) (c1 : Nat) (l1 : List Ent) (h : Int) (A2 : Option Addr) (c2 : Nat) (l2 : List Per) (a b : Int) (e0 e1 : Int) (e2 : ByteArray) (A3 : Option Addr) (c3 : Nat) (l3 : List Lin) (w : World) (hr0 : Kd.C k64 w A0 l0.length l0) (hc0 : l0.length ≤ c0) (hs : ∀ x ∈ l0, x.f0.size ≤ maxLen) (hr1 : Kd.C k35 w A1 l1.length l1) (hc1 : l1.length ≤ c1) (hm : ∀ e ∈ l1, e.f2.size ≤ maxLen) (hr2 : Kd.C k66 w A2 l2.length l2) (hc2 : l2.length ≤ c2) (hsm : smallB l0 l1 l2) (hr3 : Kd.C k81 w A3 l3.length l3) (hc3 : l3.length ≤ c3) (he : e2.size ≤ maxLen) (hl3 : l3.length ≤ 1048576) :
    Calls Tryd.prog 6 #[.agg #[.slice A0 l0.length c0, .int .i64 d, .int .i64 c, .slice A1 l1.length c1, .int .i64 h, .slice A2 l2.length c2, .int .i64 a, .int .i64 b], .agg #[.int .i64 e0, .int .i64 e1, .string e2, .slice A3 l3.length c3]] w fun e w' => ∃ v0 v3 v5 : Value, e = .returned (.tuple #[(recR ⟨l0, d, c, l1, h, l2, a, b⟩ ⟨e0, e1, e2, l3⟩).1.val v0 v3 v5, .int .i64 (recR ⟨l0, d, c, l1, h, l2, a, b⟩ ⟨e0, e1, e2, l3⟩).2]) ∧ (recR ⟨l0, d, c, l1, h, l2, a, b⟩ ⟨e0, e1, e2, l3⟩).1.own w' w.heap.size v0 v3 v5 ∧ Below w.heap.size w w' := by
  have HR0 := Aside0.mk hr0
  have HR1 := Aside0.mk hr1
  have HR2 := Aside0.mk hr2
  have HR3 := Aside0.mk hr3
  have HC0 := Aside0.mk hc0
  have HC1 := Aside0.mk hc1
  have HC2 := Aside0.mk hc2
  have HC3 := Aside0.mk hc3
  have HS := Aside0.mk hs
  have HM := Aside0.mk hm
  have HSM := Aside0.mk hsm
  have HE := Aside0.mk he
  have HL3 := Aside0.mk hl3
  have HB := Aside0.mk (below_alloc (below_two w (.cells #[.slice A0 l0.length c0, .int .i64 d, .int .i64 c, .slice A1 l1.length c1, .int .i64 h, .slice A2 l2.length c2, .int .i64 a, .int .i64 b] 32) (.cells #[.int .i64 e0, .int .i64 e1, .string e2, .slice A3 l3.length c3] 35)) (.cells #[.slice none 0 0, .int .i64 0, .int .i64 0, .slice none 0 0, .int .i64 0, .slice none 0 0, .int .i64 0, .int .i64 0] 32))
  clear hr0 hr1 hr2 hr3 hc0 hc1 hc2 hc3 hs hm hsm he hl3
  go_enter Tryd.func6, Tryd.ntmps6
  go_wp2_with fail
  refine (spec_BooksOk.to A0 c0 l0 d c A1 c1 l1 h A2 c2 l2 a b _ (Kd.C_below HR0.out HB.out) HS.out (Kd.C_below HR1.out HB.out) HC1.out HM.out (Kd.C_below HR2.out HB.out)).mono ?_
  rintro x w1 ⟨rfl, hb⟩
  have K0 : w1.heap[w.heap.size]? = some (.cells #[.slice A0 l0.length c0, .int .i64 d, .int .i64 c, .slice A1 l1.length c1, .int .i64 h, .slice A2 l2.length c2, .int .i64 a, .int .i64 b] 32 (0, 0)) := by
    have := blk_below (blk_alloc (blk_alloc (blk_new (w) (.cells #[.slice A0 l0.length c0, .int .i64 d, .int .i64 c, .slice A1 l1.length c1, .int .i64 h, .slice A2 l2.length c2, .int .i64 a, .int .i64 b] 32)) (.cells #[.int .i64 e0, .int .i64 e1, .string e2, .slice A3 l3.length c3] 35)) (.cells #[.slice none 0 0, .int .i64 0, .int .i64 0, .slice none 0 0, .int .i64 0, .slice none 0 0, .int .i64 0, .int .i64 0] 32)) hb
    simpa using this
  have K1 : w1.heap[w.heap.size + 1]? = some (.cells #[.int .i64 e0, .int .i64 e1, .string e2, .slice A3 l3.length c3] 35 (0, 0)) := by
    have := blk_below (blk_alloc (blk_new ((w).alloc (.cells #[.slice A0 l0.length c0, .int .i64 d, .int .i64 c, .slice A1 l1.length c1, .int .i64 h, .slice A2 l2.length c2, .int .i64 a, .int .i64 b] 32)) (.cells #[.int .i64 e0, .int .i64 e1, .string e2, .slice A3 l3.length c3] 35)) (.cells #[.slice none 0 0, .int .i64 0, .int .i64 0, .slice none 0 0, .int .i64 0, .slice none 0 0, .int .i64 0, .int .i64 0] 32)) hb
    simpa using this
  have K2 : w1.heap[w.heap.size + 1 + 1]? = some (.cells #[.slice none 0 0, .int .i64 0, .int .i64 0, .slice none 0 0, .int .i64 0, .slice none 0 0, .int .i64 0, .int .i64 0] 32 (0, 0)) := by
    have := blk_below (blk_new (((w).alloc (.cells #[.slice A0 l0.length c0, .int .i64 d, .int .i64 c, .slice A1 l1.length c1, .int .i64 h, .slice A2 l2.length c2, .int .i64 a, .int .i64 b] 32)).alloc (.cells #[.int .i64 e0, .int .i64 e1, .string e2, .slice A3 l3.length c3] 35)) (.cells #[.slice none 0 0, .int .i64 0, .int .i64 0, .slice none 0 0, .int .i64 0, .slice none 0 0, .int .i64 0, .int .i64 0] 32)) hb
    simpa using this
  have HB1 := Aside0.mk (below_into (w := w) hb HB.out)
  have z_w1 : w.heap.size + 1 + 1 < w1.heap.size := blk_lt K2
  clear hb HB
  have f0 : w1.cell? ⟨w.heap.size, 0, none⟩ = some (.slice A0 l0.length c0) := (blk_cell K0 0).trans rfl
  have f1 : w1.cell? ⟨w.heap.size, 1, none⟩ = some (.int .i64 d) := (blk_cell K0 1).trans rfl
  have f2 : w1.cell? ⟨w.heap.size, 2, none⟩ = some (.int .i64 c) := (blk_cell K0 2).trans rfl
  have f3 : w1.cell? ⟨w.heap.size, 3, none⟩ = some (.slice A1 l1.length c1) := (blk_cell K0 3).trans rfl
  have f4 : w1.cell? ⟨w.heap.size, 4, none⟩ = some (.int .i64 h) := (blk_cell K0 4).trans rfl
  have f5 : w1.cell? ⟨w.heap.size, 5, none⟩ = some (.slice A2 l2.length c2) := (blk_cell K0 5).trans rfl
  have f6 : w1.cell? ⟨w.heap.size, 6, none⟩ = some (.int .i64 a) := (blk_cell K0 6).trans rfl
  have f7 : w1.cell? ⟨w.heap.size, 7, none⟩ = some (.int .i64 b) := (blk_cell K0 7).trans rfl
  have u0 : w1.cell? ⟨w.heap.size + 1, 0, none⟩ = some (.int .i64 e0) := (blk_cell K1 0).trans rfl
  have u1 : w1.cell? ⟨w.heap.size + 1, 1, none⟩ = some (.int .i64 e1) := (blk_cell K1 1).trans rfl
  have u2 : w1.cell? ⟨w.heap.size + 1, 2, none⟩ = some (.string e2) := (blk_cell K1 2).trans rfl
  have u3 : w1.cell? ⟨w.heap.size + 1, 3, none⟩ = some (.slice A3 l3.length c3) := (blk_cell K1 3).trans rfl
  have y0 : w1.cell? ⟨w.heap.size + 1 + 1, 0, none⟩ = some (.slice none 0 0) := (blk_cell K2 0).trans rfl
  have yf0 := blk_frozen K2 0
  have y1 : w1.cell? ⟨w.heap.size + 1 + 1, 1, none⟩ = some (.int .i64 0) := (blk_cell K2 1).trans rfl
  have yf1 := blk_frozen K2 1
  have y2 : w1.cell? ⟨w.heap.size + 1 + 1, 2, none⟩ = some (.int .i64 0) := (blk_cell K2 2).trans rfl
  have yf2 := blk_frozen K2 2
  have y3 : w1.cell? ⟨w.heap.size + 1 + 1, 3, none⟩ = some (.slice none 0 0) := (blk_cell K2 3).trans rfl
  have yf3 := blk_frozen K2 3
  have y4 : w1.cell? ⟨w.heap.size + 1 + 1, 4, none⟩ = some (.int .i64 0) := (blk_cell K2 4).trans rfl
  have yf4 := blk_frozen K2 4
  have y5 : w1.cell? ⟨w.heap.size + 1 + 1, 5, none⟩ = some (.slice none 0 0) := (blk_cell K2 5).trans rfl
  have yf5 := blk_frozen K2 5
  have y6 : w1.cell? ⟨w.heap.size + 1 + 1, 6, none⟩ = some (.int .i64 0) := (blk_cell K2 6).trans rfl
  have yf6 := blk_frozen K2 6
  have y7 : w1.cell? ⟨w.heap.size + 1 + 1, 7, none⟩ = some (.int .i64 0) := (blk_cell K2 7).trans rfl
  have yf7 := blk_frozen K2 7
  have LK2 := Aside0.mk K2
  clear K0 K1 K2
  have HGO : ∀ n : Int, recC l0 d c l1 h l2 a b ⟨e0, e1, e2, l3⟩ = n → 1 < n → recR ⟨l0, d, c, l1, h, l2, a, b⟩ ⟨e0, e1, e2, l3⟩ = (⟨l0, d, c, l1, h, l2, a, b⟩, n) := by
    intro n hn h0
    unfold recR
    simp only [hn]
    rw [if_neg (by omega), if_neg (by omega)]
  replace HGO := Aside0.mk HGO
  cases q1 : booksB l0 d c l1 h l2 a b with
  | false =>
    have HN := Aside0.mk (show recR ⟨l0, d, c, l1, h, l2, a, b⟩ ⟨e0, e1, e2, l3⟩ = (Bk.none, 1) from if_pos (show recC l0 d c l1 h l2 a b ⟨e0, e1, e2, l3⟩ = 1 from if_neg (by simp only [q1]; simp)))
    clear q1 HGO
    go_wp2_with fail
    rw [HN.out]
    refine bodyPost_ret (results_ct rfl _ _ (w.heap.size + 1 + 1) 32 #[.slice none 0 0, .int .i64 0, .int .i64 0, .slice none 0 0, .int .i64 0, .slice none 0 0, .int .i64 0, .int .i64 0] (0, 0) _ rfl (by exact blk8 LK2.out _ _ _ _ _ _ _ _) Tryd.underlying32 rfl (by kernel_rfl)) rfl ?_
    exact ⟨.slice none 0 0, .slice none 0 0, .slice none 0 0, rfl, ⟨Kd.R_nil _ _ _ _ _, Kd.S_nil _ _ _ _ _, Kd.R_nil _ _ _ _ _⟩, below_set8 HB1.out (by omega) _ _ _ _ _ _ _ _⟩
  | true =>
    have HQ := Aside0.mk q1
    have q3 := (booksB_true.1 q1).1
    have QL := Aside0.mk (ledgerB_true.2 q3)
    have QF := Aside0.mk q3.1
    clear q1 q3
    go_wp2_with fail
    refine (spec_l6Books.calls (l1.length + 1) A0 c0 l0 d c A1 c1 l1 h A2 c2 l2 a b l0 d c l1 h l2 a b _ (Kd.C_below HR0.out HB1.out) HC0.out (Kd.C_below HR1.out HB1.out) HC1.out (Kd.C_below HR2.out HB1.out) HC2.out (l6Books_is HSM.out _ (Nat.lt_succ_self _))).mono ?_
    rintro x w2 ⟨v0, v3, v5, rfl, hR0, hR3, hR5, hb⟩
    obtain ⟨B0, b0, rfl⟩ := Kd.R_slice hR0
    obtain ⟨B1, b1, rfl⟩ := Kd.S_slice hR3
    obtain ⟨B2, b2, rfl⟩ := Kd.R_slice hR5
    replace f0 := pw_cell_below hb f0
    replace f1 := pw_cell_below hb f1
    replace f2 := pw_cell_below hb f2
    replace f3 := pw_cell_below hb f3
    replace f4 := pw_cell_below hb f4
    replace f5 := pw_cell_below hb f5
    replace f6 := pw_cell_below hb f6
    replace f7 := pw_cell_below hb f7
    replace u0 := pw_cell_below hb u0
    replace u1 := pw_cell_below hb u1
    replace u2 := pw_cell_below hb u2
    replace u3 := pw_cell_below hb u3
    replace y0 := pw_cell_below hb y0
    replace yf0 := (hb.frozen (p := ⟨w.heap.size + 1 + 1, 0, none⟩) z_w1).trans yf0
    replace y1 := pw_cell_below hb y1
    replace yf1 := (hb.frozen (p := ⟨w.heap.size + 1 + 1, 1, none⟩) z_w1).trans yf1
    replace y2 := pw_cell_below hb y2
    replace yf2 := (hb.frozen (p := ⟨w.heap.size + 1 + 1, 2, none⟩) z_w1).trans yf2
    replace y3 := pw_cell_below hb y3
    replace yf3 := (hb.frozen (p := ⟨w.heap.size + 1 + 1, 3, none⟩) z_w1).trans yf3
    replace y4 := pw_cell_below hb y4
    replace yf4 := (hb.frozen (p := ⟨w.heap.size + 1 + 1, 4, none⟩) z_w1).trans yf4
    replace y5 := pw_cell_below hb y5
    replace yf5 := (hb.frozen (p := ⟨w.heap.size + 1 + 1, 5, none⟩) z_w1).trans yf5
    replace y6 := pw_cell_below hb y6
    replace yf6 := (hb.frozen (p := ⟨w.heap.size + 1 + 1, 6, none⟩) z_w1).trans yf6
    replace y7 := pw_cell_below hb y7
    replace yf7 := (hb.frozen (p := ⟨w.heap.size + 1 + 1, 7, none⟩) z_w1).trans yf7
    replace LK2 := Aside0.mk (blk_below LK2.out hb)
    have HB2 := Aside0.mk (below_into (w := w) hb HB1.out)
    have zz_w2 := hb.size
    have z_w2 : w.heap.size + 1 + 1 < w2.heap.size := blk_lt LK2.out
    have RR0 := Aside0.mk (Kd.R_lower (Kd.R_mono (ok' := fun k => w1.heap.size ≤ k ∧ k < w2.heap.size) (Kd.R_bound hR0) (fun k hk => ⟨hk.2.1, hk.2.2.1⟩)) (show w.heap.size ≤ w1.heap.size by omega))
    have RR1 := Aside0.mk (Kd.S_lower (Kd.S_mono (ok' := fun k => w1.heap.size ≤ k ∧ k < w2.heap.size) (Kd.S_bound hR3) (fun k hk => ⟨hk.2.1, hk.2.2.1⟩)) (show w.heap.size ≤ w1.heap.size by omega))
    have RR2 := Aside0.mk (Kd.R_lower (Kd.R_mono (ok' := fun k => w1.heap.size ≤ k ∧ k < w2.heap.size) (Kd.R_bound hR5) (fun k hk => ⟨hk.2.1, hk.2.2.1⟩)) (show w.heap.size ≤ w1.heap.size by omega))
    clear hb hR0 hR3 hR5
    have nz0 : w.heap.size < w2.heap.size := by omega
    have nz1 : w.heap.size + 1 < w2.heap.size := by omega
    go_wp2_with fail
    have hb := below_alloc (Below.refl w2.heap.size w2) (.cells #[.slice B0 l0.length b0, .int .i64 d, .int .i64 c, .slice B1 l1.length b1, .int .i64 h, .slice B2 l2.length b2, .int .i64 a, .int .i64 b] 32)
    have KN : (w2.alloc (.cells #[.slice B0 l0.length b0, .int .i64 d, .int .i64 c, .slice B1 l1.length b1, .int .i64 h, .slice B2 l2.length b2, .int .i64 a, .int .i64 b] 32)).heap[w2.heap.size]? = some (.cells #[.slice B0 l0.length b0, .int .i64 d, .int .i64 c, .slice B1 l1.length b1, .int .i64 h, .slice B2 l2.length b2, .int .i64 a, .int .i64 b] 32 (0, 0)) := blk_new w2 (.cells #[.slice B0 l0.length b0, .int .i64 d, .int .i64 c, .slice B1 l1.length b1, .int .i64 h, .slice B2 l2.length b2, .int .i64 a, .int .i64 b] 32)
    generalize w2.alloc (.cells #[.slice B0 l0.length b0, .int .i64 d, .int .i64 c, .slice B1 l1.length b1, .int .i64 h, .slice B2 l2.length b2, .int .i64 a, .int .i64 b] 32) = w3 at *
    replace f0 := pw_cell_below hb f0
    replace f1 := pw_cell_below hb f1
    replace f2 := pw_cell_below hb f2
    replace f3 := pw_cell_below hb f3
    replace f4 := pw_cell_below hb f4
    replace f5 := pw_cell_below hb f5
    replace f6 := pw_cell_below hb f6
    replace f7 := pw_cell_below hb f7
    replace u0 := pw_cell_below hb u0
    replace u1 := pw_cell_below hb u1
    replace u2 := pw_cell_below hb u2
    replace u3 := pw_cell_below hb u3
    replace y0 := pw_cell_below hb y0
    replace yf0 := (hb.frozen (p := ⟨w.heap.size + 1 + 1, 0, none⟩) z_w2).trans yf0
    replace y1 := pw_cell_below hb y1
    replace yf1 := (hb.frozen (p := ⟨w.heap.size + 1 + 1, 1, none⟩) z_w2).trans yf1
    replace y2 := pw_cell_below hb y2
    replace yf2 := (hb.frozen (p := ⟨w.heap.size + 1 + 1, 2, none⟩) z_w2).trans yf2
    replace y3 := pw_cell_below hb y3
    replace yf3 := (hb.frozen (p := ⟨w.heap.size + 1 + 1, 3, none⟩) z_w2).trans yf3
    replace y4 := pw_cell_below hb y4
    replace yf4 := (hb.frozen (p := ⟨w.heap.size + 1 + 1, 4, none⟩) z_w2).trans yf4
    replace y5 := pw_cell_below hb y5
    replace yf5 := (hb.frozen (p := ⟨w.heap.size + 1 + 1, 5, none⟩) z_w2).trans yf5
    replace y6 := pw_cell_below hb y6
    replace yf6 := (hb.frozen (p := ⟨w.heap.size + 1 + 1, 6, none⟩) z_w2).trans yf6
    replace y7 := pw_cell_below hb y7
    replace yf7 := (hb.frozen (p := ⟨w.heap.size + 1 + 1, 7, none⟩) z_w2).trans yf7
    replace RR0 := Aside0.mk (Kd.R_below RR0.out hb)
    replace RR1 := Aside0.mk (Kd.S_below RR1.out hb)
    replace RR2 := Aside0.mk (Kd.R_below RR2.out hb)
    replace LK2 := Aside0.mk (blk_below LK2.out hb)
    have HB3 := Aside0.mk (below_into (w := w) hb HB2.out)
    have zz_w3 := hb.size
    have z_w3 : w.heap.size + 1 + 1 < w3.heap.size := blk_lt LK2.out
    have n0 : w3.cell? ⟨w2.heap.size, 0, none⟩ = some (.slice B0 l0.length b0) := (blk_cell KN 0).trans rfl
    have nf0 := blk_frozen KN 0
    have n1 : w3.cell? ⟨w2.heap.size, 1, none⟩ = some (.int .i64 d) := (blk_cell KN 1).trans rfl
    have nf1 := blk_frozen KN 1
    have n2 : w3.cell? ⟨w2.heap.size, 2, none⟩ = some (.int .i64 c) := (blk_cell KN 2).trans rfl
    have nf2 := blk_frozen KN 2
    have n3 : w3.cell? ⟨w2.heap.size, 3, none⟩ = some (.slice B1 l1.length b1) := (blk_cell KN 3).trans rfl
    have nf3 := blk_frozen KN 3
    have n4 : w3.cell? ⟨w2.heap.size, 4, none⟩ = some (.int .i64 h) := (blk_cell KN 4).trans rfl
    have nf4 := blk_frozen KN 4
    have n5 : w3.cell? ⟨w2.heap.size, 5, none⟩ = some (.slice B2 l2.length b2) := (blk_cell KN 5).trans rfl
    have nf5 := blk_frozen KN 5
    have n6 : w3.cell? ⟨w2.heap.size, 6, none⟩ = some (.int .i64 a) := (blk_cell KN 6).trans rfl
    have nf6 := blk_frozen KN 6
    have n7 : w3.cell? ⟨w2.heap.size, 7, none⟩ = some (.int .i64 b) := (blk_cell KN 7).trans rfl
    have nf7 := blk_frozen KN 7
    have LKN := Aside0.mk KN
    have zn_w3 : w2.heap.size < w3.heap.size := blk_lt KN
    clear KN hb
    refine (spec_EntryOk.to A0 c0 l0 d c ⟨e0, e1, e2, l3⟩ A3 c3 _ (Kd.C_below HR0.out HB3.out) HS.out (Kd.C_below HR3.out HB3.out) HE.out).mono ?_
    rintro x w4 ⟨rfl, hb⟩
    replace f0 := pw_cell_below hb f0
    replace f1 := pw_cell_below hb f1
    replace f2 := pw_cell_below hb f2
    replace f3 := pw_cell_below hb f3
    replace f4 := pw_cell_below hb f4
    replace f5 := pw_cell_below hb f5
    replace f6 := pw_cell_below hb f6
    replace f7 := pw_cell_below hb f7
    replace u0 := pw_cell_below hb u0
    replace u1 := pw_cell_below hb u1
    replace u2 := pw_cell_below hb u2
    replace u3 := pw_cell_below hb u3
    replace y0 := pw_cell_below hb y0
    replace yf0 := (hb.frozen (p := ⟨w.heap.size + 1 + 1, 0, none⟩) z_w3).trans yf0
    replace y1 := pw_cell_below hb y1
    replace yf1 := (hb.frozen (p := ⟨w.heap.size + 1 + 1, 1, none⟩) z_w3).trans yf1
    replace y2 := pw_cell_below hb y2
    replace yf2 := (hb.frozen (p := ⟨w.heap.size + 1 + 1, 2, none⟩) z_w3).trans yf2
    replace y3 := pw_cell_below hb y3
    replace yf3 := (hb.frozen (p := ⟨w.heap.size + 1 + 1, 3, none⟩) z_w3).trans yf3
    replace y4 := pw_cell_below hb y4
    replace yf4 := (hb.frozen (p := ⟨w.heap.size + 1 + 1, 4, none⟩) z_w3).trans yf4
    replace y5 := pw_cell_below hb y5
    replace yf5 := (hb.frozen (p := ⟨w.heap.size + 1 + 1, 5, none⟩) z_w3).trans yf5
    replace y6 := pw_cell_below hb y6
    replace yf6 := (hb.frozen (p := ⟨w.heap.size + 1 + 1, 6, none⟩) z_w3).trans yf6
    replace y7 := pw_cell_below hb y7
    replace yf7 := (hb.frozen (p := ⟨w.heap.size + 1 + 1, 7, none⟩) z_w3).trans yf7
    replace n0 := pw_cell_below hb n0
    replace nf0 := (hb.frozen (p := ⟨w2.heap.size, 0, none⟩) zn_w3).trans nf0
    replace n1 := pw_cell_below hb n1
    replace nf1 := (hb.frozen (p := ⟨w2.heap.size, 1, none⟩) zn_w3).trans nf1
    replace n2 := pw_cell_below hb n2
    replace nf2 := (hb.frozen (p := ⟨w2.heap.size, 2, none⟩) zn_w3).trans nf2
    replace n3 := pw_cell_below hb n3
    replace nf3 := (hb.frozen (p := ⟨w2.heap.size, 3, none⟩) zn_w3).trans nf3
    replace n4 := pw_cell_below hb n4
    replace nf4 := (hb.frozen (p := ⟨w2.heap.size, 4, none⟩) zn_w3).trans nf4
    replace n5 := pw_cell_below hb n5
    replace nf5 := (hb.frozen (p := ⟨w2.heap.size, 5, none⟩) zn_w3).trans nf5
    replace n6 := pw_cell_below hb n6
    replace nf6 := (hb.frozen (p := ⟨w2.heap.size, 6, none⟩) zn_w3).trans nf6
    replace n7 := pw_cell_below hb n7
    replace nf7 := (hb.frozen (p := ⟨w2.heap.size, 7, none⟩) zn_w3).trans nf7
    replace LKN := Aside0.mk (blk_below LKN.out hb)
    have zn_w4 : w2.heap.size < w4.heap.size := blk_lt LKN.out
    replace RR0 := Aside0.mk (Kd.R_below RR0.out hb)
    replace RR1 := Aside0.mk (Kd.S_below RR1.out hb)
    replace RR2 := Aside0.mk (Kd.R_below RR2.out hb)
    replace LK2 := Aside0.mk (blk_below LK2.out hb)
    have HB4 := Aside0.mk (below_into (w := w) hb HB3.out)
    have zz_w4 := hb.size
    have z_w4 : w.heap.size + 1 + 1 < w4.heap.size := blk_lt LK2.out
    clear hb
    rw [QF.out, Bool.true_and]
    cases q4 : entryB l0 d c ⟨e0, e1, e2, l3⟩ with
    | false =>
      have HN := Aside0.mk (show recR ⟨l0, d, c, l1, h, l2, a, b⟩ ⟨e0, e1, e2, l3⟩ = (⟨l0, d, c, l1, h, l2, a, b⟩, 2) from HGO.out 2 (by unfold recC; rw [if_pos HQ.out, if_neg (by simp only [q4]; simp)]) (by omega))
      clear q4 HGO
      go_wp2_with fail
      rw [HN.out]
      refine bodyPost_ret (results_ct rfl _ _ (w.heap.size + 1 + 1) 32 #[.slice B0 l0.length b0, .int .i64 d, .int .i64 c, .slice B1 l1.length b1, .int .i64 h, .slice B2 l2.length b2, .int .i64 a, .int .i64 b] (0, 0) _ rfl (by exact blk8 LK2.out _ _ _ _ _ _ _ _) Tryd.underlying32 rfl (by kernel_rfl)) rfl ?_
      exact ⟨_, _, _, rfl, ⟨Kd.R_mono (R_set8 RR0.out (fun k hk => by omega) _ _ _ _ _ _ _ _) (fun _ _ => trivial), Kd.S_mono (S_set8 RR1.out (fun k hk => by omega) _ _ _ _ _ _ _ _) (fun _ _ => trivial), Kd.R_mono (R_set8 RR2.out (fun k hk => by omega) _ _ _ _ _ _ _ _) (fun _ _ => trivial)⟩, below_set8 HB4.out (by omega) _ _ _ _ _ _ _ _⟩
    | true =>
      have HQ4 := Aside0.mk q4
      clear q4
      go_wp2_with fail
      refine (spec_PeriodAt.calls 100 A2 c2 l2 e0 (perV l2 e0) _ (Kd.C_below HR2.out HB4.out) HC2.out (spec_PeriodAt_is l2 e0)).mono ?_
      rintro x w5 ⟨rfl, hd⟩
      have hb := hd.below
      clear hd
      replace f0 := pw_cell_below hb f0
      replace f1 := pw_cell_below hb f1
      replace f2 := pw_cell_below hb f2
      replace f3 := pw_cell_below hb f3
      replace f4 := pw_cell_below hb f4
      replace f5 := pw_cell_below hb f5
      replace f6 := pw_cell_below hb f6
      replace f7 := pw_cell_below hb f7
      replace u0 := pw_cell_below hb u0
      replace u1 := pw_cell_below hb u1
      replace u2 := pw_cell_below hb u2
      replace u3 := pw_cell_below hb u3
      replace y0 := pw_cell_below hb y0
      replace yf0 := (hb.frozen (p := ⟨w.heap.size + 1 + 1, 0, none⟩) z_w4).trans yf0
      replace y1 := pw_cell_below hb y1
      replace yf1 := (hb.frozen (p := ⟨w.heap.size + 1 + 1, 1, none⟩) z_w4).trans yf1
      replace y2 := pw_cell_below hb y2
      replace yf2 := (hb.frozen (p := ⟨w.heap.size + 1 + 1, 2, none⟩) z_w4).trans yf2
      replace y3 := pw_cell_below hb y3
      replace yf3 := (hb.frozen (p := ⟨w.heap.size + 1 + 1, 3, none⟩) z_w4).trans yf3
      replace y4 := pw_cell_below hb y4
      replace yf4 := (hb.frozen (p := ⟨w.heap.size + 1 + 1, 4, none⟩) z_w4).trans yf4
      replace y5 := pw_cell_below hb y5
      replace yf5 := (hb.frozen (p := ⟨w.heap.size + 1 + 1, 5, none⟩) z_w4).trans yf5
      replace y6 := pw_cell_below hb y6
      replace yf6 := (hb.frozen (p := ⟨w.heap.size + 1 + 1, 6, none⟩) z_w4).trans yf6
      replace y7 := pw_cell_below hb y7
      replace yf7 := (hb.frozen (p := ⟨w.heap.size + 1 + 1, 7, none⟩) z_w4).trans yf7
      replace n0 := pw_cell_below hb n0
      replace nf0 := (hb.frozen (p := ⟨w2.heap.size, 0, none⟩) zn_w4).trans nf0
      replace n1 := pw_cell_below hb n1
      replace nf1 := (hb.frozen (p := ⟨w2.heap.size, 1, none⟩) zn_w4).trans nf1
      replace n2 := pw_cell_below hb n2
      replace nf2 := (hb.frozen (p := ⟨w2.heap.size, 2, none⟩) zn_w4).trans nf2
      replace n3 := pw_cell_below hb n3
      replace nf3 := (hb.frozen (p := ⟨w2.heap.size, 3, none⟩) zn_w4).trans nf3
      replace n4 := pw_cell_below hb n4
      replace nf4 := (hb.frozen (p := ⟨w2.heap.size, 4, none⟩) zn_w4).trans nf4
      replace n5 := pw_cell_below hb n5
      replace nf5 := (hb.frozen (p := ⟨w2.heap.size, 5, none⟩) zn_w4).trans nf5
      replace n6 := pw_cell_below hb n6
      replace nf6 := (hb.frozen (p := ⟨w2.heap.size, 6, none⟩) zn_w4).trans nf6
      replace n7 := pw_cell_below hb n7
      replace nf7 := (hb.frozen (p := ⟨w2.heap.size, 7, none⟩) zn_w4).trans nf7
      replace LKN := Aside0.mk (blk_below LKN.out hb)
      have zn_w5 : w2.heap.size < w5.heap.size := blk_lt LKN.out
      replace RR0 := Aside0.mk (Kd.R_below RR0.out hb)
      replace RR1 := Aside0.mk (Kd.S_below RR1.out hb)
      replace RR2 := Aside0.mk (Kd.R_below RR2.out hb)
      replace LK2 := Aside0.mk (blk_below LK2.out hb)
      have HB5 := Aside0.mk (below_into (w := w) hb HB4.out)
      have zz_w5 := hb.size
      have z_w5 : w.heap.size + 1 + 1 < w5.heap.size := blk_lt LK2.out
      clear hb
      by_cases q5 : perV l2 e0 < 0
      · have HN := Aside0.mk (show recR ⟨l0, d, c, l1, h, l2, a, b⟩ ⟨e0, e1, e2, l3⟩ = (⟨l0, d, c, l1, h, l2, a, b⟩, 3) from HGO.out 3 (by unfold recC; rw [if_pos HQ.out, if_pos HQ4.out, if_pos (show perV l2 e0 < 0 from q5)]) (by omega))
        clear HGO
        generalize perV l2 e0 = pv at *
        go_wp2_with fail
        rw [HN.out]
        refine bodyPost_ret (results_ct rfl _ _ (w.heap.size + 1 + 1) 32 #[.slice B0 l0.length b0, .int .i64 d, .int .i64 c, .slice B1 l1.length b1, .int .i64 h, .slice B2 l2.length b2, .int .i64 a, .int .i64 b] (0, 0) _ rfl (by exact blk8 LK2.out _ _ _ _ _ _ _ _) Tryd.underlying32 rfl (by kernel_rfl)) rfl ?_
        exact ⟨_, _, _, rfl, ⟨Kd.R_mono (R_set8 RR0.out (fun k hk => by omega) _ _ _ _ _ _ _ _) (fun _ _ => trivial), Kd.S_mono (S_set8 RR1.out (fun k hk => by omega) _ _ _ _ _ _ _ _) (fun _ _ => trivial), Kd.R_mono (R_set8 RR2.out (fun k hk => by omega) _ _ _ _ _ _ _ _) (fun _ _ => trivial)⟩, below_set8 HB5.out (by omega) _ _ _ _ _ _ _ _⟩
      by_cases q6 : perV l2 e0 < a
      · have HN := Aside0.mk (show recR ⟨l0, d, c, l1, h, l2, a, b⟩ ⟨e0, e1, e2, l3⟩ = (⟨l0, d, c, l1, h, l2, a, b⟩, 4) from HGO.out 4 (by unfold recC; rw [if_pos HQ.out, if_pos HQ4.out, if_neg (show ¬ perV l2 e0 < 0 from q5), if_pos (show perV l2 e0 < a from q6)]) (by omega))
        clear HGO
        generalize perV l2 e0 = pv at *
        go_wp2_with fail
        rw [HN.out]
        refine bodyPost_ret (results_ct rfl _ _ (w.heap.size + 1 + 1) 32 #[.slice B0 l0.length b0, .int .i64 d, .int .i64 c, .slice B1 l1.length b1, .int .i64 h, .slice B2 l2.length b2, .int .i64 a, .int .i64 b] (0, 0) _ rfl (by exact blk8 LK2.out _ _ _ _ _ _ _ _) Tryd.underlying32 rfl (by kernel_rfl)) rfl ?_
        exact ⟨_, _, _, rfl, ⟨Kd.R_mono (R_set8 RR0.out (fun k hk => by omega) _ _ _ _ _ _ _ _) (fun _ _ => trivial), Kd.S_mono (S_set8 RR1.out (fun k hk => by omega) _ _ _ _ _ _ _ _) (fun _ _ => trivial), Kd.R_mono (R_set8 RR2.out (fun k hk => by omega) _ _ _ _ _ _ _ _) (fun _ _ => trivial)⟩, below_set8 HB5.out (by omega) _ _ _ _ _ _ _ _⟩
      by_cases q7 : l1.length = 1000
      · have HN := Aside0.mk (show recR ⟨l0, d, c, l1, h, l2, a, b⟩ ⟨e0, e1, e2, l3⟩ = (⟨l0, d, c, l1, h, l2, a, b⟩, 5) from HGO.out 5 (by unfold recC; rw [if_pos HQ.out, if_pos HQ4.out, if_neg (show ¬ perV l2 e0 < 0 from q5), if_neg (show ¬ perV l2 e0 < a from q6), if_pos (show l1.length = 1000 from q7)]) (by omega))
        have HR := Aside0.mk ((show postR l0 d c l1 h ⟨e0, e1, e2, l3⟩ = (l1, h, 3) by unfold postR; rw [if_pos QL.out, if_pos HQ4.out, if_pos q7]))
        clear HGO q7
        generalize perV l2 e0 = pv at *
        go_wp2_with fail
        refine (spec_Post.at A0 c0 l0 d c A1 c1 l1 h e0 e1 e2 A3 c3 l3 l1 h 3 _ (Kd.C_below HR0.out HB5.out) HC0.out (Kd.C_below HR1.out HB5.out) HC1.out (Kd.C_below HR3.out HB5.out) HC3.out ⟨⟨HS.out, HM.out, HE.out, HSM.out.2.1.1, HSM.out.2.1.2, HL3.out⟩, HR.out⟩).mono ?_
        rintro x w6 ⟨v0, rfl, hO, hb⟩
        obtain ⟨P0, p0, rfl⟩ := Kd.S_slice hO
        clear hO
        replace f0 := pw_cell_below hb f0
        replace f1 := pw_cell_below hb f1
        replace f2 := pw_cell_below hb f2
        replace f3 := pw_cell_below hb f3
        replace f4 := pw_cell_below hb f4
        replace f5 := pw_cell_below hb f5
        replace f6 := pw_cell_below hb f6
        replace f7 := pw_cell_below hb f7
        replace u0 := pw_cell_below hb u0
        replace u1 := pw_cell_below hb u1
        replace u2 := pw_cell_below hb u2
        replace u3 := pw_cell_below hb u3
        replace y0 := pw_cell_below hb y0
        replace yf0 := (hb.frozen (p := ⟨w.heap.size + 1 + 1, 0, none⟩) z_w5).trans yf0
        replace y1 := pw_cell_below hb y1
        replace yf1 := (hb.frozen (p := ⟨w.heap.size + 1 + 1, 1, none⟩) z_w5).trans yf1
        replace y2 := pw_cell_below hb y2
        replace yf2 := (hb.frozen (p := ⟨w.heap.size + 1 + 1, 2, none⟩) z_w5).trans yf2
        replace y3 := pw_cell_below hb y3
        replace yf3 := (hb.frozen (p := ⟨w.heap.size + 1 + 1, 3, none⟩) z_w5).trans yf3
        replace y4 := pw_cell_below hb y4
        replace yf4 := (hb.frozen (p := ⟨w.heap.size + 1 + 1, 4, none⟩) z_w5).trans yf4
        replace y5 := pw_cell_below hb y5
        replace yf5 := (hb.frozen (p := ⟨w.heap.size + 1 + 1, 5, none⟩) z_w5).trans yf5
        replace y6 := pw_cell_below hb y6
        replace yf6 := (hb.frozen (p := ⟨w.heap.size + 1 + 1, 6, none⟩) z_w5).trans yf6
        replace y7 := pw_cell_below hb y7
        replace yf7 := (hb.frozen (p := ⟨w.heap.size + 1 + 1, 7, none⟩) z_w5).trans yf7
        replace n0 := pw_cell_below hb n0
        replace nf0 := (hb.frozen (p := ⟨w2.heap.size, 0, none⟩) zn_w5).trans nf0
        replace n1 := pw_cell_below hb n1
        replace nf1 := (hb.frozen (p := ⟨w2.heap.size, 1, none⟩) zn_w5).trans nf1
        replace n2 := pw_cell_below hb n2
        replace nf2 := (hb.frozen (p := ⟨w2.heap.size, 2, none⟩) zn_w5).trans nf2
        replace n3 := pw_cell_below hb n3
        replace nf3 := (hb.frozen (p := ⟨w2.heap.size, 3, none⟩) zn_w5).trans nf3
        replace n4 := pw_cell_below hb n4
        replace nf4 := (hb.frozen (p := ⟨w2.heap.size, 4, none⟩) zn_w5).trans nf4
        replace n5 := pw_cell_below hb n5
        replace nf5 := (hb.frozen (p := ⟨w2.heap.size, 5, none⟩) zn_w5).trans nf5
        replace n6 := pw_cell_below hb n6
        replace nf6 := (hb.frozen (p := ⟨w2.heap.size, 6, none⟩) zn_w5).trans nf6
        replace n7 := pw_cell_below hb n7
        replace nf7 := (hb.frozen (p := ⟨w2.heap.size, 7, none⟩) zn_w5).trans nf7
        replace LKN := Aside0.mk (blk_below LKN.out hb)
        have zn_w6 : w2.heap.size < w6.heap.size := blk_lt LKN.out
        replace RR0 := Aside0.mk (Kd.R_below RR0.out hb)
        replace RR1 := Aside0.mk (Kd.S_below RR1.out hb)
        replace RR2 := Aside0.mk (Kd.R_below RR2.out hb)
        replace LK2 := Aside0.mk (blk_below LK2.out hb)
        have HB6 := Aside0.mk (below_into (w := w) hb HB5.out)
        have zz_w6 := hb.size
        have z_w6 : w.heap.size + 1 + 1 < w6.heap.size := blk_lt LK2.out
        clear hb
        go_wp2_with fail
        rw [HN.out]
        refine bodyPost_ret (results_ct rfl _ _ (w.heap.size + 1 + 1) 32 #[.slice B0 l0.length b0, .int .i64 d, .int .i64 c, .slice B1 l1.length b1, .int .i64 h, .slice B2 l2.length b2, .int .i64 a, .int .i64 b] (0, 0) _ rfl (by exact blk_alloc (blk8 LK2.out _ _ _ _ _ _ _ _) _) Tryd.underlying32 rfl (by kernel_rfl)) rfl ?_
        exact ⟨_, _, _, rfl, ⟨Kd.R_mono (Kd.R_alloc (R_set8 RR0.out (fun k hk => by omega) _ _ _ _ _ _ _ _) _) (fun _ _ => trivial), Kd.S_mono (Kd.S_alloc (S_set8 RR1.out (fun k hk => by omega) _ _ _ _ _ _ _ _) _) (fun _ _ => trivial), Kd.R_mono (Kd.R_alloc (R_set8 RR2.out (fun k hk => by omega) _ _ _ _ _ _ _ _) _) (fun _ _ => trivial)⟩, below_alloc (below_set8 HB6.out (by omega) _ _ _ _ _ _ _ _) _⟩
      · have HN1 : recC l0 d c l1 h l2 a b ⟨e0, e1, e2, l3⟩ = 0 → recR ⟨l0, d, c, l1, h, l2, a, b⟩ ⟨e0, e1, e2, l3⟩ = (⟨l0, d, c, l1 ++ [(⟨e0, e1, e2, l3⟩ : Ent)], headV (l1 ++ [(⟨e0, e1, e2, l3⟩ : Ent)]), l2, a, b⟩, 0) := by
          intro hc
          unfold recR
          rw [if_neg (show ¬ recC l0 d c l1 h l2 a b ⟨e0, e1, e2, l3⟩ = 1 by omega), if_pos (show recC l0 d c l1 h l2 a b ⟨e0, e1, e2, l3⟩ = 0 from hc)]
        have HN := Aside0.mk (HN1 (by unfold recC; rw [if_pos HQ.out, if_pos HQ4.out, if_neg (show ¬ perV l2 e0 < 0 from q5), if_neg (show ¬ perV l2 e0 < a from q6), if_neg (show ¬ l1.length = 1000 from q7)]))
        clear HN1
        have HR := Aside0.mk ((show postR l0 d c l1 h ⟨e0, e1, e2, l3⟩ = (l1 ++ [(⟨e0, e1, e2, l3⟩ : Ent)], headV (l1 ++ [(⟨e0, e1, e2, l3⟩ : Ent)]), 0) by unfold postR; rw [if_pos QL.out, if_pos HQ4.out, if_neg q7]))
        clear HGO q7
        generalize perV l2 e0 = pv at *
        have hlen : (l1 ++ [(⟨e0, e1, e2, l3⟩ : Ent)]).length = l1.length + 1 := by rw [List.length_append]; rfl
        generalize headV (l1 ++ [(⟨e0, e1, e2, l3⟩ : Ent)]) = hv at *
        go_wp2_with fail
        refine (spec_Post.at A0 c0 l0 d c A1 c1 l1 h e0 e1 e2 A3 c3 l3 (l1 ++ [(⟨e0, e1, e2, l3⟩ : Ent)]) hv 0 _ (Kd.C_below HR0.out HB5.out) HC0.out (Kd.C_below HR1.out HB5.out) HC1.out (Kd.C_below HR3.out HB5.out) HC3.out ⟨⟨HS.out, HM.out, HE.out, HSM.out.2.1.1, HSM.out.2.1.2, HL3.out⟩, HR.out⟩).mono ?_
        rintro x w6 ⟨v0, rfl, hO, hb⟩
        obtain ⟨P0, p0, rfl⟩ := Kd.S_slice hO
        replace f0 := pw_cell_below hb f0
        replace f1 := pw_cell_below hb f1
        replace f2 := pw_cell_below hb f2
        replace f3 := pw_cell_below hb f3
        replace f4 := pw_cell_below hb f4
        replace f5 := pw_cell_below hb f5
        replace f6 := pw_cell_below hb f6
        replace f7 := pw_cell_below hb f7
        replace u0 := pw_cell_below hb u0
        replace u1 := pw_cell_below hb u1
        replace u2 := pw_cell_below hb u2
        replace u3 := pw_cell_below hb u3
        replace y0 := pw_cell_below hb y0
        replace yf0 := (hb.frozen (p := ⟨w.heap.size + 1 + 1, 0, none⟩) z_w5).trans yf0
        replace y1 := pw_cell_below hb y1
        replace yf1 := (hb.frozen (p := ⟨w.heap.size + 1 + 1, 1, none⟩) z_w5).trans yf1
        replace y2 := pw_cell_below hb y2
        replace yf2 := (hb.frozen (p := ⟨w.heap.size + 1 + 1, 2, none⟩) z_w5).trans yf2
        replace y3 := pw_cell_below hb y3
        replace yf3 := (hb.frozen (p := ⟨w.heap.size + 1 + 1, 3, none⟩) z_w5).trans yf3
        replace y4 := pw_cell_below hb y4
        replace yf4 := (hb.frozen (p := ⟨w.heap.size + 1 + 1, 4, none⟩) z_w5).trans yf4
        replace y5 := pw_cell_below hb y5
        replace yf5 := (hb.frozen (p := ⟨w.heap.size + 1 + 1, 5, none⟩) z_w5).trans yf5
        replace y6 := pw_cell_below hb y6
        replace yf6 := (hb.frozen (p := ⟨w.heap.size + 1 + 1, 6, none⟩) z_w5).trans yf6
        replace y7 := pw_cell_below hb y7
        replace yf7 := (hb.frozen (p := ⟨w.heap.size + 1 + 1, 7, none⟩) z_w5).trans yf7
        replace n0 := pw_cell_below hb n0
        replace nf0 := (hb.frozen (p := ⟨w2.heap.size, 0, none⟩) zn_w5).trans nf0
        replace n1 := pw_cell_below hb n1
        replace nf1 := (hb.frozen (p := ⟨w2.heap.size, 1, none⟩) zn_w5).trans nf1
        replace n2 := pw_cell_below hb n2
        replace nf2 := (hb.frozen (p := ⟨w2.heap.size, 2, none⟩) zn_w5).trans nf2
        replace n3 := pw_cell_below hb n3
        replace nf3 := (hb.frozen (p := ⟨w2.heap.size, 3, none⟩) zn_w5).trans nf3
        replace n4 := pw_cell_below hb n4
        replace nf4 := (hb.frozen (p := ⟨w2.heap.size, 4, none⟩) zn_w5).trans nf4
        replace n5 := pw_cell_below hb n5
        replace nf5 := (hb.frozen (p := ⟨w2.heap.size, 5, none⟩) zn_w5).trans nf5
        replace n6 := pw_cell_below hb n6
        replace nf6 := (hb.frozen (p := ⟨w2.heap.size, 6, none⟩) zn_w5).trans nf6
        replace n7 := pw_cell_below hb n7
        replace nf7 := (hb.frozen (p := ⟨w2.heap.size, 7, none⟩) zn_w5).trans nf7
        replace LKN := Aside0.mk (blk_below LKN.out hb)
        have zn_w6 : w2.heap.size < w6.heap.size := blk_lt LKN.out
        replace RR0 := Aside0.mk (Kd.R_below RR0.out hb)
        replace RR1 := Aside0.mk (Kd.S_below RR1.out hb)
        replace RR2 := Aside0.mk (Kd.R_below RR2.out hb)
        replace LK2 := Aside0.mk (blk_below LK2.out hb)
        have HB6 := Aside0.mk (below_into (w := w) hb HB5.out)
        have zz_w6 := hb.size
        have z_w6 : w.heap.size + 1 + 1 < w6.heap.size := blk_lt LK2.out
        have RO := Aside0.mk (Kd.S_lower (Kd.S_mono (ok' := fun k => w5.heap.size ≤ k) (Kd.S_bound hO) (fun k hk => hk.2.1)) (show w.heap.size ≤ w5.heap.size by omega))
        rw [hlen] at RO ⊢
        clear hb hO HR
        have m3 : ¬ w2.heap.size = w.heap.size + 1 + 1 := by omega
        have m4 : w.heap.size + 1 + 1 ≠ w2.heap.size := by omega
        go_wp2_with fail
        rw [HN.out]
        refine bodyPost_ret (results_ct rfl _ _ (w.heap.size + 1 + 1) 32 #[.slice B0 l0.length b0, .int .i64 d, .int .i64 c, .slice P0 (l1.length + 1) p0, .int .i64 hv, .slice B2 l2.length b2, .int .i64 a, .int .i64 b] (0, 0) _ rfl (by exact blk_alloc (blk8 (blk_far (blk_far LK2.out m4 _) m4 _) _ _ _ _ _ _ _ _) _) Tryd.underlying32 rfl (by kernel_rfl)) rfl ?_
        exact ⟨_, _, _, rfl, ⟨Kd.R_mono (Kd.R_alloc (R_set8 (Kd.R_far (p := ⟨w2.heap.size, 4, none⟩) (Kd.R_far (p := ⟨w2.heap.size, 3, none⟩) RR0.out (fun k hk => by simp only; omega) _) (fun k hk => by simp only; omega) _) (fun k hk => by omega) _ _ _ _ _ _ _ _) _) (fun _ _ => trivial), Kd.S_mono (Kd.S_alloc (S_set8 (Kd.S_far (p := ⟨w2.heap.size, 4, none⟩) (Kd.S_far (p := ⟨w2.heap.size, 3, none⟩) RO.out (fun k hk => by simp only; omega) _) (fun k hk => by simp only; omega) _) (fun k hk => by omega) _ _ _ _ _ _ _ _) _) (fun _ _ => trivial), Kd.R_mono (Kd.R_alloc (R_set8 (Kd.R_far (p := ⟨w2.heap.size, 4, none⟩) (Kd.R_far (p := ⟨w2.heap.size, 3, none⟩) RR2.out (fun k hk => by simp only; omega) _) (fun k hk => by simp only; omega) _) (fun k hk => by omega) _ _ _ _ _ _ _ _) _) (fun _ _ => trivial)⟩, below_alloc (below_set8 (below_set (below_set HB6.out (by omega)) (by omega)) (by omega) _ _ _ _ _ _ _ _) _⟩
theorem impl_Record.at (A : Nat → Addr) (A0 : Option Addr) (c0 : Nat) (l0 : List Acc) (d c : Int) (A1 : Option Addr) (c1 : Nat) (l1 : List Ent) (h : Int) (A2 : Option Addr) (c2 : Nat) (l2 : List Per) (a b : Int) (e0 e1 : Int) (e2 : ByteArray) (A3 : Option Addr) (c3 : Nat) (l3 : List Lin) (w : World) (r0 : List Acc) (rd rc : Int) (r1 : List Ent) (rh : Int) (r2 : List Per) (ra rb rk : Int) (hS : Sent w A) (hr0 : Kd.C k64 w A0 l0.length l0) (hc0 : l0.length ≤ c0) (hs : ∀ x ∈ l0, x.f0.size ≤ maxLen) (hr1 : Kd.C k35 w A1 l1.length l1) (hc1 : l1.length ≤ c1) (hm : ∀ e ∈ l1, e.f2.size ≤ maxLen) (hr2 : Kd.C k66 w A2 l2.length l2) (hc2 : l2.length ≤ c2) (hsm : smallB l0 l1 l2) (hr3 : Kd.C k81 w A3 l3.length l3) (hc3 : l3.length ≤ c3) (he : e2.size ≤ maxLen) (hl3 : l3.length ≤ 1048576) (hres : recR ⟨l0, d, c, l1, h, l2, a, b⟩ ⟨e0, e1, e2, l3⟩ = (⟨r0, rd, rc, r1, rh, r2, ra, rb⟩, rk)) :
    Calls Tryd.prog 7 #[.agg #[.slice A0 l0.length c0, .int .i64 d, .int .i64 c, .slice A1 l1.length c1, .int .i64 h, .slice A2 l2.length c2, .int .i64 a, .int .i64 b], .agg #[.int .i64 e0, .int .i64 e1, .string e2, .slice A3 l3.length c3]] w fun e w' => ∃ v0 v3 v5 : Value, e = .returned (.tuple #[.agg #[v0, .int .i64 rd, .int .i64 rc, v3, .int .i64 rh, v5, .int .i64 ra, .int .i64 rb], .int .i64 rk]) ∧ Kd.R k64 64 w' w.heap.size (fun _ => True) v0 r0 ∧ Kd.S k35 35 w' w.heap.size (fun _ => True) v3 r1 ∧ Kd.R k66 66 w' w.heap.size (fun _ => True) v5 r2 ∧ Below w.heap.size w w' := by
  refine (impl_Record.to A A0 c0 l0 d c A1 c1 l1 h A2 c2 l2 a b e0 e1 e2 A3 c3 l3 w hS hr0 hc0 hs hr1 hc1 hm hr2 hc2 hsm hr3 hc3 he hl3).mono ?_
  rintro e w' ⟨v0, v3, v5, he, ⟨h1, h2, h3⟩, hb⟩
  rw [hres] at he h1 h2 h3
  exact ⟨v0, v3, v5, he, h1, h2, h3, hb⟩
theorem spec_Record.at (A0 : Option Addr) (c0 : Nat) (l0 : List Acc) (d c : Int) (A1 : Option Addr) (c1 : Nat) (l1 : List Ent) (h : Int) (A2 : Option Addr) (c2 : Nat) (l2 : List Per) (a b : Int) (e0 e1 : Int) (e2 : ByteArray) (A3 : Option Addr) (c3 : Nat) (l3 : List Lin) (w : World) (r0 : List Acc) (rd rc : Int) (r1 : List Ent) (rh : Int) (r2 : List Per) (ra rb rk : Int) (hr0 : Kd.C k64 w A0 l0.length l0) (hc0 : l0.length ≤ c0) (hs : ∀ x ∈ l0, x.f0.size ≤ maxLen) (hr1 : Kd.C k35 w A1 l1.length l1) (hc1 : l1.length ≤ c1) (hm : ∀ e ∈ l1, e.f2.size ≤ maxLen) (hr2 : Kd.C k66 w A2 l2.length l2) (hc2 : l2.length ≤ c2) (hsm : smallB l0 l1 l2) (hr3 : Kd.C k81 w A3 l3.length l3) (hc3 : l3.length ≤ c3) (he : e2.size ≤ maxLen) (hl3 : l3.length ≤ 1048576) (hres : recR ⟨l0, d, c, l1, h, l2, a, b⟩ ⟨e0, e1, e2, l3⟩ = (⟨r0, rd, rc, r1, rh, r2, ra, rb⟩, rk)) :
    Calls Tryd.prog 6 #[.agg #[.slice A0 l0.length c0, .int .i64 d, .int .i64 c, .slice A1 l1.length c1, .int .i64 h, .slice A2 l2.length c2, .int .i64 a, .int .i64 b], .agg #[.int .i64 e0, .int .i64 e1, .string e2, .slice A3 l3.length c3]] w fun e w' => ∃ v0 v3 v5 : Value, e = .returned (.tuple #[.agg #[v0, .int .i64 rd, .int .i64 rc, v3, .int .i64 rh, v5, .int .i64 ra, .int .i64 rb], .int .i64 rk]) ∧ Kd.R k64 64 w' w.heap.size (fun _ => True) v0 r0 ∧ Kd.S k35 35 w' w.heap.size (fun _ => True) v3 r1 ∧ Kd.R k66 66 w' w.heap.size (fun _ => True) v5 r2 ∧ Below w.heap.size w w' := by
  refine (spec_Record.to A0 c0 l0 d c A1 c1 l1 h A2 c2 l2 a b e0 e1 e2 A3 c3 l3 w hr0 hc0 hs hr1 hc1 hm hr2 hc2 hsm hr3 hc3 he hl3).mono ?_
  rintro e w' ⟨v0, v3, v5, he, ⟨h1, h2, h3⟩, hb⟩
  rw [hres] at he h1 h2 h3
  exact ⟨v0, v3, v5, he, h1, h2, h3, hb⟩
end Go.Proofs.YtjkjjfbcakbmnaaDoor.Q
