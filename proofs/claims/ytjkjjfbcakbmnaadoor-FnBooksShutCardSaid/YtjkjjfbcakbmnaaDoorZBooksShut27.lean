/- Parts of the proof: what functions of the program and of the reference answer.
   No condition. -/
import Derived.Test.YtjkjjfbcakbmnaaDoorZBooksShut1
import Derived.Test.YtjkjjfbcakbmnaaDoorZBooksShut8
import Derived.Test.YtjkjjfbcakbmnaaDoorZBooksShut10
import Derived.Test.YtjkjjfbcakbmnaaDoorZBooksShut17
import Derived.Test.YtjkjjfbcakbmnaaDoorZBooksShut18
import Derived.Test.YtjkjjfbcakbmnaaDoorZBooksShut5
import Derived.Test.YtjkjjfbcakbmnaaDoorZBooksShut24
import Derived.Test.YtjkjjfbcakbmnaaDoorZBooksShut15
import Derived.Test.YtjkjjfbcakbmnaaDoorZBooksShut9
import Derived.Test.YtjkjjfbcakbmnaaDoorZBooksShut25
namespace Go.Proofs.YtjkjjfbcakbmnaaDoor.Q
open Go.RowKit Go.Proofs.YtjkjjfbcakbmnaaDoorW.PrintWords Go.Proofs.YtjkjjfbcakbmnaaDoorW.PrintLast Go.Proofs.YtjkjjfbcakbmnaaDoorW.PrintMore
set_option linter.unusedVariables false
set_option linter.unusedSimpArgs false
open Classical in
noncomputable def recR (x : Bk) (e : Ent) : Bk × Int :=
  if recC x.m0 x.d x.c x.m1 x.h x.m2 x.a x.b e = 1 then (Bk.none, 1) else if recC x.m0 x.d x.c x.m1 x.h x.m2 x.a x.b e = 0 then ({ x with m1 := x.m1 ++ [e], h := headV (x.m1 ++ [e]) }, 0) else (x, recC x.m0 x.d x.c x.m1 x.h x.m2 x.a x.b e)
set_option maxHeartbeats 16000000 in
set_option maxRecDepth 100000 in
theorem impl_Record.to (A : Nat → Addr) (A0 : Option Addr) (c0 : Nat) (l0 : List Acc) (d c : Int) (A1 : Option Addr) (c1 : Nat) (l1 : List Ent) (h : Int) (A2 : Option Addr) (c2 : Nat) (l2 : List Per) (a b : Int) (e0 e1 : Int) (e2 : ByteArray) (A3 : Option Addr) (c3 : Nat) (l3 : List Lin) (w : World) (hS : Sent w A) (hr0 : Kd.C k64 w A0 l0.length l0) (hc0 : l0.length ≤ c0) (hs : ∀ x ∈ l0, x.f0.size ≤ maxLen) (hr1 : Kd.C k35 w A1 l1.length l1) (hc1 : l1.length ≤ c1) (hm : ∀ e ∈ l1, e.f2.size ≤ maxLen) (hr2 : Kd.C k66 w A2 l2.length l2) (hc2 : l2.length ≤ c2) (hsm : smallB l0 l1 l2) (hr3 : Kd.C k81 w A3 l3.length l3) (hc3 : l3.length ≤ c3) (he : e2.size ≤ maxLen) (hl3 : l3.length ≤ 1048576) :
    Calls Tryd.prog 7 #[.agg #[.slice A0 l0.length c0, .int .i64 d, .int .i64 c, .slice A1 l1.length c1, .int .i64 h, .slice A2 l2.length c2, .int .i64 a, .int .i64 b], .agg #[.int .i64 e0, .int .i64 e1, .string e2, .slice A3 l3.length c3]] w fun e w' => ∃ v0 v3 v5 : Value, e = .returned (.tuple #[(recR ⟨l0, d, c, l1, h, l2, a, b⟩ ⟨e0, e1, e2, l3⟩).1.val v0 v3 v5, .int .i64 (recR ⟨l0, d, c, l1, h, l2, a, b⟩ ⟨e0, e1, e2, l3⟩).2]) ∧ (recR ⟨l0, d, c, l1, h, l2, a, b⟩ ⟨e0, e1, e2, l3⟩).1.own w' w.heap.size v0 v3 v5 ∧ Below w.heap.size w w' := by
  have HR0 := Aside0.mk hr0
  have HR1 := Aside0.mk hr1
  have HR2 := Aside0.mk hr2
  have HR3 := Aside0.mk hr3
  have HC0 := Aside0.mk hc0
  have HC1 := Aside0.mk hc1
  have HC2 := Aside0.mk hc2
  have HC3 := Aside0.mk hc3
  have HS := Aside0.mk hs
  have HM := Aside0.mk hm
  have HSM := Aside0.mk hsm
  have HE := Aside0.mk he
  have HL3 := Aside0.mk hl3
  have HB := Aside0.mk (below_alloc (below_two w (.cells #[.slice A0 l0.length c0, .int .i64 d, .int .i64 c, .slice A1 l1.length c1, .int .i64 h, .slice A2 l2.length c2, .int .i64 a, .int .i64 b] 32) (.cells #[.int .i64 e0, .int .i64 e1, .string e2, .slice A3 l3.length c3] 35)) (.cells #[.slice none 0 0, .int .i64 0, .int .i64 0, .slice none 0 0, .int .i64 0, .slice none 0 0, .int .i64 0, .int .i64 0] 32))
  have SN := Aside0.mk (hS.below HB.out rfl)
  clear hr0 hr1 hr2 hr3 hc0 hc1 hc2 hc3 hs hm hsm he hl3 hS
  go_enter Tryd.func7, Tryd.ntmps7
  go_wp2_with fail
  refine (impl_record.to A A0 c0 l0 d c A1 c1 l1 h A2 c2 l2 a b e0 e1 e2 A3 c3 l3 _ SN.out (Kd.C_below HR0.out HB.out) HC0.out HS.out (Kd.C_below HR1.out HB.out) HC1.out HM.out (Kd.C_below HR2.out HB.out) HC2.out HSM.out.2.1 (Kd.C_below HR3.out HB.out) HC3.out HE.out HL3.out).mono ?_
  rintro x w1 ⟨hb, hres⟩
  have K0 : w1.heap[w.heap.size]? = some (.cells #[.slice A0 l0.length c0, .int .i64 d, .int .i64 c, .slice A1 l1.length c1, .int .i64 h, .slice A2 l2.length c2, .int .i64 a, .int .i64 b] 32 (0, 0)) := by
    have := blk_below (blk_alloc (blk_alloc (blk_new (w) (.cells #[.slice A0 l0.length c0, .int .i64 d, .int .i64 c, .slice A1 l1.length c1, .int .i64 h, .slice A2 l2.length c2, .int .i64 a, .int .i64 b] 32)) (.cells #[.int .i64 e0, .int .i64 e1, .string e2, .slice A3 l3.length c3] 35)) (.cells #[.slice none 0 0, .int .i64 0, .int .i64 0, .slice none 0 0, .int .i64 0, .slice none 0 0, .int .i64 0, .int .i64 0] 32)) hb
    simpa using this
  have K2 : w1.heap[w.heap.size + 1 + 1]? = some (.cells #[.slice none 0 0, .int .i64 0, .int .i64 0, .slice none 0 0, .int .i64 0, .slice none 0 0, .int .i64 0, .int .i64 0] 32 (0, 0)) := by
    have := blk_below (blk_new (((w).alloc (.cells #[.slice A0 l0.length c0, .int .i64 d, .int .i64 c, .slice A1 l1.length c1, .int .i64 h, .slice A2 l2.length c2, .int .i64 a, .int .i64 b] 32)).alloc (.cells #[.int .i64 e0, .int .i64 e1, .string e2, .slice A3 l3.length c3] 35)) (.cells #[.slice none 0 0, .int .i64 0, .int .i64 0, .slice none 0 0, .int .i64 0, .slice none 0 0, .int .i64 0, .int .i64 0] 32)) hb
    simpa using this
  have HZ := Aside0.mk (show (((w.alloc (.cells #[.slice A0 l0.length c0, .int .i64 d, .int .i64 c, .slice A1 l1.length c1, .int .i64 h, .slice A2 l2.length c2, .int .i64 a, .int .i64 b] 32)).alloc (.cells #[.int .i64 e0, .int .i64 e1, .string e2, .slice A3 l3.length c3] 35)).alloc (.cells #[.slice none 0 0, .int .i64 0, .int .i64 0, .slice none 0 0, .int .i64 0, .slice none 0 0, .int .i64 0, .int .i64 0] 32)).heap.size = w.heap.size + 1 + 1 + 1 by simp)
  have HB1 := Aside0.mk (below_into (w := w) hb HB.out)
  replace SN := Aside0.mk (SN.out.below hb rfl)
  have z_w1 : w.heap.size + 1 + 1 < w1.heap.size := blk_lt K2
  clear hb HB
  have f0 : w1.cell? ⟨w.heap.size, 0, none⟩ = some (.slice A0 l0.length c0) := (blk_cell K0 0).trans rfl
  have f1 : w1.cell? ⟨w.heap.size, 1, none⟩ = some (.int .i64 d) := (blk_cell K0 1).trans rfl
  have f2 : w1.cell? ⟨w.heap.size, 2, none⟩ = some (.int .i64 c) := (blk_cell K0 2).trans rfl
  have f3 : w1.cell? ⟨w.heap.size, 3, none⟩ = some (.slice A1 l1.length c1) := (blk_cell K0 3).trans rfl
  have f4 : w1.cell? ⟨w.heap.size, 4, none⟩ = some (.int .i64 h) := (blk_cell K0 4).trans rfl
  have f5 : w1.cell? ⟨w.heap.size, 5, none⟩ = some (.slice A2 l2.length c2) := (blk_cell K0 5).trans rfl
  have f6 : w1.cell? ⟨w.heap.size, 6, none⟩ = some (.int .i64 a) := (blk_cell K0 6).trans rfl
  have f7 : w1.cell? ⟨w.heap.size, 7, none⟩ = some (.int .i64 b) := (blk_cell K0 7).trans rfl
  have y0 : w1.cell? ⟨w.heap.size + 1 + 1, 0, none⟩ = some (.slice none 0 0) := (blk_cell K2 0).trans rfl
  have yf0 := blk_frozen K2 0
  have y1 : w1.cell? ⟨w.heap.size + 1 + 1, 1, none⟩ = some (.int .i64 0) := (blk_cell K2 1).trans rfl
  have yf1 := blk_frozen K2 1
  have y2 : w1.cell? ⟨w.heap.size + 1 + 1, 2, none⟩ = some (.int .i64 0) := (blk_cell K2 2).trans rfl
  have yf2 := blk_frozen K2 2
  have y3 : w1.cell? ⟨w.heap.size + 1 + 1, 3, none⟩ = some (.slice none 0 0) := (blk_cell K2 3).trans rfl
  have yf3 := blk_frozen K2 3
  have y4 : w1.cell? ⟨w.heap.size + 1 + 1, 4, none⟩ = some (.int .i64 0) := (blk_cell K2 4).trans rfl
  have yf4 := blk_frozen K2 4
  have y5 : w1.cell? ⟨w.heap.size + 1 + 1, 5, none⟩ = some (.slice none 0 0) := (blk_cell K2 5).trans rfl
  have yf5 := blk_frozen K2 5
  have y6 : w1.cell? ⟨w.heap.size + 1 + 1, 6, none⟩ = some (.int .i64 0) := (blk_cell K2 6).trans rfl
  have yf6 := blk_frozen K2 6
  have y7 : w1.cell? ⟨w.heap.size + 1 + 1, 7, none⟩ = some (.int .i64 0) := (blk_cell K2 7).trans rfl
  have yf7 := blk_frozen K2 7
  have LK2 := Aside0.mk K2
  clear K0 K2
  rcases hres with ⟨hc, v0, rfl, hO⟩ | ⟨k, hk, hc, pb, hpb, rfl, hcell⟩
  · have HN := Aside0.mk (show recR ⟨l0, d, c, l1, h, l2, a, b⟩ ⟨e0, e1, e2, l3⟩ = (⟨l0, d, c, l1 ++ [⟨e0, e1, e2, l3⟩], headV (l1 ++ [⟨e0, e1, e2, l3⟩]), l2, a, b⟩, 0) by unfold recR; rw [if_neg (show ¬ recC l0 d c l1 h l2 a b ⟨e0, e1, e2, l3⟩ = 1 by omega), if_pos (show recC l0 d c l1 h l2 a b ⟨e0, e1, e2, l3⟩ = 0 from hc)])
    clear hc
    obtain ⟨v0A, v0c, rfl⟩ := Kd.S_slice hO
    have RO := Aside0.mk (Kd.S_lower (Kd.S_mono (ok' := fun k => w.heap.size + 1 + 1 + 1 ≤ k) (Kd.S_bound hO) (fun k hk => by have := hk.2.1; rw [HZ.out] at this; exact this)) (show w.heap.size ≤ _ by rw [HZ.out]; omega))
    have hlen : (l1 ++ [(⟨e0, e1, e2, l3⟩ : Ent)]).length = l1.length + 1 := by rw [List.length_append]; rfl
    rw [hlen] at RO hO ⊢
    clear hO
    generalize headV (l1 ++ [⟨e0, e1, e2, l3⟩]) = hv at *
    go_wp2_with fail
    refine (codeOf_nil A _ (SN.out.below (below_alloc (Below.refl _ _) _) rfl)).mono ?_
    rintro x w' ⟨rfl, rfl⟩
    have hb := below_alloc (Below.refl w1.heap.size w1) (.cells #[.slice v0A (l1.length + 1) v0c, .int .i64 hv] 29)
    have m0 : (w1.alloc (.cells #[.slice v0A (l1.length + 1) v0c, .int .i64 hv] 29)).cell? ⟨w1.heap.size, 0, none⟩ = some (.slice v0A (l1.length + 1) v0c) := by go_simp
    have m1 : (w1.alloc (.cells #[.slice v0A (l1.length + 1) v0c, .int .i64 hv] 29)).cell? ⟨w1.heap.size, 1, none⟩ = some (.int .i64 hv) := by go_simp
    generalize w1.alloc (.cells #[.slice v0A (l1.length + 1) v0c, .int .i64 hv] 29) = w2 at *
    replace f0 := pw_cell_below hb f0
    replace f1 := pw_cell_below hb f1
    replace f2 := pw_cell_below hb f2
    replace f3 := pw_cell_below hb f3
    replace f4 := pw_cell_below hb f4
    replace f5 := pw_cell_below hb f5
    replace f6 := pw_cell_below hb f6
    replace f7 := pw_cell_below hb f7
    replace y0 := pw_cell_below hb y0
    replace yf0 := (hb.frozen (p := ⟨w.heap.size + 1 + 1, 0, none⟩) z_w1).trans yf0
    replace y1 := pw_cell_below hb y1
    replace yf1 := (hb.frozen (p := ⟨w.heap.size + 1 + 1, 1, none⟩) z_w1).trans yf1
    replace y2 := pw_cell_below hb y2
    replace yf2 := (hb.frozen (p := ⟨w.heap.size + 1 + 1, 2, none⟩) z_w1).trans yf2
    replace y3 := pw_cell_below hb y3
    replace yf3 := (hb.frozen (p := ⟨w.heap.size + 1 + 1, 3, none⟩) z_w1).trans yf3
    replace y4 := pw_cell_below hb y4
    replace yf4 := (hb.frozen (p := ⟨w.heap.size + 1 + 1, 4, none⟩) z_w1).trans yf4
    replace y5 := pw_cell_below hb y5
    replace yf5 := (hb.frozen (p := ⟨w.heap.size + 1 + 1, 5, none⟩) z_w1).trans yf5
    replace y6 := pw_cell_below hb y6
    replace yf6 := (hb.frozen (p := ⟨w.heap.size + 1 + 1, 6, none⟩) z_w1).trans yf6
    replace y7 := pw_cell_below hb y7
    replace yf7 := (hb.frozen (p := ⟨w.heap.size + 1 + 1, 7, none⟩) z_w1).trans yf7
    replace LK2 := Aside0.mk (blk_below LK2.out hb)
    replace SN := Aside0.mk (SN.out.below hb rfl)
    have HB2 := Aside0.mk (below_into (w := w) hb HB1.out)
    have zz_w2 := hb.size
    have z_w2 : w.heap.size + 1 + 1 < w2.heap.size := blk_lt LK2.out
    replace RO := Aside0.mk (Kd.S_below RO.out hb)
    clear hb
    go_wp2_with fail
    refine (impl_copyBooks.calls A0 c0 l0 d c A1 c1 l1 h A2 c2 l2 a b l0 d c l1 h l2 a b _ (Kd.C_below HR0.out HB2.out) HC0.out (Kd.C_below HR1.out HB2.out) HC1.out (Kd.C_below HR2.out HB2.out) HC2.out (copyBooks_is HSM.out)).mono ?_
    rintro x w3 ⟨v0, v3, v5, rfl, hR0, hR3, hR5, hb⟩
    replace f0 := pw_cell_below hb f0
    replace f1 := pw_cell_below hb f1
    replace f2 := pw_cell_below hb f2
    replace f3 := pw_cell_below hb f3
    replace f4 := pw_cell_below hb f4
    replace f5 := pw_cell_below hb f5
    replace f6 := pw_cell_below hb f6
    replace f7 := pw_cell_below hb f7
    replace y0 := pw_cell_below hb y0
    replace yf0 := (hb.frozen (p := ⟨w.heap.size + 1 + 1, 0, none⟩) z_w2).trans yf0
    replace y1 := pw_cell_below hb y1
    replace yf1 := (hb.frozen (p := ⟨w.heap.size + 1 + 1, 1, none⟩) z_w2).trans yf1
    replace y2 := pw_cell_below hb y2
    replace yf2 := (hb.frozen (p := ⟨w.heap.size + 1 + 1, 2, none⟩) z_w2).trans yf2
    replace y3 := pw_cell_below hb y3
    replace yf3 := (hb.frozen (p := ⟨w.heap.size + 1 + 1, 3, none⟩) z_w2).trans yf3
    replace y4 := pw_cell_below hb y4
    replace yf4 := (hb.frozen (p := ⟨w.heap.size + 1 + 1, 4, none⟩) z_w2).trans yf4
    replace y5 := pw_cell_below hb y5
    replace yf5 := (hb.frozen (p := ⟨w.heap.size + 1 + 1, 5, none⟩) z_w2).trans yf5
    replace y6 := pw_cell_below hb y6
    replace yf6 := (hb.frozen (p := ⟨w.heap.size + 1 + 1, 6, none⟩) z_w2).trans yf6
    replace y7 := pw_cell_below hb y7
    replace yf7 := (hb.frozen (p := ⟨w.heap.size + 1 + 1, 7, none⟩) z_w2).trans yf7
    replace m0 := pw_cell_below hb m0
    replace m1 := pw_cell_below hb m1
    replace LK2 := Aside0.mk (blk_below LK2.out hb)
    replace SN := Aside0.mk (SN.out.below hb rfl)
    have HB3 := Aside0.mk (below_into (w := w) hb HB2.out)
    have zz_w3 := hb.size
    have z_w3 : w.heap.size + 1 + 1 < w3.heap.size := blk_lt LK2.out
    replace RO := Aside0.mk (Kd.S_below RO.out hb)
    clear hb
    have zm := World.block_lt_of_cell? _ _ m0
    have zn : ¬ w1.heap.size = w3.heap.size := by simp only at zm; omega
    obtain ⟨B0, b0, rfl⟩ := Kd.R_slice hR0
    obtain ⟨B1, b1, rfl⟩ := Kd.S_slice hR3
    obtain ⟨B2, b2, rfl⟩ := Kd.R_slice hR5
    have RR0 := Aside0.mk (Kd.R_lower (Kd.R_mono (ok' := fun k => w2.heap.size ≤ k) (Kd.R_bound hR0) (fun k hk => hk.2.1)) (show w.heap.size ≤ w2.heap.size by omega))
    have RR1 := Aside0.mk (Kd.S_lower (Kd.S_mono (ok' := fun k => w2.heap.size ≤ k) (Kd.S_bound hR3) (fun k hk => hk.2.1)) (show w.heap.size ≤ w2.heap.size by omega))
    have RR2 := Aside0.mk (Kd.R_lower (Kd.R_mono (ok' := fun k => w2.heap.size ≤ k) (Kd.R_bound hR5) (fun k hk => hk.2.1)) (show w.heap.size ≤ w2.heap.size by omega))
    clear hR0 hR3 hR5
    go_wp2_with fail
    rw [HN.out]
    refine bodyPost_ret (results_ct rfl _ _ (w.heap.size + 1 + 1) 32 #[.slice B0 l0.length b0, .int .i64 d, .int .i64 c, .slice v0A (l1.length + 1) v0c, .int .i64 hv, .slice B2 l2.length b2, .int .i64 a, .int .i64 b] (0, 0) _ rfl (by exact blk_alloc (blk8 LK2.out _ _ _ _ _ _ _ _) _) Tryd.underlying32 rfl (by kernel_rfl)) rfl ?_
    exact ⟨_, _, _, rfl, ⟨Kd.R_mono (Kd.R_alloc (R_set8 RR0.out (fun k hk => by omega) _ _ _ _ _ _ _ _) _) (fun _ _ => trivial), Kd.S_mono (Kd.S_alloc (S_set8 RO.out (fun k hk => by omega) _ _ _ _ _ _ _ _) _) (fun _ _ => trivial), Kd.R_mono (Kd.R_alloc (R_set8 RR2.out (fun k hk => by omega) _ _ _ _ _ _ _ _) _) (fun _ _ => trivial)⟩, below_alloc (below_set8 HB3.out (by omega) _ _ _ _ _ _ _ _) _⟩
  · have hO := hcell
    clear hO
    have hb := below_alloc (Below.refl w1.heap.size w1) (.cells #[.slice none 0 0, .int .i64 0] 29)
    have hcell2 := pw_cell_below hb hcell
    clear hcell
    have HGO : ∀ n : Int, recC l0 d c l1 h l2 a b ⟨e0, e1, e2, l3⟩ = n + 1 → 0 < n → recR ⟨l0, d, c, l1, h, l2, a, b⟩ ⟨e0, e1, e2, l3⟩ = (⟨l0, d, c, l1, h, l2, a, b⟩, n + 1) := by
      intro n hn h0
      unfold recR
      simp only [hn]
      rw [if_neg (by omega), if_neg (by omega)]
    replace HGO := Aside0.mk HGO
    match k, hk, hc, hcell2 with
    | 0, _, hc, hcell2 =>
      go_wp2_with fail
      refine (codeOf_0 A pb _ (SN.out.below hb rfl) hcell2).mono ?_
      rintro x w' ⟨rfl, rfl⟩
      clear hcell2
      generalize w1.alloc (.cells #[.slice none 0 0, .int .i64 0] 29) = w2 at *
      replace f0 := pw_cell_below hb f0
      replace f1 := pw_cell_below hb f1
      replace f2 := pw_cell_below hb f2
      replace f3 := pw_cell_below hb f3
      replace f4 := pw_cell_below hb f4
      replace f5 := pw_cell_below hb f5
      replace f6 := pw_cell_below hb f6
      replace f7 := pw_cell_below hb f7
      replace y0 := pw_cell_below hb y0
      replace yf0 := (hb.frozen (p := ⟨w.heap.size + 1 + 1, 0, none⟩) z_w1).trans yf0
      replace y1 := pw_cell_below hb y1
      replace yf1 := (hb.frozen (p := ⟨w.heap.size + 1 + 1, 1, none⟩) z_w1).trans yf1
      replace y2 := pw_cell_below hb y2
      replace yf2 := (hb.frozen (p := ⟨w.heap.size + 1 + 1, 2, none⟩) z_w1).trans yf2
      replace y3 := pw_cell_below hb y3
      replace yf3 := (hb.frozen (p := ⟨w.heap.size + 1 + 1, 3, none⟩) z_w1).trans yf3
      replace y4 := pw_cell_below hb y4
      replace yf4 := (hb.frozen (p := ⟨w.heap.size + 1 + 1, 4, none⟩) z_w1).trans yf4
      replace y5 := pw_cell_below hb y5
      replace yf5 := (hb.frozen (p := ⟨w.heap.size + 1 + 1, 5, none⟩) z_w1).trans yf5
      replace y6 := pw_cell_below hb y6
      replace yf6 := (hb.frozen (p := ⟨w.heap.size + 1 + 1, 6, none⟩) z_w1).trans yf6
      replace y7 := pw_cell_below hb y7
      replace yf7 := (hb.frozen (p := ⟨w.heap.size + 1 + 1, 7, none⟩) z_w1).trans yf7
      replace LK2 := Aside0.mk (blk_below LK2.out hb)
      replace SN := Aside0.mk (SN.out.below hb rfl)
      have HB2 := Aside0.mk (below_into (w := w) hb HB1.out)
      have zz_w2 := hb.size
      have z_w2 : w.heap.size + 1 + 1 < w2.heap.size := blk_lt LK2.out
      clear hb
      have HN := Aside0.mk (show recR ⟨l0, d, c, l1, h, l2, a, b⟩ ⟨e0, e1, e2, l3⟩ = (Bk.none, 1) from if_pos hc)
      clear hc HGO
      go_wp2_with fail
      rw [HN.out]
      refine bodyPost_ret (results_ct rfl _ _ (w.heap.size + 1 + 1) 32 #[.slice none 0 0, .int .i64 0, .int .i64 0, .slice none 0 0, .int .i64 0, .slice none 0 0, .int .i64 0, .int .i64 0] (0, 0) _ rfl (by exact blk8 LK2.out _ _ _ _ _ _ _ _) Tryd.underlying32 rfl (by kernel_rfl)) rfl ?_
      exact ⟨.slice none 0 0, .slice none 0 0, .slice none 0 0, rfl, ⟨Kd.R_nil _ _ _ _ _, Kd.S_nil _ _ _ _ _, Kd.R_nil _ _ _ _ _⟩, below_set8 HB2.out (by omega) _ _ _ _ _ _ _ _⟩
    | 1, _, hc, hcell2 =>
      go_wp2_with fail
      refine (codeOf_1 A pb _ (SN.out.below hb rfl) hcell2).mono ?_
      rintro x w' ⟨rfl, rfl⟩
      clear hcell2
      generalize w1.alloc (.cells #[.slice none 0 0, .int .i64 0] 29) = w2 at *
      replace f0 := pw_cell_below hb f0
      replace f1 := pw_cell_below hb f1
      replace f2 := pw_cell_below hb f2
      replace f3 := pw_cell_below hb f3
      replace f4 := pw_cell_below hb f4
      replace f5 := pw_cell_below hb f5
      replace f6 := pw_cell_below hb f6
      replace f7 := pw_cell_below hb f7
      replace y0 := pw_cell_below hb y0
      replace yf0 := (hb.frozen (p := ⟨w.heap.size + 1 + 1, 0, none⟩) z_w1).trans yf0
      replace y1 := pw_cell_below hb y1
      replace yf1 := (hb.frozen (p := ⟨w.heap.size + 1 + 1, 1, none⟩) z_w1).trans yf1
      replace y2 := pw_cell_below hb y2
      replace yf2 := (hb.frozen (p := ⟨w.heap.size + 1 + 1, 2, none⟩) z_w1).trans yf2
      replace y3 := pw_cell_below hb y3
      replace yf3 := (hb.frozen (p := ⟨w.heap.size + 1 + 1, 3, none⟩) z_w1).trans yf3
      replace y4 := pw_cell_below hb y4
      replace yf4 := (hb.frozen (p := ⟨w.heap.size + 1 + 1, 4, none⟩) z_w1).trans yf4
      replace y5 := pw_cell_below hb y5
      replace yf5 := (hb.frozen (p := ⟨w.heap.size + 1 + 1, 5, none⟩) z_w1).trans yf5
      replace y6 := pw_cell_below hb y6
      replace yf6 := (hb.frozen (p := ⟨w.heap.size + 1 + 1, 6, none⟩) z_w1).trans yf6
      replace y7 := pw_cell_below hb y7
      replace yf7 := (hb.frozen (p := ⟨w.heap.size + 1 + 1, 7, none⟩) z_w1).trans yf7
      replace LK2 := Aside0.mk (blk_below LK2.out hb)
      replace SN := Aside0.mk (SN.out.below hb rfl)
      have HB2 := Aside0.mk (below_into (w := w) hb HB1.out)
      have zz_w2 := hb.size
      have z_w2 : w.heap.size + 1 + 1 < w2.heap.size := blk_lt LK2.out
      clear hb
      have HN := Aside0.mk (show recR ⟨l0, d, c, l1, h, l2, a, b⟩ ⟨e0, e1, e2, l3⟩ = (⟨l0, d, c, l1, h, l2, a, b⟩, 2) from HGO.out 1 hc (by omega))
      clear hc HGO
      go_wp2_with fail
      refine (impl_copyBooks.calls A0 c0 l0 d c A1 c1 l1 h A2 c2 l2 a b l0 d c l1 h l2 a b _ (Kd.C_below HR0.out HB2.out) HC0.out (Kd.C_below HR1.out HB2.out) HC1.out (Kd.C_below HR2.out HB2.out) HC2.out (copyBooks_is HSM.out)).mono ?_
      rintro x w3 ⟨v0, v3, v5, rfl, hR0, hR3, hR5, hb⟩
      replace f0 := pw_cell_below hb f0
      replace f1 := pw_cell_below hb f1
      replace f2 := pw_cell_below hb f2
      replace f3 := pw_cell_below hb f3
      replace f4 := pw_cell_below hb f4
      replace f5 := pw_cell_below hb f5
      replace f6 := pw_cell_below hb f6
      replace f7 := pw_cell_below hb f7
      replace y0 := pw_cell_below hb y0
      replace yf0 := (hb.frozen (p := ⟨w.heap.size + 1 + 1, 0, none⟩) z_w2).trans yf0
      replace y1 := pw_cell_below hb y1
      replace yf1 := (hb.frozen (p := ⟨w.heap.size + 1 + 1, 1, none⟩) z_w2).trans yf1
      replace y2 := pw_cell_below hb y2
      replace yf2 := (hb.frozen (p := ⟨w.heap.size + 1 + 1, 2, none⟩) z_w2).trans yf2
      replace y3 := pw_cell_below hb y3
      replace yf3 := (hb.frozen (p := ⟨w.heap.size + 1 + 1, 3, none⟩) z_w2).trans yf3
      replace y4 := pw_cell_below hb y4
      replace yf4 := (hb.frozen (p := ⟨w.heap.size + 1 + 1, 4, none⟩) z_w2).trans yf4
      replace y5 := pw_cell_below hb y5
      replace yf5 := (hb.frozen (p := ⟨w.heap.size + 1 + 1, 5, none⟩) z_w2).trans yf5
      replace y6 := pw_cell_below hb y6
      replace yf6 := (hb.frozen (p := ⟨w.heap.size + 1 + 1, 6, none⟩) z_w2).trans yf6
      replace y7 := pw_cell_below hb y7
      replace yf7 := (hb.frozen (p := ⟨w.heap.size + 1 + 1, 7, none⟩) z_w2).trans yf7
      replace LK2 := Aside0.mk (blk_below LK2.out hb)
      replace SN := Aside0.mk (SN.out.below hb rfl)
      have HB3 := Aside0.mk (below_into (w := w) hb HB2.out)
      have zz_w3 := hb.size
      have z_w3 : w.heap.size + 1 + 1 < w3.heap.size := blk_lt LK2.out
      clear hb
      obtain ⟨B0, b0, rfl⟩ := Kd.R_slice hR0
      obtain ⟨B1, b1, rfl⟩ := Kd.S_slice hR3
      obtain ⟨B2, b2, rfl⟩ := Kd.R_slice hR5
      have RR0 := Aside0.mk (Kd.R_lower (Kd.R_mono (ok' := fun k => w2.heap.size ≤ k) (Kd.R_bound hR0) (fun k hk => hk.2.1)) (show w.heap.size ≤ w2.heap.size by omega))
      have RR1 := Aside0.mk (Kd.S_lower (Kd.S_mono (ok' := fun k => w2.heap.size ≤ k) (Kd.S_bound hR3) (fun k hk => hk.2.1)) (show w.heap.size ≤ w2.heap.size by omega))
      have RR2 := Aside0.mk (Kd.R_lower (Kd.R_mono (ok' := fun k => w2.heap.size ≤ k) (Kd.R_bound hR5) (fun k hk => hk.2.1)) (show w.heap.size ≤ w2.heap.size by omega))
      clear hR0 hR3 hR5
      go_wp2_with fail
      rw [HN.out]
      refine bodyPost_ret (results_ct rfl _ _ (w.heap.size + 1 + 1) 32 #[.slice B0 l0.length b0, .int .i64 d, .int .i64 c, .slice B1 l1.length b1, .int .i64 h, .slice B2 l2.length b2, .int .i64 a, .int .i64 b] (0, 0) _ rfl (by exact blk_alloc (blk8 LK2.out _ _ _ _ _ _ _ _) _) Tryd.underlying32 rfl (by kernel_rfl)) rfl ?_
      exact ⟨_, _, _, rfl, ⟨Kd.R_mono (Kd.R_alloc (R_set8 RR0.out (fun k hk => by omega) _ _ _ _ _ _ _ _) _) (fun _ _ => trivial), Kd.S_mono (Kd.S_alloc (S_set8 RR1.out (fun k hk => by omega) _ _ _ _ _ _ _ _) _) (fun _ _ => trivial), Kd.R_mono (Kd.R_alloc (R_set8 RR2.out (fun k hk => by omega) _ _ _ _ _ _ _ _) _) (fun _ _ => trivial)⟩, below_alloc (below_set8 HB3.out (by omega) _ _ _ _ _ _ _ _) _⟩
    | 2, _, hc, hcell2 =>
      go_wp2_with fail
      refine (codeOf_2 A pb _ (SN.out.below hb rfl) hcell2).mono ?_
      rintro x w' ⟨rfl, rfl⟩
      clear hcell2
      generalize w1.alloc (.cells #[.slice none 0 0, .int .i64 0] 29) = w2 at *
      replace f0 := pw_cell_below hb f0
      replace f1 := pw_cell_below hb f1
      replace f2 := pw_cell_below hb f2
      replace f3 := pw_cell_below hb f3
      replace f4 := pw_cell_below hb f4
      replace f5 := pw_cell_below hb f5
      replace f6 := pw_cell_below hb f6
      replace f7 := pw_cell_below hb f7
      replace y0 := pw_cell_below hb y0
      replace yf0 := (hb.frozen (p := ⟨w.heap.size + 1 + 1, 0, none⟩) z_w1).trans yf0
      replace y1 := pw_cell_below hb y1
      replace yf1 := (hb.frozen (p := ⟨w.heap.size + 1 + 1, 1, none⟩) z_w1).trans yf1
      replace y2 := pw_cell_below hb y2
      replace yf2 := (hb.frozen (p := ⟨w.heap.size + 1 + 1, 2, none⟩) z_w1).trans yf2
      replace y3 := pw_cell_below hb y3
      replace yf3 := (hb.frozen (p := ⟨w.heap.size + 1 + 1, 3, none⟩) z_w1).trans yf3
      replace y4 := pw_cell_below hb y4
      replace yf4 := (hb.frozen (p := ⟨w.heap.size + 1 + 1, 4, none⟩) z_w1).trans yf4
      replace y5 := pw_cell_below hb y5
      replace yf5 := (hb.frozen (p := ⟨w.heap.size + 1 + 1, 5, none⟩) z_w1).trans yf5
      replace y6 := pw_cell_below hb y6
      replace yf6 := (hb.frozen (p := ⟨w.heap.size + 1 + 1, 6, none⟩) z_w1).trans yf6
      replace y7 := pw_cell_below hb y7
      replace yf7 := (hb.frozen (p := ⟨w.heap.size + 1 + 1, 7, none⟩) z_w1).trans yf7
      replace LK2 := Aside0.mk (blk_below LK2.out hb)
      replace SN := Aside0.mk (SN.out.below hb rfl)
      have HB2 := Aside0.mk (below_into (w := w) hb HB1.out)
      have zz_w2 := hb.size
      have z_w2 : w.heap.size + 1 + 1 < w2.heap.size := blk_lt LK2.out
      clear hb
      have HN := Aside0.mk (show recR ⟨l0, d, c, l1, h, l2, a, b⟩ ⟨e0, e1, e2, l3⟩ = (⟨l0, d, c, l1, h, l2, a, b⟩, 3) from HGO.out 2 hc (by omega))
      clear hc HGO
      go_wp2_with fail
      refine (impl_copyBooks.calls A0 c0 l0 d c A1 c1 l1 h A2 c2 l2 a b l0 d c l1 h l2 a b _ (Kd.C_below HR0.out HB2.out) HC0.out (Kd.C_below HR1.out HB2.out) HC1.out (Kd.C_below HR2.out HB2.out) HC2.out (copyBooks_is HSM.out)).mono ?_
      rintro x w3 ⟨v0, v3, v5, rfl, hR0, hR3, hR5, hb⟩
      replace f0 := pw_cell_below hb f0
      replace f1 := pw_cell_below hb f1
      replace f2 := pw_cell_below hb f2
      replace f3 := pw_cell_below hb f3
      replace f4 := pw_cell_below hb f4
      replace f5 := pw_cell_below hb f5
      replace f6 := pw_cell_below hb f6
      replace f7 := pw_cell_below hb f7
      replace y0 := pw_cell_below hb y0
      replace yf0 := (hb.frozen (p := ⟨w.heap.size + 1 + 1, 0, none⟩) z_w2).trans yf0
      replace y1 := pw_cell_below hb y1
      replace yf1 := (hb.frozen (p := ⟨w.heap.size + 1 + 1, 1, none⟩) z_w2).trans yf1
      replace y2 := pw_cell_below hb y2
      replace yf2 := (hb.frozen (p := ⟨w.heap.size + 1 + 1, 2, none⟩) z_w2).trans yf2
      replace y3 := pw_cell_below hb y3
      replace yf3 := (hb.frozen (p := ⟨w.heap.size + 1 + 1, 3, none⟩) z_w2).trans yf3
      replace y4 := pw_cell_below hb y4
      replace yf4 := (hb.frozen (p := ⟨w.heap.size + 1 + 1, 4, none⟩) z_w2).trans yf4
      replace y5 := pw_cell_below hb y5
      replace yf5 := (hb.frozen (p := ⟨w.heap.size + 1 + 1, 5, none⟩) z_w2).trans yf5
      replace y6 := pw_cell_below hb y6
      replace yf6 := (hb.frozen (p := ⟨w.heap.size + 1 + 1, 6, none⟩) z_w2).trans yf6
      replace y7 := pw_cell_below hb y7
      replace yf7 := (hb.frozen (p := ⟨w.heap.size + 1 + 1, 7, none⟩) z_w2).trans yf7
      replace LK2 := Aside0.mk (blk_below LK2.out hb)
      replace SN := Aside0.mk (SN.out.below hb rfl)
      have HB3 := Aside0.mk (below_into (w := w) hb HB2.out)
      have zz_w3 := hb.size
      have z_w3 : w.heap.size + 1 + 1 < w3.heap.size := blk_lt LK2.out
      clear hb
      obtain ⟨B0, b0, rfl⟩ := Kd.R_slice hR0
      obtain ⟨B1, b1, rfl⟩ := Kd.S_slice hR3
      obtain ⟨B2, b2, rfl⟩ := Kd.R_slice hR5
      have RR0 := Aside0.mk (Kd.R_lower (Kd.R_mono (ok' := fun k => w2.heap.size ≤ k) (Kd.R_bound hR0) (fun k hk => hk.2.1)) (show w.heap.size ≤ w2.heap.size by omega))
      have RR1 := Aside0.mk (Kd.S_lower (Kd.S_mono (ok' := fun k => w2.heap.size ≤ k) (Kd.S_bound hR3) (fun k hk => hk.2.1)) (show w.heap.size ≤ w2.heap.size by omega))
      have RR2 := Aside0.mk (Kd.R_lower (Kd.R_mono (ok' := fun k => w2.heap.size ≤ k) (Kd.R_bound hR5) (fun k hk => hk.2.1)) (show w.heap.size ≤ w2.heap.size by omega))
      clear hR0 hR3 hR5
      go_wp2_with fail
      rw [HN.out]
      refine bodyPost_ret (results_ct rfl _ _ (w.heap.size + 1 + 1) 32 #[.slice B0 l0.length b0, .int .i64 d, .int .i64 c, .slice B1 l1.length b1, .int .i64 h, .slice B2 l2.length b2, .int .i64 a, .int .i64 b] (0, 0) _ rfl (by exact blk_alloc (blk8 LK2.out _ _ _ _ _ _ _ _) _) Tryd.underlying32 rfl (by kernel_rfl)) rfl ?_
      exact ⟨_, _, _, rfl, ⟨Kd.R_mono (Kd.R_alloc (R_set8 RR0.out (fun k hk => by omega) _ _ _ _ _ _ _ _) _) (fun _ _ => trivial), Kd.S_mono (Kd.S_alloc (S_set8 RR1.out (fun k hk => by omega) _ _ _ _ _ _ _ _) _) (fun _ _ => trivial), Kd.R_mono (Kd.R_alloc (R_set8 RR2.out (fun k hk => by omega) _ _ _ _ _ _ _ _) _) (fun _ _ => trivial)⟩, below_alloc (below_set8 HB3.out (by omega) _ _ _ _ _ _ _ _) _⟩
    | 3, _, hc, hcell2 =>
      go_wp2_with fail
      refine (codeOf_3 A pb _ (SN.out.below hb rfl) hcell2).mono ?_
      rintro x w' ⟨rfl, rfl⟩
      clear hcell2
      generalize w1.alloc (.cells #[.slice none 0 0, .int .i64 0] 29) = w2 at *
      replace f0 := pw_cell_below hb f0
      replace f1 := pw_cell_below hb f1
      replace f2 := pw_cell_below hb f2
      replace f3 := pw_cell_below hb f3
      replace f4 := pw_cell_below hb f4
      replace f5 := pw_cell_below hb f5
      replace f6 := pw_cell_below hb f6
      replace f7 := pw_cell_below hb f7
      replace y0 := pw_cell_below hb y0
      replace yf0 := (hb.frozen (p := ⟨w.heap.size + 1 + 1, 0, none⟩) z_w1).trans yf0
      replace y1 := pw_cell_below hb y1
      replace yf1 := (hb.frozen (p := ⟨w.heap.size + 1 + 1, 1, none⟩) z_w1).trans yf1
      replace y2 := pw_cell_below hb y2
      replace yf2 := (hb.frozen (p := ⟨w.heap.size + 1 + 1, 2, none⟩) z_w1).trans yf2
      replace y3 := pw_cell_below hb y3
      replace yf3 := (hb.frozen (p := ⟨w.heap.size + 1 + 1, 3, none⟩) z_w1).trans yf3
      replace y4 := pw_cell_below hb y4
      replace yf4 := (hb.frozen (p := ⟨w.heap.size + 1 + 1, 4, none⟩) z_w1).trans yf4
      replace y5 := pw_cell_below hb y5
      replace yf5 := (hb.frozen (p := ⟨w.heap.size + 1 + 1, 5, none⟩) z_w1).trans yf5
      replace y6 := pw_cell_below hb y6
      replace yf6 := (hb.frozen (p := ⟨w.heap.size + 1 + 1, 6, none⟩) z_w1).trans yf6
      replace y7 := pw_cell_below hb y7
      replace yf7 := (hb.frozen (p := ⟨w.heap.size + 1 + 1, 7, none⟩) z_w1).trans yf7
      replace LK2 := Aside0.mk (blk_below LK2.out hb)
      replace SN := Aside0.mk (SN.out.below hb rfl)
      have HB2 := Aside0.mk (below_into (w := w) hb HB1.out)
      have zz_w2 := hb.size
      have z_w2 : w.heap.size + 1 + 1 < w2.heap.size := blk_lt LK2.out
      clear hb
      have HN := Aside0.mk (show recR ⟨l0, d, c, l1, h, l2, a, b⟩ ⟨e0, e1, e2, l3⟩ = (⟨l0, d, c, l1, h, l2, a, b⟩, 4) from HGO.out 3 hc (by omega))
      clear hc HGO
      go_wp2_with fail
      refine (impl_copyBooks.calls A0 c0 l0 d c A1 c1 l1 h A2 c2 l2 a b l0 d c l1 h l2 a b _ (Kd.C_below HR0.out HB2.out) HC0.out (Kd.C_below HR1.out HB2.out) HC1.out (Kd.C_below HR2.out HB2.out) HC2.out (copyBooks_is HSM.out)).mono ?_
      rintro x w3 ⟨v0, v3, v5, rfl, hR0, hR3, hR5, hb⟩
      replace f0 := pw_cell_below hb f0
      replace f1 := pw_cell_below hb f1
      replace f2 := pw_cell_below hb f2
      replace f3 := pw_cell_below hb f3
      replace f4 := pw_cell_below hb f4
      replace f5 := pw_cell_below hb f5
      replace f6 := pw_cell_below hb f6
      replace f7 := pw_cell_below hb f7
      replace y0 := pw_cell_below hb y0
      replace yf0 := (hb.frozen (p := ⟨w.heap.size + 1 + 1, 0, none⟩) z_w2).trans yf0
      replace y1 := pw_cell_below hb y1
      replace yf1 := (hb.frozen (p := ⟨w.heap.size + 1 + 1, 1, none⟩) z_w2).trans yf1
      replace y2 := pw_cell_below hb y2
      replace yf2 := (hb.frozen (p := ⟨w.heap.size + 1 + 1, 2, none⟩) z_w2).trans yf2
      replace y3 := pw_cell_below hb y3
      replace yf3 := (hb.frozen (p := ⟨w.heap.size + 1 + 1, 3, none⟩) z_w2).trans yf3
      replace y4 := pw_cell_below hb y4
      replace yf4 := (hb.frozen (p := ⟨w.heap.size + 1 + 1, 4, none⟩) z_w2).trans yf4
      replace y5 := pw_cell_below hb y5
      replace yf5 := (hb.frozen (p := ⟨w.heap.size + 1 + 1, 5, none⟩) z_w2).trans yf5
      replace y6 := pw_cell_below hb y6
      replace yf6 := (hb.frozen (p := ⟨w.heap.size + 1 + 1, 6, none⟩) z_w2).trans yf6
      replace y7 := pw_cell_below hb y7
      replace yf7 := (hb.frozen (p := ⟨w.heap.size + 1 + 1, 7, none⟩) z_w2).trans yf7
      replace LK2 := Aside0.mk (blk_below LK2.out hb)
      replace SN := Aside0.mk (SN.out.below hb rfl)
      have HB3 := Aside0.mk (below_into (w := w) hb HB2.out)
      have zz_w3 := hb.size
      have z_w3 : w.heap.size + 1 + 1 < w3.heap.size := blk_lt LK2.out
      clear hb
      obtain ⟨B0, b0, rfl⟩ := Kd.R_slice hR0
      obtain ⟨B1, b1, rfl⟩ := Kd.S_slice hR3
      obtain ⟨B2, b2, rfl⟩ := Kd.R_slice hR5
      have RR0 := Aside0.mk (Kd.R_lower (Kd.R_mono (ok' := fun k => w2.heap.size ≤ k) (Kd.R_bound hR0) (fun k hk => hk.2.1)) (show w.heap.size ≤ w2.heap.size by omega))
      have RR1 := Aside0.mk (Kd.S_lower (Kd.S_mono (ok' := fun k => w2.heap.size ≤ k) (Kd.S_bound hR3) (fun k hk => hk.2.1)) (show w.heap.size ≤ w2.heap.size by omega))
      have RR2 := Aside0.mk (Kd.R_lower (Kd.R_mono (ok' := fun k => w2.heap.size ≤ k) (Kd.R_bound hR5) (fun k hk => hk.2.1)) (show w.heap.size ≤ w2.heap.size by omega))
      clear hR0 hR3 hR5
      go_wp2_with fail
      rw [HN.out]
      refine bodyPost_ret (results_ct rfl _ _ (w.heap.size + 1 + 1) 32 #[.slice B0 l0.length b0, .int .i64 d, .int .i64 c, .slice B1 l1.length b1, .int .i64 h, .slice B2 l2.length b2, .int .i64 a, .int .i64 b] (0, 0) _ rfl (by exact blk_alloc (blk8 LK2.out _ _ _ _ _ _ _ _) _) Tryd.underlying32 rfl (by kernel_rfl)) rfl ?_
      exact ⟨_, _, _, rfl, ⟨Kd.R_mono (Kd.R_alloc (R_set8 RR0.out (fun k hk => by omega) _ _ _ _ _ _ _ _) _) (fun _ _ => trivial), Kd.S_mono (Kd.S_alloc (S_set8 RR1.out (fun k hk => by omega) _ _ _ _ _ _ _ _) _) (fun _ _ => trivial), Kd.R_mono (Kd.R_alloc (R_set8 RR2.out (fun k hk => by omega) _ _ _ _ _ _ _ _) _) (fun _ _ => trivial)⟩, below_alloc (below_set8 HB3.out (by omega) _ _ _ _ _ _ _ _) _⟩
    | 4, _, hc, hcell2 =>
      go_wp2_with fail
      refine (codeOf_4 A pb _ (SN.out.below hb rfl) hcell2).mono ?_
      rintro x w' ⟨rfl, rfl⟩
      clear hcell2
      generalize w1.alloc (.cells #[.slice none 0 0, .int .i64 0] 29) = w2 at *
      replace f0 := pw_cell_below hb f0
      replace f1 := pw_cell_below hb f1
      replace f2 := pw_cell_below hb f2
      replace f3 := pw_cell_below hb f3
      replace f4 := pw_cell_below hb f4
      replace f5 := pw_cell_below hb f5
      replace f6 := pw_cell_below hb f6
      replace f7 := pw_cell_below hb f7
      replace y0 := pw_cell_below hb y0
      replace yf0 := (hb.frozen (p := ⟨w.heap.size + 1 + 1, 0, none⟩) z_w1).trans yf0
      replace y1 := pw_cell_below hb y1
      replace yf1 := (hb.frozen (p := ⟨w.heap.size + 1 + 1, 1, none⟩) z_w1).trans yf1
      replace y2 := pw_cell_below hb y2
      replace yf2 := (hb.frozen (p := ⟨w.heap.size + 1 + 1, 2, none⟩) z_w1).trans yf2
      replace y3 := pw_cell_below hb y3
      replace yf3 := (hb.frozen (p := ⟨w.heap.size + 1 + 1, 3, none⟩) z_w1).trans yf3
      replace y4 := pw_cell_below hb y4
      replace yf4 := (hb.frozen (p := ⟨w.heap.size + 1 + 1, 4, none⟩) z_w1).trans yf4
      replace y5 := pw_cell_below hb y5
      replace yf5 := (hb.frozen (p := ⟨w.heap.size + 1 + 1, 5, none⟩) z_w1).trans yf5
      replace y6 := pw_cell_below hb y6
      replace yf6 := (hb.frozen (p := ⟨w.heap.size + 1 + 1, 6, none⟩) z_w1).trans yf6
      replace y7 := pw_cell_below hb y7
      replace yf7 := (hb.frozen (p := ⟨w.heap.size + 1 + 1, 7, none⟩) z_w1).trans yf7
      replace LK2 := Aside0.mk (blk_below LK2.out hb)
      replace SN := Aside0.mk (SN.out.below hb rfl)
      have HB2 := Aside0.mk (below_into (w := w) hb HB1.out)
      have zz_w2 := hb.size
      have z_w2 : w.heap.size + 1 + 1 < w2.heap.size := blk_lt LK2.out
      clear hb
      have HN := Aside0.mk (show recR ⟨l0, d, c, l1, h, l2, a, b⟩ ⟨e0, e1, e2, l3⟩ = (⟨l0, d, c, l1, h, l2, a, b⟩, 5) from HGO.out 4 hc (by omega))
      clear hc HGO
      go_wp2_with fail
      refine (impl_copyBooks.calls A0 c0 l0 d c A1 c1 l1 h A2 c2 l2 a b l0 d c l1 h l2 a b _ (Kd.C_below HR0.out HB2.out) HC0.out (Kd.C_below HR1.out HB2.out) HC1.out (Kd.C_below HR2.out HB2.out) HC2.out (copyBooks_is HSM.out)).mono ?_
      rintro x w3 ⟨v0, v3, v5, rfl, hR0, hR3, hR5, hb⟩
      replace f0 := pw_cell_below hb f0
      replace f1 := pw_cell_below hb f1
      replace f2 := pw_cell_below hb f2
      replace f3 := pw_cell_below hb f3
      replace f4 := pw_cell_below hb f4
      replace f5 := pw_cell_below hb f5
      replace f6 := pw_cell_below hb f6
      replace f7 := pw_cell_below hb f7
      replace y0 := pw_cell_below hb y0
      replace yf0 := (hb.frozen (p := ⟨w.heap.size + 1 + 1, 0, none⟩) z_w2).trans yf0
      replace y1 := pw_cell_below hb y1
      replace yf1 := (hb.frozen (p := ⟨w.heap.size + 1 + 1, 1, none⟩) z_w2).trans yf1
      replace y2 := pw_cell_below hb y2
      replace yf2 := (hb.frozen (p := ⟨w.heap.size + 1 + 1, 2, none⟩) z_w2).trans yf2
      replace y3 := pw_cell_below hb y3
      replace yf3 := (hb.frozen (p := ⟨w.heap.size + 1 + 1, 3, none⟩) z_w2).trans yf3
      replace y4 := pw_cell_below hb y4
      replace yf4 := (hb.frozen (p := ⟨w.heap.size + 1 + 1, 4, none⟩) z_w2).trans yf4
      replace y5 := pw_cell_below hb y5
      replace yf5 := (hb.frozen (p := ⟨w.heap.size + 1 + 1, 5, none⟩) z_w2).trans yf5
      replace y6 := pw_cell_below hb y6
      replace yf6 := (hb.frozen (p := ⟨w.heap.size + 1 + 1, 6, none⟩) z_w2).trans yf6
      replace y7 := pw_cell_below hb y7
      replace yf7 := (hb.frozen (p := ⟨w.heap.size + 1 + 1, 7, none⟩) z_w2).trans yf7
      replace LK2 := Aside0.mk (blk_below LK2.out hb)
      replace SN := Aside0.mk (SN.out.below hb rfl)
      have HB3 := Aside0.mk (below_into (w := w) hb HB2.out)
      have zz_w3 := hb.size
      have z_w3 : w.heap.size + 1 + 1 < w3.heap.size := blk_lt LK2.out
      clear hb
      obtain ⟨B0, b0, rfl⟩ := Kd.R_slice hR0
      obtain ⟨B1, b1, rfl⟩ := Kd.S_slice hR3
      obtain ⟨B2, b2, rfl⟩ := Kd.R_slice hR5
      have RR0 := Aside0.mk (Kd.R_lower (Kd.R_mono (ok' := fun k => w2.heap.size ≤ k) (Kd.R_bound hR0) (fun k hk => hk.2.1)) (show w.heap.size ≤ w2.heap.size by omega))
      have RR1 := Aside0.mk (Kd.S_lower (Kd.S_mono (ok' := fun k => w2.heap.size ≤ k) (Kd.S_bound hR3) (fun k hk => hk.2.1)) (show w.heap.size ≤ w2.heap.size by omega))
      have RR2 := Aside0.mk (Kd.R_lower (Kd.R_mono (ok' := fun k => w2.heap.size ≤ k) (Kd.R_bound hR5) (fun k hk => hk.2.1)) (show w.heap.size ≤ w2.heap.size by omega))
      clear hR0 hR3 hR5
      go_wp2_with fail
      rw [HN.out]
      refine bodyPost_ret (results_ct rfl _ _ (w.heap.size + 1 + 1) 32 #[.slice B0 l0.length b0, .int .i64 d, .int .i64 c, .slice B1 l1.length b1, .int .i64 h, .slice B2 l2.length b2, .int .i64 a, .int .i64 b] (0, 0) _ rfl (by exact blk_alloc (blk8 LK2.out _ _ _ _ _ _ _ _) _) Tryd.underlying32 rfl (by kernel_rfl)) rfl ?_
      exact ⟨_, _, _, rfl, ⟨Kd.R_mono (Kd.R_alloc (R_set8 RR0.out (fun k hk => by omega) _ _ _ _ _ _ _ _) _) (fun _ _ => trivial), Kd.S_mono (Kd.S_alloc (S_set8 RR1.out (fun k hk => by omega) _ _ _ _ _ _ _ _) _) (fun _ _ => trivial), Kd.R_mono (Kd.R_alloc (R_set8 RR2.out (fun k hk => by omega) _ _ _ _ _ _ _ _) _) (fun _ _ => trivial)⟩, below_alloc (below_set8 HB3.out (by omega) _ _ _ _ _ _ _ _) _⟩
theorem R_keepRow {α β : Type} {d : Kd α} {d2 : Kd β} {e e2 base base2 : Nat} {ok ok2 : Nat → Prop} {w w1 : World} {v v2 : Value} {xs : List α} {ys : List β} {g : Nat} (h : d.R e w base ok v xs) (h2 : d2.R e2 w base2 ok2 v2 ys) (hk : KeepBut w w1 g v2.ownBlock) (hok : ∀ k, ok k → k ≠ g) (ht : ∀ q, q ∈ e :: d.E → q ≠ e2) : d.R e w1 base ok v xs := by
  cases hv : v2.ownBlock with
  | none => rw [hv] at hk; exact Kd.R_step h (fun k ho hlt => hk.2 k hlt (hok k ho) (by simp))
  | some b =>
    obtain ⟨inner, hown⟩ := Kd.R_own h2
    obtain ⟨cells, hc⟩ := own_typed hown b hv
    rw [hv] at hk
    refine Kd.R_mono (Kd.R_step (Kd.R_types h hc ht) (fun k ho hlt => hk.2 k hlt (hok k ho.1) (fun e => ho.2 (by injection e)))) (fun _ hk => hk.1)
theorem S_keepRow {α β : Type} {d : Kd α} {d2 : Kd β} {e e2 base base2 : Nat} {ok ok2 : Nat → Prop} {w w1 : World} {v v2 : Value} {xs : List α} {ys : List β} {g : Nat} (h : Kd.S d e w base ok v xs) (h2 : d2.R e2 w base2 ok2 v2 ys) (hk : KeepBut w w1 g v2.ownBlock) (hok : ∀ k, ok k → k ≠ g) (ht : ∀ q, q ∈ e :: d.E → q ≠ e2) : Kd.S d e w1 base ok v xs := by
  cases hv : v2.ownBlock with
  | none => rw [hv] at hk; exact Kd.S_step h (fun k ho hlt => hk.2 k hlt (hok k ho) (by simp))
  | some b =>
    obtain ⟨inner, hown⟩ := Kd.R_own h2
    obtain ⟨cells, hc⟩ := own_typed hown b hv
    rw [hv] at hk
    refine Kd.S_mono (Kd.S_step (Kd.S_types h hc ht) (fun k ho hlt => hk.2 k hlt (hok k ho.1) (fun e => ho.2 (by injection e)))) (fun _ hk => hk.1)
theorem KeepBut.blkRow {w w1 : World} {g b : Nat} {row : Option Nat} {o : Obj} (hk : KeepBut w w1 g row) (h : w.heap[b]? = some o) (hne : b ≠ g) (hr : some b ≠ row) : w1.heap[b]? = some o := (hk.2 b (blk_lt h) hne hr).trans h
theorem DrewR.own {w0 w W W1 : World} {g : Nat} {c : List Int} {row : Option Nat} (h : DrewR w0 W W1 g c row) (k : Drew w0 w W g c) (hr : ∀ b, row = some b → w.heap.size ≤ b) : Drew w0 w W1 g c := by
  refine ⟨h.cur, h.bel, ⟨Nat.le_trans k.keep.1 h.keep.1, fun i hi hne _ => ?_⟩⟩
  refine (h.keep.2 i (Nat.lt_of_lt_of_le hi k.keep.1) hne (fun e => ?_)).trans (k.keep.2 i hi hne (by simp))
  have := hr i e.symm
  omega
end Go.Proofs.YtjkjjfbcakbmnaaDoor.Q
