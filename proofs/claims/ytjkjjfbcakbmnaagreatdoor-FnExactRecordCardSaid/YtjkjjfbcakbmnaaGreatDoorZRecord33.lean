/- Parts of the proof: what functions of the program and of the reference answer.
   No condition. -/
import Derived.Test.YtjkjjfbcakbmnaaGreatDoorZRecord1
import Derived.Test.YtjkjjfbcakbmnaaGreatDoorZRecord13
import Derived.Test.YtjkjjfbcakbmnaaGreatDoorZRecord8
import Derived.Test.YtjkjjfbcakbmnaaGreatDoorZRecord27
import Derived.Test.YtjkjjfbcakbmnaaGreatDoorZRecord24
import Derived.Test.YtjkjjfbcakbmnaaGreatDoorZRecord14
import Derived.Test.YtjkjjfbcakbmnaaGreatDoorZRecord10
import Derived.Test.YtjkjjfbcakbmnaaGreatDoorZRecord25
import Derived.Test.YtjkjjfbcakbmnaaGreatDoorZRecord15
import Derived.Test.YtjkjjfbcakbmnaaGreatDoorZRecord22
import Derived.Test.YtjkjjfbcakbmnaaGreatDoorZRecord11
import Derived.Test.YtjkjjfbcakbmnaaGreatDoorZRecord6
import Derived.Test.YtjkjjfbcakbmnaaGreatDoorZRecord26
import Derived.Test.YtjkjjfbcakbmnaaGreatDoorZRecord21
import Derived.Test.YtjkjjfbcakbmnaaGreatDoorZRecord23
import Derived.Test.YtjkjjfbcakbmnaaGreatDoorZRecord29
import Derived.Test.YtjkjjfbcakbmnaaGreatDoorZRecord31
import Derived.Test.YtjkjjfbcakbmnaaGreatDoorZRecord32
namespace Go.Proofs.YtjkjjfbcakbmnaaGreatDoor.Q
open Go.RowKit Go.Proofs.YtjkjjfbcakbmnaaGreatDoorW.PrintWords Go.Proofs.YtjkjjfbcakbmnaaGreatDoorW.PrintLast Go.Proofs.YtjkjjfbcakbmnaaGreatDoorW.PrintMore
set_option linter.unusedVariables false
set_option linter.unusedSimpArgs false
theorem R_put8 {α : Type} {dd : Kd α} {e base g t : Nat} {W : World} {ok : Nat → Prop} {v : Value} {xs : List α} {cells : Array Value} (h : dd.R e W base ok v xs) (hb : W.heap[g]? = some (.cells cells t (0, 0))) (ht : ∀ q, q ∈ e :: dd.E → q ≠ t) (u0 u1 u2 u3 u4 u5 u6 u7 : Value) : dd.R e ((((((((W.setCell ⟨g, 0, none⟩ u0).setCell ⟨g, 1, none⟩ u1).setCell ⟨g, 2, none⟩ u2).setCell ⟨g, 3, none⟩ u3).setCell ⟨g, 4, none⟩ u4).setCell ⟨g, 5, none⟩ u5).setCell ⟨g, 6, none⟩ u6).setCell ⟨g, 7, none⟩ u7) base ok v xs :=
  Kd.R_mono (ok := fun k => ok k ∧ k ≠ g) (R_set8 (Kd.R_types h hb ht) (fun _ hk => hk.2) _ _ _ _ _ _ _ _) (fun _ hk => hk.1)
theorem S_put8 {α : Type} {dd : Kd α} {e base g t : Nat} {W : World} {ok : Nat → Prop} {v : Value} {xs : List α} {cells : Array Value} (h : Kd.S dd e W base ok v xs) (hb : W.heap[g]? = some (.cells cells t (0, 0))) (ht : ∀ q, q ∈ e :: dd.E → q ≠ t) (u0 u1 u2 u3 u4 u5 u6 u7 : Value) : Kd.S dd e ((((((((W.setCell ⟨g, 0, none⟩ u0).setCell ⟨g, 1, none⟩ u1).setCell ⟨g, 2, none⟩ u2).setCell ⟨g, 3, none⟩ u3).setCell ⟨g, 4, none⟩ u4).setCell ⟨g, 5, none⟩ u5).setCell ⟨g, 6, none⟩ u6).setCell ⟨g, 7, none⟩ u7) base ok v xs :=
  Kd.S_mono (ok := fun k => ok k ∧ k ≠ g) (S_set8 (Kd.S_types h hb ht) (fun _ hk => hk.2) _ _ _ _ _ _ _ _) (fun _ hk => hk.1)
theorem recR_small {x : Bk} {e : Ent} (h : x.small) (he : e.f3.length ≤ 1048576) : (recR x e).1.small := by
  unfold recR
  split
  · exact ⟨by simp [Bk.none], ⟨by simp [Bk.none], fun y hy => by simp [Bk.none] at hy⟩, by simp [Bk.none]⟩
  · split
    · rename_i q
      have hB : booksB x.m0 x.d x.c x.m1 x.h x.m2 x.a x.b = true := by
        by_cases q1 : booksB x.m0 x.d x.c x.m1 x.h x.m2 x.a x.b = true
        · exact q1
        · unfold recC at q
          rw [if_neg q1] at q
          omega
      have hl := (booksB_true.1 hB).1.2.1
      refine ⟨h.1, ⟨?_, fun y hy => ?_⟩, h.2.2⟩
      · show (x.m1 ++ [e]).length ≤ 1048576
        rw [List.length_append]
        show x.m1.length + 1 ≤ 1048576
        omega
      · rcases List.mem_append.1 (show y ∈ x.m1 ++ [e] from hy) with hy | hy
        · exact h.2.1.2 y hy
        · rw [List.mem_singleton.1 hy]; exact he
    · exact h
theorem impl_Record.at (A : Nat → Addr) (A0 : Option Addr) (c0 : Nat) (l0 : List Acc) (d c : Int) (A1 : Option Addr) (c1 : Nat) (l1 : List Ent) (h : Int) (A2 : Option Addr) (c2 : Nat) (l2 : List Per) (a b : Int) (e0 e1 : Int) (e2 : ByteArray) (A3 : Option Addr) (c3 : Nat) (l3 : List Lin) (w : World) (r0 : List Acc) (rd rc : Int) (r1 : List Ent) (rh : Int) (r2 : List Per) (ra rb rk : Int) (hS : Sent w A) (hr0 : Kd.C k48 w A0 l0.length l0) (hc0 : l0.length ≤ c0) (hs : ∀ x ∈ l0, x.f0.size ≤ maxLen) (hr1 : Kd.C k41 w A1 l1.length l1) (hc1 : l1.length ≤ c1) (hm : ∀ e ∈ l1, e.f2.size ≤ maxLen) (hr2 : Kd.C k84 w A2 l2.length l2) (hc2 : l2.length ≤ c2) (hsm : smallB l0 l1 l2) (hr3 : Kd.C k88 w A3 l3.length l3) (hc3 : l3.length ≤ c3) (he : e2.size ≤ maxLen) (hl3 : l3.length ≤ 1048576) (hres : recR ⟨l0, d, c, l1, h, l2, a, b⟩ ⟨e0, e1, e2, l3⟩ = (⟨r0, rd, rc, r1, rh, r2, ra, rb⟩, rk)) :
    Calls Tryz.prog 12 #[.agg #[.slice A0 l0.length c0, .int .i64 d, .int .i64 c, .slice A1 l1.length c1, .int .i64 h, .slice A2 l2.length c2, .int .i64 a, .int .i64 b], .agg #[.int .i64 e0, .int .i64 e1, .string e2, .slice A3 l3.length c3]] w fun e w' => ∃ v0 v3 v5 : Value, e = .returned (.tuple #[.agg #[v0, .int .i64 rd, .int .i64 rc, v3, .int .i64 rh, v5, .int .i64 ra, .int .i64 rb], .int .i64 rk]) ∧ Kd.R k48 48 w' w.heap.size (fun _ => True) v0 r0 ∧ Kd.S k41 41 w' w.heap.size (fun _ => True) v3 r1 ∧ Kd.R k84 84 w' w.heap.size (fun _ => True) v5 r2 ∧ Below w.heap.size w w' := by
  refine (impl_Record.to A A0 c0 l0 d c A1 c1 l1 h A2 c2 l2 a b e0 e1 e2 A3 c3 l3 w hS hr0 hc0 hs hr1 hc1 hm hr2 hc2 hsm hr3 hc3 he hl3).mono ?_
  rintro e w' ⟨v0, v3, v5, he, ⟨h1, h2, h3⟩, hb⟩
  rw [hres] at he h1 h2 h3
  exact ⟨v0, v3, v5, he, h1, h2, h3, hb⟩
theorem spec_Record.at (A0 : Option Addr) (c0 : Nat) (l0 : List Acc) (d c : Int) (A1 : Option Addr) (c1 : Nat) (l1 : List Ent) (h : Int) (A2 : Option Addr) (c2 : Nat) (l2 : List Per) (a b : Int) (e0 e1 : Int) (e2 : ByteArray) (A3 : Option Addr) (c3 : Nat) (l3 : List Lin) (w : World) (r0 : List Acc) (rd rc : Int) (r1 : List Ent) (rh : Int) (r2 : List Per) (ra rb rk : Int) (hr0 : Kd.C k48 w A0 l0.length l0) (hc0 : l0.length ≤ c0) (hs : ∀ x ∈ l0, x.f0.size ≤ maxLen) (hr1 : Kd.C k41 w A1 l1.length l1) (hc1 : l1.length ≤ c1) (hm : ∀ e ∈ l1, e.f2.size ≤ maxLen) (hr2 : Kd.C k84 w A2 l2.length l2) (hc2 : l2.length ≤ c2) (hsm : smallB l0 l1 l2) (hr3 : Kd.C k88 w A3 l3.length l3) (hc3 : l3.length ≤ c3) (he : e2.size ≤ maxLen) (hl3 : l3.length ≤ 1048576) (hres : recR ⟨l0, d, c, l1, h, l2, a, b⟩ ⟨e0, e1, e2, l3⟩ = (⟨r0, rd, rc, r1, rh, r2, ra, rb⟩, rk)) :
    Calls Tryz.prog 20 #[.agg #[.slice A0 l0.length c0, .int .i64 d, .int .i64 c, .slice A1 l1.length c1, .int .i64 h, .slice A2 l2.length c2, .int .i64 a, .int .i64 b], .agg #[.int .i64 e0, .int .i64 e1, .string e2, .slice A3 l3.length c3]] w fun e w' => ∃ v0 v3 v5 : Value, e = .returned (.tuple #[.agg #[v0, .int .i64 rd, .int .i64 rc, v3, .int .i64 rh, v5, .int .i64 ra, .int .i64 rb], .int .i64 rk]) ∧ Kd.R k48 48 w' w.heap.size (fun _ => True) v0 r0 ∧ Kd.S k41 41 w' w.heap.size (fun _ => True) v3 r1 ∧ Kd.R k84 84 w' w.heap.size (fun _ => True) v5 r2 ∧ Below w.heap.size w w' := by
  refine (spec_Record.to A0 c0 l0 d c A1 c1 l1 h A2 c2 l2 a b e0 e1 e2 A3 c3 l3 w hr0 hc0 hs hr1 hc1 hm hr2 hc2 hsm hr3 hc3 he hl3).mono ?_
  rintro e w' ⟨v0, v3, v5, he, ⟨h1, h2, h3⟩, hb⟩
  rw [hres] at he h1 h2 h3
  exact ⟨v0, v3, v5, he, h1, h2, h3, hb⟩
set_option maxHeartbeats 64000000 in
set_option maxRecDepth 100000 in
theorem laws_FnExactRecord.to (A : Nat → Addr) (A0 : Option Addr) (c0 : Nat) (l0 : List S182) (d c : Int) (A1 : Option Addr) (c1 : Nat) (l1 : List S64) (h : Int) (A2 : Option Addr) (c2 : Nat) (l2 : List S160) (a b : Int) (e0 e1 : Int) (e2 : ByteArray) (A3 : Option Addr) (c3 : Nat) (l3 : List S162) (w : World) (hS : Sent w A)
    (hr0 : Kd.C k182 w A0 l0.length l0) (hc0 : l0.length ≤ c0) (hr1 : Kd.C k64 w A1 l1.length l1) (hc1 : l1.length ≤ c1) (hr2 : Kd.C k160 w A2 l2.length l2) (hc2 : l2.length ≤ c2) (hr3 : Kd.C k162 w A3 l3.length l3) (hc3 : l3.length ≤ c3)
    (hw : wf61 (⟨(⟨l0, d, c⟩ : S55), (⟨l1, h⟩ : S58), l2, a, b⟩ : S61)) (hwe : wf64 (⟨e0, e1, e2, l3⟩ : S64)) :
    Calls Tryz.prog 4 #[.agg #[.slice A0 l0.length c0, .int .i64 d, .int .i64 c, .slice A1 l1.length c1, .int .i64 h, .slice A2 l2.length c2, .int .i64 a, .int .i64 b], .agg #[.int .i64 e0, .int .i64 e1, .string e2, .slice A3 l3.length c3]] w fun e w' => e = .returned (.bool true) ∧ Below w.heap.size w w' := by
  have H0 := Aside0.mk hr0
  have H1 := Aside0.mk hr1
  have H2 := Aside0.mk hr2
  have H3 := Aside0.mk hr3
  have C0 := Aside0.mk hc0
  have C1 := Aside0.mk hc1
  have C2 := Aside0.mk hc2
  have C3 := Aside0.mk hc3
  have HW := Aside0.mk hw
  have HWE := Aside0.mk hwe
  have HT0 := Aside0.mk (text_cvAccount hw.1.1.2)
  have HT1 := Aside0.mk (text_cvEntry hw.2.1.1.2)
  have HT2 := Aside0.mk (show e2.size ≤ maxLen from hwe.2.2.1)
  have HB := Aside0.mk (below_two w (.cells #[.slice A0 l0.length c0, .int .i64 d, .int .i64 c, .slice A1 l1.length c1, .int .i64 h, .slice A2 l2.length c2, .int .i64 a, .int .i64 b] 61) (.cells #[.int .i64 e0, .int .i64 e1, .string e2, .slice A3 l3.length c3] 64))
  have SN0 := Aside0.mk hS
  have SN := Aside0.mk (hS.below HB.out rfl)
  clear hr0 hr1 hr2 hr3 hw hwe hc0 hc1 hc2 hc3 hS
  go_enter Tryz.func4, Tryz.ntmps4
  go_wp2_with fail
  refine (laws_szBooks.calls A0 c0 l0 d c A1 c1 l1 h A2 c2 l2 a b 1048576 _ (Kd.C_below H0.out HB.out) (Kd.C_below H1.out HB.out) (Kd.C_below H2.out HB.out) (by omega) (by omega) HW.out).mono ?_
  rintro x w1 ⟨r, rfl, q1, q2, q3, hb⟩
  have f0 : w1.cell? ⟨w.heap.size, 0, none⟩ = some (.slice A0 l0.length c0) := y00 hb (by go_simp)
  have f1 : w1.cell? ⟨w.heap.size, 1, none⟩ = some (.int .i64 d) := y00 hb (by go_simp)
  have f2 : w1.cell? ⟨w.heap.size, 2, none⟩ = some (.int .i64 c) := y00 hb (by go_simp)
  have f3 : w1.cell? ⟨w.heap.size, 3, none⟩ = some (.slice A1 l1.length c1) := y00 hb (by go_simp)
  have f4 : w1.cell? ⟨w.heap.size, 4, none⟩ = some (.int .i64 h) := y00 hb (by go_simp)
  have f5 : w1.cell? ⟨w.heap.size, 5, none⟩ = some (.slice A2 l2.length c2) := y00 hb (by go_simp)
  have f6 : w1.cell? ⟨w.heap.size, 6, none⟩ = some (.int .i64 a) := y00 hb (by go_simp)
  have f7 : w1.cell? ⟨w.heap.size, 7, none⟩ = some (.int .i64 b) := y00 hb (by go_simp)
  have u0 : w1.cell? ⟨w.heap.size + 1, 0, none⟩ = some (.int .i64 e0) := y00 hb (by go_simp)
  have u1 : w1.cell? ⟨w.heap.size + 1, 1, none⟩ = some (.int .i64 e1) := y00 hb (by go_simp)
  have u2 : w1.cell? ⟨w.heap.size + 1, 2, none⟩ = some (.string e2) := y00 hb (by go_simp)
  have u3 : w1.cell? ⟨w.heap.size + 1, 3, none⟩ = some (.slice A3 l3.length c3) := y00 hb (by go_simp)
  replace HB := Aside0.mk (y10 (w := w) hb HB.out)
  replace SN := Aside0.mk (SN.out.below hb rfl)
  have HSB := Aside0.mk q3
  have z_f0 := World.block_lt_of_cell? _ _ f0
  have z_u0 := World.block_lt_of_cell? _ _ u0
  clear hb q3
  by_cases hr : r < 0
  case pos =>
    go_wp2_with fail
    go_ret
    exact ⟨rfl, HB.out⟩
  go_wp2_with fail
  refine (laws_szEntry.calls e0 e1 e2 A3 c3 l3 r _ (Kd.C_below H3.out HB.out) (by omega) (by omega) HWE.out).mono ?_
  rintro x w2 ⟨ry, rfl, q4, q5, q6, hb⟩
  replace f0 := y00 hb f0
  replace f1 := y00 hb f1
  replace f2 := y00 hb f2
  replace f3 := y00 hb f3
  replace f4 := y00 hb f4
  replace f5 := y00 hb f5
  replace f6 := y00 hb f6
  replace f7 := y00 hb f7
  replace u0 := y00 hb u0
  replace u1 := y00 hb u1
  replace u2 := y00 hb u2
  replace u3 := y00 hb u3
  replace HB := Aside0.mk (y10 (w := w) hb HB.out)
  replace SN := Aside0.mk (SN.out.below hb rfl)
  have s_w2 := hb.size
  have HSE := Aside0.mk q6
  clear hb q6
  by_cases hry : ry < 0
  case pos =>
    go_wp2_with fail
    go_ret
    exact ⟨rfl, HB.out⟩
  have SM := Aside0.mk (HSB.out (by omega))
  have SE := Aside0.mk (HSE.out (by omega))
  have TB := Aside0.mk (laws_toBooks_is l0 d c l1 h l2 a b kBig SM.out kBig_le)
  have TE := Aside0.mk (laws_toEntry_is (⟨e0, e1, e2, l3⟩ : S64) kBig SE.out (Nat.lt_of_lt_of_le (by omega) kBig_le))
  replace TE := Aside0.mk (show laws_toEntry.f kBig e0 e1 e2 l3 = some (e0, e1, e2, l3.map cvLine) from TE.out)
  have ML := Aside0.mk (show smallB (l0.map cvAccount) (l1.map cvEntry) (l2.map cvPeriod) from ⟨by rw [List.length_map]; exact SM.out.1, ⟨by rw [List.length_map]; exact SM.out.2.1.1, fun x hx => by
    obtain ⟨y, hy, rfl⟩ := List.mem_map.1 hx
    show (y.f3.map cvLine).length ≤ 1048576
    rw [List.length_map]
    exact SM.out.2.1.2 y hy⟩, by rw [List.length_map]; exact SM.out.2.2⟩)
  have ML3 := Aside0.mk (show (l3.map cvLine).length ≤ 1048576 by rw [List.length_map]; exact SE.out)
  clear HSB HSE SM SE q1 q2 q4 q5
  generalize l0.map cvAccount = m0 at *
  generalize l1.map cvEntry = m1 at *
  generalize l2.map cvPeriod = m2 at *
  generalize l3.map cvLine = m3 at *
  obtain ⟨⟨⟨r0, rd, rc, r1, rh, r2, ra, rb⟩, rk⟩, hres⟩ : ∃ t, t = recR ⟨m0, d, c, m1, h, m2, a, b⟩ ⟨e0, e1, e2, m3⟩ := ⟨_, rfl⟩
  have RES := Aside0.mk hres.symm
  have MR := Aside0.mk (show smallB r0 r1 r2 from by have := recR_small (x := ⟨m0, d, c, m1, h, m2, a, b⟩) (e := ⟨e0, e1, e2, m3⟩) ML.out ML3.out; rw [← hres] at this; exact this)
  clear hres
  have zz_f0 := World.block_lt_of_cell? _ _ f0
  have zz_u0 := World.block_lt_of_cell? _ _ u0
  go_upto_region 8 with fail
  have HV := Aside0.mk (Below.refl w2.heap.size w2)
  go_cut [6, 7] (fun s10_ s11_ wx => ∃ (b_ : Nat) (A_0 A_1 A_2 : Option Addr) (c_0 c_1 c_2 : Nat), s10_ = .pointer (some ⟨b_, 0, none⟩) ∧ s11_ = .int .i64 rk ∧ w2.heap.size ≤ b_ ∧ wx.heap[b_]? = some (.cells #[.slice A_0 r0.length c_0, .int .i64 rd, .int .i64 rc, .slice A_1 r1.length c_1, .int .i64 rh, .slice A_2 r2.length c_2, .int .i64 ra, .int .i64 rb] 32 (0, 0)) ∧ Aside0 (r0.length ≤ c_0) ∧ Aside0 (r1.length ≤ c_1) ∧ Aside0 (r2.length ≤ c_2) ∧ Aside0 (k48.R 48 wx w2.heap.size (Iv w2.heap.size wx.heap.size) (.slice A_0 r0.length c_0) r0) ∧ Aside0 (Kd.S k41 41 wx w2.heap.size (Iv w2.heap.size wx.heap.size) (.slice A_1 r1.length c_1) r1) ∧ Aside0 (k84.R 84 wx w2.heap.size (Iv w2.heap.size wx.heap.size) (.slice A_2 r2.length c_2) r2) ∧ Aside0 (Below w2.heap.size w2 wx))
  case first =>
    go_region_held3 (fun w' => w'.cell? ⟨w.heap.size, 0, none⟩ = some (.slice A0 l0.length c0) ∧ w'.cell? ⟨w.heap.size, 1, none⟩ = some (.int .i64 d) ∧ w'.cell? ⟨w.heap.size, 2, none⟩ = some (.int .i64 c) ∧ w'.cell? ⟨w.heap.size, 3, none⟩ = some (.slice A1 l1.length c1) ∧ w'.cell? ⟨w.heap.size, 4, none⟩ = some (.int .i64 h) ∧ w'.cell? ⟨w.heap.size, 5, none⟩ = some (.slice A2 l2.length c2) ∧ w'.cell? ⟨w.heap.size, 6, none⟩ = some (.int .i64 a) ∧ w'.cell? ⟨w.heap.size, 7, none⟩ = some (.int .i64 b) ∧ w'.cell? ⟨w.heap.size + 1, 0, none⟩ = some (.int .i64 e0) ∧ w'.cell? ⟨w.heap.size + 1, 1, none⟩ = some (.int .i64 e1) ∧ w'.cell? ⟨w.heap.size + 1, 2, none⟩ = some (.string e2) ∧ w'.cell? ⟨w.heap.size + 1, 3, none⟩ = some (.slice A3 l3.length c3)) ((first | (have hH := ‹_ ∧ _›; obtain ⟨t0, t1, t2, t3, t4, t5, t6, t7, t8, t9, t10, t11⟩ := hH; first | (with_reducible exact ⟨y00 hb t0, y00 hb t1, y00 hb t2, y00 hb t3, y00 hb t4, y00 hb t5, y00 hb t6, y00 hb t7, y00 hb t8, y00 hb t9, y00 hb t10, y00 hb t11⟩) | (with_reducible exact ⟨y00 (y01 (Below.refl _ _) _) t0, y00 (y01 (Below.refl _ _) _) t1, y00 (y01 (Below.refl _ _) _) t2, y00 (y01 (Below.refl _ _) _) t3, y00 (y01 (Below.refl _ _) _) t4, y00 (y01 (Below.refl _ _) _) t5, y00 (y01 (Below.refl _ _) _) t6, y00 (y01 (Below.refl _ _) _) t7, y00 (y01 (Below.refl _ _) _) t8, y00 (y01 (Below.refl _ _) _) t9, y00 (y01 (Below.refl _ _) _) t10, y00 (y01 (Below.refl _ _) _) t11⟩) | (with_reducible exact ⟨t0, t1, t2, t3, t4, t5, t6, t7, t8, t9, t10, t11⟩) | (with_reducible refine ⟨cell_alloc2 t0 ?_, cell_alloc2 t1 ?_, cell_alloc2 t2 ?_, cell_alloc2 t3 ?_, cell_alloc2 t4 ?_, cell_alloc2 t5 ?_, cell_alloc2 t6 ?_, cell_alloc2 t7 ?_, cell_alloc2 t8 ?_, cell_alloc2 t9 ?_, cell_alloc2 t10 ?_, cell_alloc2 t11 ?_⟩ <;> (first | omega | (simp; omega))) | (refine ⟨?_, ?_, ?_, ?_, ?_, ?_, ?_, ?_, ?_, ?_, ?_, ?_⟩ <;> ((repeat (with_reducible refine cell_off ?_ _ ?_; (· (first | omega | (simp; omega))))); assumption))) | go_keep))
     ((first | (go_at_call 21; refine (laws_toBooks.calls kBig A0 c0 l0 d c A1 c1 l1 h A2 c2 l2 a b m0 d c m1 h m2 a b _ (Kd.C_below H0.out (by with_reducible repeat (first | exact HB.out | exact y10 HVBs.out HB.out | refine y04 ?_ | refine y02 ?_ _ | refine y01 ?_ _))) C0.out (Kd.C_below H1.out (by with_reducible repeat (first | exact HB.out | exact y10 HVBs.out HB.out | refine y04 ?_ | refine y02 ?_ _ | refine y01 ?_ _))) C1.out (Kd.C_below H2.out (by with_reducible repeat (first | exact HB.out | exact y10 HVBs.out HB.out | refine y04 ?_ | refine y02 ?_ _ | refine y01 ?_ _))) C2.out TB.out).mono ?_; rintro x wAs ⟨v0, v3, v5, rfl, hR0, hR3, hR5, hb⟩; obtain ⟨P0s, p0s, rfl, n0, g0⟩ := Kd.R_reads hR0; have KK0s := Aside0.mk g0; have KN0s := Aside0.mk n0; obtain ⟨P1s, p1s, rfl, n1, g1⟩ := Kd.S_reads hR3; have KK1s := Aside0.mk g1; have KN1s := Aside0.mk n1; obtain ⟨P2s, p2s, rfl, n2, g2⟩ := Kd.R_reads hR5; have KK2s := Aside0.mk g2; have KN2s := Aside0.mk n2; have HVAs := Aside0.mk (y10 (w := w2) hb (by with_reducible repeat (first | exact HV.out | exact HVBs.out | refine y04 ?_ | refine y02 ?_ _ | refine y01 ?_ _))); have SZAs := HVAs.out.size; clear hR0 hR3 hR5 n0 n1 n2 g0 g1 g2; (try replace KK3s := Aside0.mk (Kd.C_below KK3s.out (y10 hb (by with_reducible repeat (first | exact Below.refl _ _ | refine y04 ?_ | refine y02 ?_ _ | refine y01 ?_ _))))); (first | (have BK : wAs.heap[w2.heap.size]? = some (.cells #[.slice none 0 0, .int .i64 0, .int .i64 0, .slice none 0 0, .int .i64 0, .slice none 0 0, .int .i64 0, .int .i64 0] 32 (0, 0)) := blk_below ?_ hb; rotate_left; (· (with_reducible repeat (first | exact BK | exact blk_new _ _ | refine y07 ?_ _ | refine y09 ?_)))) | (have BK : wAs.heap[wBs.heap.size]? = some (.cells #[.slice none 0 0, .int .i64 0, .int .i64 0, .slice none 0 0, .int .i64 0, .slice none 0 0, .int .i64 0, .int .i64 0] 32 (0, 0)) := blk_below ?_ hb; rotate_left; (· (with_reducible repeat (first | exact BK | exact blk_new _ _ | refine y07 ?_ _ | refine y09 ?_)))) | skip); (try (have Y0 := (y03 BK 0).trans (show _ = some (.slice none 0 0) from rfl); have Z0 := y05 BK 0; have Y1 := (y03 BK 1).trans (show _ = some (.int .i64 0) from rfl); have Z1 := y05 BK 1; have Y2 := (y03 BK 2).trans (show _ = some (.int .i64 0) from rfl); have Z2 := y05 BK 2; have Y3 := (y03 BK 3).trans (show _ = some (.slice none 0 0) from rfl); have Z3 := y05 BK 3; have Y4 := (y03 BK 4).trans (show _ = some (.int .i64 0) from rfl); have Z4 := y05 BK 4; have Y5 := (y03 BK 5).trans (show _ = some (.slice none 0 0) from rfl); have Z5 := y05 BK 5; have Y6 := (y03 BK 6).trans (show _ = some (.int .i64 0) from rfl); have Z6 := y05 BK 6; have Y7 := (y03 BK 7).trans (show _ = some (.int .i64 0) from rfl); have Z7 := y05 BK 7))) | (go_at_call 22; refine (laws_toEntry.calls kBig e0 e1 e2 A3 c3 l3 e0 e1 e2 m3 _ (Kd.C_below H3.out (by with_reducible repeat (first | exact HB.out | exact y10 HVAs.out HB.out | refine y04 ?_ | refine y02 ?_ _ | refine y01 ?_ _))) C3.out TE.out).mono ?_; rintro x wBs ⟨v0, rfl, hR, hb⟩; obtain ⟨P3s, p3s, rfl, n0, g0⟩ := Kd.R_reads hR; have KK3s := Aside0.mk g0; have KN3s := Aside0.mk n0; have HVBs := Aside0.mk (y10 (w := w2) hb (by with_reducible repeat (first | exact HV.out | exact HVAs.out | refine y04 ?_ | refine y02 ?_ _ | refine y01 ?_ _))); have SZBs := HVBs.out.size; clear hR g0 n0; (try replace KK0s := Aside0.mk (Kd.C_below KK0s.out (y10 hb (by with_reducible repeat (first | exact Below.refl _ _ | refine y04 ?_ | refine y02 ?_ _ | refine y01 ?_ _))))); (try replace KK1s := Aside0.mk (Kd.C_below KK1s.out (y10 hb (by with_reducible repeat (first | exact Below.refl _ _ | refine y04 ?_ | refine y02 ?_ _ | refine y01 ?_ _))))); (try replace KK2s := Aside0.mk (Kd.C_below KK2s.out (y10 hb (by with_reducible repeat (first | exact Below.refl _ _ | refine y04 ?_ | refine y02 ?_ _ | refine y01 ?_ _))))); (first | (have BK : wBs.heap[w2.heap.size]? = some (.cells #[.slice none 0 0, .int .i64 0, .int .i64 0, .slice none 0 0, .int .i64 0, .slice none 0 0, .int .i64 0, .int .i64 0] 32 (0, 0)) := blk_below ?_ hb; rotate_left; (· (with_reducible repeat (first | exact BK | exact blk_new _ _ | refine y07 ?_ _ | refine y09 ?_)))) | (have BK : wBs.heap[wAs.heap.size]? = some (.cells #[.slice none 0 0, .int .i64 0, .int .i64 0, .slice none 0 0, .int .i64 0, .slice none 0 0, .int .i64 0, .int .i64 0] 32 (0, 0)) := blk_below ?_ hb; rotate_left; (· (with_reducible repeat (first | exact BK | exact blk_new _ _ | refine y07 ?_ _ | refine y09 ?_)))) | skip); (try (have Y0 := (y03 BK 0).trans (show _ = some (.slice none 0 0) from rfl); have Z0 := y05 BK 0; have Y1 := (y03 BK 1).trans (show _ = some (.int .i64 0) from rfl); have Z1 := y05 BK 1; have Y2 := (y03 BK 2).trans (show _ = some (.int .i64 0) from rfl); have Z2 := y05 BK 2; have Y3 := (y03 BK 3).trans (show _ = some (.slice none 0 0) from rfl); have Z3 := y05 BK 3; have Y4 := (y03 BK 4).trans (show _ = some (.int .i64 0) from rfl); have Z4 := y05 BK 4; have Y5 := (y03 BK 5).trans (show _ = some (.slice none 0 0) from rfl); have Z5 := y05 BK 5; have Y6 := (y03 BK 6).trans (show _ = some (.int .i64 0) from rfl); have Z6 := y05 BK 6; have Y7 := (y03 BK 7).trans (show _ = some (.int .i64 0) from rfl); have Z7 := y05 BK 7))) | (go_at_call 20; refine (spec_Record.at P0s p0s m0 d c P1s p1s m1 h P2s p2s m2 a b e0 e1 e2 P3s p3s m3 _ r0 rd rc r1 rh r2 ra rb rk (Kd.C_below KK0s.out (by with_reducible repeat (first | exact Below.refl _ _ | refine y04 ?_ | refine y02 ?_ _ | refine y01 ?_ _))) KN0s.out HT0.out (Kd.C_below KK1s.out (by with_reducible repeat (first | exact Below.refl _ _ | refine y04 ?_ | refine y02 ?_ _ | refine y01 ?_ _))) KN1s.out HT1.out (Kd.C_below KK2s.out (by with_reducible repeat (first | exact Below.refl _ _ | refine y04 ?_ | refine y02 ?_ _ | refine y01 ?_ _))) KN2s.out ML.out (Kd.C_below KK3s.out (by with_reducible repeat (first | exact Below.refl _ _ | refine y04 ?_ | refine y02 ?_ _ | refine y01 ?_ _))) KN3s.out HT2.out ML3.out RES.out).mono ?_; rintro x wS ⟨v0, v3, v5, rfl, hR0, hR3, hR5, hb⟩; have HVS := Aside0.mk (y10 (w := w2) hb (by with_reducible repeat (first | exact HV.out | exact HVAs.out | exact HVBs.out | refine y04 ?_ | refine y02 ?_ _ | refine y01 ?_ _))); have SZS := HVS.out.size; have SBS := below_start hb (show Below w2.heap.size w2 _ from (by with_reducible repeat (first | exact HV.out | exact HVAs.out | exact HVBs.out | refine y04 ?_ | refine y02 ?_ _ | refine y01 ?_ _))); obtain ⟨S0, eS0, rfl, n0, g0⟩ := Kd.R_reads hR0; have NS0 := Aside0.mk n0; have RRS0 := Aside0.mk (R_iv hR0); obtain ⟨S1, eS1, rfl, n1, g1⟩ := Kd.S_reads hR3; have NS1 := Aside0.mk n1; have RRS1 := Aside0.mk (S_iv hR3); obtain ⟨S2, eS2, rfl, n2, g2⟩ := Kd.R_reads hR5; have NS2 := Aside0.mk n2; have RRS2 := Aside0.mk (R_iv hR5); clear hR0 hR3 hR5 n0 n1 n2 g0 g1 g2; (first | (have BK : wS.heap[w2.heap.size]? = some (.cells #[.slice none 0 0, .int .i64 0, .int .i64 0, .slice none 0 0, .int .i64 0, .slice none 0 0, .int .i64 0, .int .i64 0] 32 (0, 0)) := blk_below ?_ hb; rotate_left; (· (with_reducible repeat (first | exact BK | exact blk_new _ _ | refine y07 ?_ _ | refine y09 ?_)))) | (have BK : wS.heap[wAs.heap.size]? = some (.cells #[.slice none 0 0, .int .i64 0, .int .i64 0, .slice none 0 0, .int .i64 0, .slice none 0 0, .int .i64 0, .int .i64 0] 32 (0, 0)) := blk_below ?_ hb; rotate_left; (· (with_reducible repeat (first | exact BK | exact blk_new _ _ | refine y07 ?_ _ | refine y09 ?_)))) | (have BK : wS.heap[wBs.heap.size]? = some (.cells #[.slice none 0 0, .int .i64 0, .int .i64 0, .slice none 0 0, .int .i64 0, .slice none 0 0, .int .i64 0, .int .i64 0] 32 (0, 0)) := blk_below ?_ hb; rotate_left; (· (with_reducible repeat (first | exact BK | exact blk_new _ _ | refine y07 ?_ _ | refine y09 ?_)))) | skip); (try (have Y0 := (y03 BK 0).trans (show _ = some (.slice none 0 0) from rfl); have Z0 := y05 BK 0; have Y1 := (y03 BK 1).trans (show _ = some (.int .i64 0) from rfl); have Z1 := y05 BK 1; have Y2 := (y03 BK 2).trans (show _ = some (.int .i64 0) from rfl); have Z2 := y05 BK 2; have Y3 := (y03 BK 3).trans (show _ = some (.slice none 0 0) from rfl); have Z3 := y05 BK 3; have Y4 := (y03 BK 4).trans (show _ = some (.int .i64 0) from rfl); have Z4 := y05 BK 4; have Y5 := (y03 BK 5).trans (show _ = some (.slice none 0 0) from rfl); have Z5 := y05 BK 5; have Y6 := (y03 BK 6).trans (show _ = some (.int .i64 0) from rfl); have Z6 := y05 BK 6; have Y7 := (y03 BK 7).trans (show _ = some (.int .i64 0) from rfl); have Z7 := y05 BK 7)))))
    all_goals (try go_wp2_with fail)
    all_goals go_meet
    all_goals (
      refine ⟨_, S0, S1, S2, eS0, eS1, eS2, rfl, rfl, ?_, ?_, NS0, NS1, NS2, ⟨?_⟩, ⟨?_⟩, ⟨?_⟩, ⟨?_⟩⟩
      · first | exact Nat.le_refl _ | exact SZS | exact SZAs | exact SZBs | omega
      · (with_reducible repeat (first | refine y07 ?_ _ | refine y09 ?_)); first | exact blk8 BK _ _ _ _ _ _ _ _ | exact blk_new _ _
      · (with_reducible repeat (first | refine Kd.R_drewN ?_ _ | refine Kd.R_drew ?_))
        have RX := R_iv_lower RRS0.out SBS (Nat.le_refl _)
        first | exact Kd.R_mono (R_put8 RX BK (by decide) _ _ _ _ _ _ _ _) (fun k hk => ⟨hk.1, Nat.lt_of_lt_of_le hk.2 (by simp)⟩) | exact Kd.R_mono (Kd.R_alloc RX _) (fun k hk => ⟨hk.1, Nat.lt_of_lt_of_le hk.2 (by simp)⟩)
      · (with_reducible repeat (first | refine Kd.S_drewN ?_ _ | refine Kd.S_drew ?_))
        have RX := S_iv_lower RRS1.out SBS (Nat.le_refl _)
        first | exact Kd.S_mono (S_put8 RX BK (by decide) _ _ _ _ _ _ _ _) (fun k hk => ⟨hk.1, Nat.lt_of_lt_of_le hk.2 (by simp)⟩) | exact Kd.S_mono (Kd.S_alloc RX _) (fun k hk => ⟨hk.1, Nat.lt_of_lt_of_le hk.2 (by simp)⟩)
      · (with_reducible repeat (first | refine Kd.R_drewN ?_ _ | refine Kd.R_drew ?_))
        have RX := R_iv_lower RRS2.out SBS (Nat.le_refl _)
        first | exact Kd.R_mono (R_put8 RX BK (by decide) _ _ _ _ _ _ _ _) (fun k hk => ⟨hk.1, Nat.lt_of_lt_of_le hk.2 (by simp)⟩) | exact Kd.R_mono (Kd.R_alloc RX _) (fun k hk => ⟨hk.1, Nat.lt_of_lt_of_le hk.2 (by simp)⟩)
      · (with_reducible repeat (first | refine y02 ?_ _ | refine y04 ?_)); first | (with_reducible exact y01 HVS.out _) | ((with_reducible refine below_set8 HVS.out ?_ _ _ _ _ _ _ _ _); first | (with_reducible exact Nat.le_refl _) | exact SZAs | exact SZBs | exact SZS))
  obtain ⟨bS, S0, S1, S2, eS0, eS1, eS2, rfl, rfl, hble, hblk, NS0, NS1, NS2, RS0, RS1, RS2, HVS⟩ := hcut
  obtain ⟨w3, rfl⟩ : ∃ W_ : World, W_ = wc := ⟨_, rfl⟩
  have hb := HVS.out
  replace f0 := y00 hb f0
  replace f1 := y00 hb f1
  replace f2 := y00 hb f2
  replace f3 := y00 hb f3
  replace f4 := y00 hb f4
  replace f5 := y00 hb f5
  replace f6 := y00 hb f6
  replace f7 := y00 hb f7
  replace u0 := y00 hb u0
  replace u1 := y00 hb u1
  replace u2 := y00 hb u2
  replace u3 := y00 hb u3
  replace HB := Aside0.mk (y10 (w := w) hb HB.out)
  replace SN := Aside0.mk (SN.out.below hb rfl)
  have s_0 : w3.cell? ⟨bS, 0, none⟩ = some (.slice S0 r0.length eS0) := (y03 hblk 0).trans rfl
  have s_1 : w3.cell? ⟨bS, 1, none⟩ = some (.int .i64 rd) := (y03 hblk 1).trans rfl
  have s_2 : w3.cell? ⟨bS, 2, none⟩ = some (.int .i64 rc) := (y03 hblk 2).trans rfl
  have s_3 : w3.cell? ⟨bS, 3, none⟩ = some (.slice S1 r1.length eS1) := (y03 hblk 3).trans rfl
  have s_4 : w3.cell? ⟨bS, 4, none⟩ = some (.int .i64 rh) := (y03 hblk 4).trans rfl
  have s_5 : w3.cell? ⟨bS, 5, none⟩ = some (.slice S2 r2.length eS2) := (y03 hblk 5).trans rfl
  have s_6 : w3.cell? ⟨bS, 6, none⟩ = some (.int .i64 ra) := (y03 hblk 6).trans rfl
  have s_7 : w3.cell? ⟨bS, 7, none⟩ = some (.int .i64 rb) := (y03 hblk 7).trans rfl
  have z_S := blk_lt hblk
  have s_w3 := hb.size
  clear hb hblk HV HVS
  have HBW := HB
  have B3 := Aside0.mk (Below.refl w3.heap.size w3)
  go_wp2_with fail
  refine (laws_toBooks.calls kBig A0 c0 l0 d c A1 c1 l1 h A2 c2 l2 a b m0 d c m1 h m2 a b _ (Kd.C_below H0.out HB.out) C0.out (Kd.C_below H1.out HB.out) C1.out (Kd.C_below H2.out HB.out) C2.out TB.out).mono ?_
  rintro x w4 ⟨v0, v3, v5, rfl, hR0, hR3, hR5, hb⟩
  obtain ⟨X0, eX0, rfl, n0, g0⟩ := Kd.R_reads hR0
  have NX0 := Aside0.mk n0
  have RX0 := Aside0.mk (R_iv hR0)
  obtain ⟨X1, eX1, rfl, n1, g1⟩ := Kd.S_reads hR3
  have NX1 := Aside0.mk n1
  have RX1 := Aside0.mk (S_iv hR3)
  obtain ⟨X2, eX2, rfl, n2, g2⟩ := Kd.R_reads hR5
  have NX2 := Aside0.mk n2
  have RX2 := Aside0.mk (R_iv hR5)
  replace f0 := y00 hb f0
  replace f1 := y00 hb f1
  replace f2 := y00 hb f2
  replace f3 := y00 hb f3
  replace f4 := y00 hb f4
  replace f5 := y00 hb f5
  replace f6 := y00 hb f6
  replace f7 := y00 hb f7
  replace u0 := y00 hb u0
  replace u1 := y00 hb u1
  replace u2 := y00 hb u2
  replace u3 := y00 hb u3
  replace s_0 := y00 hb s_0
  replace s_1 := y00 hb s_1
  replace s_2 := y00 hb s_2
  replace s_3 := y00 hb s_3
  replace s_4 := y00 hb s_4
  replace s_5 := y00 hb s_5
  replace s_6 := y00 hb s_6
  replace s_7 := y00 hb s_7
  replace RS0 := Aside0.mk (Kd.R_below RS0.out hb)
  replace RS1 := Aside0.mk (Kd.S_below RS1.out hb)
  replace RS2 := Aside0.mk (Kd.R_below RS2.out hb)
  replace HB := Aside0.mk (y10 (w := w) hb HB.out)
  replace B3 := Aside0.mk (y10 (w := w3) hb B3.out)
  replace SN := Aside0.mk (SN.out.below hb rfl)
  have s_w4 := hb.size
  clear hb hR0 hR3 hR5 n0 n1 n2 g0 g1 g2
  have zz_f0 := World.block_lt_of_cell? _ _ f0
  have zz_u0 := World.block_lt_of_cell? _ _ u0
  have zz_s_0 := World.block_lt_of_cell? _ _ s_0
  go_wp2_with fail
  have y0 : (w4.alloc (.cells #[.slice X0 m0.length eX0, .int .i64 d, .int .i64 c, .slice X1 m1.length eX1, .int .i64 h, .slice X2 m2.length eX2, .int .i64 a, .int .i64 b] 32)).cell? ⟨w4.heap.size, 0, none⟩ = some (.slice X0 m0.length eX0) := by go_simp
  have y1 : (w4.alloc (.cells #[.slice X0 m0.length eX0, .int .i64 d, .int .i64 c, .slice X1 m1.length eX1, .int .i64 h, .slice X2 m2.length eX2, .int .i64 a, .int .i64 b] 32)).cell? ⟨w4.heap.size, 1, none⟩ = some (.int .i64 d) := by go_simp
  have y2 : (w4.alloc (.cells #[.slice X0 m0.length eX0, .int .i64 d, .int .i64 c, .slice X1 m1.length eX1, .int .i64 h, .slice X2 m2.length eX2, .int .i64 a, .int .i64 b] 32)).cell? ⟨w4.heap.size, 2, none⟩ = some (.int .i64 c) := by go_simp
  have y3 : (w4.alloc (.cells #[.slice X0 m0.length eX0, .int .i64 d, .int .i64 c, .slice X1 m1.length eX1, .int .i64 h, .slice X2 m2.length eX2, .int .i64 a, .int .i64 b] 32)).cell? ⟨w4.heap.size, 3, none⟩ = some (.slice X1 m1.length eX1) := by go_simp
  have y4 : (w4.alloc (.cells #[.slice X0 m0.length eX0, .int .i64 d, .int .i64 c, .slice X1 m1.length eX1, .int .i64 h, .slice X2 m2.length eX2, .int .i64 a, .int .i64 b] 32)).cell? ⟨w4.heap.size, 4, none⟩ = some (.int .i64 h) := by go_simp
  have y5 : (w4.alloc (.cells #[.slice X0 m0.length eX0, .int .i64 d, .int .i64 c, .slice X1 m1.length eX1, .int .i64 h, .slice X2 m2.length eX2, .int .i64 a, .int .i64 b] 32)).cell? ⟨w4.heap.size, 5, none⟩ = some (.slice X2 m2.length eX2) := by go_simp
  have y6 : (w4.alloc (.cells #[.slice X0 m0.length eX0, .int .i64 d, .int .i64 c, .slice X1 m1.length eX1, .int .i64 h, .slice X2 m2.length eX2, .int .i64 a, .int .i64 b] 32)).cell? ⟨w4.heap.size, 6, none⟩ = some (.int .i64 a) := by go_simp
  have y7 : (w4.alloc (.cells #[.slice X0 m0.length eX0, .int .i64 d, .int .i64 c, .slice X1 m1.length eX1, .int .i64 h, .slice X2 m2.length eX2, .int .i64 a, .int .i64 b] 32)).cell? ⟨w4.heap.size, 7, none⟩ = some (.int .i64 b) := by go_simp
  have hb := y01 (Below.refl w4.heap.size w4) (.cells #[.slice X0 m0.length eX0, .int .i64 d, .int .i64 c, .slice X1 m1.length eX1, .int .i64 h, .slice X2 m2.length eX2, .int .i64 a, .int .i64 b] 32)
  replace f0 := y00 hb f0
  replace f1 := y00 hb f1
  replace f2 := y00 hb f2
  replace f3 := y00 hb f3
  replace f4 := y00 hb f4
  replace f5 := y00 hb f5
  replace f6 := y00 hb f6
  replace f7 := y00 hb f7
  replace u0 := y00 hb u0
  replace u1 := y00 hb u1
  replace u2 := y00 hb u2
  replace u3 := y00 hb u3
  replace s_0 := y00 hb s_0
  replace s_1 := y00 hb s_1
  replace s_2 := y00 hb s_2
  replace s_3 := y00 hb s_3
  replace s_4 := y00 hb s_4
  replace s_5 := y00 hb s_5
  replace s_6 := y00 hb s_6
  replace s_7 := y00 hb s_7
  replace RS0 := Aside0.mk (Kd.R_below RS0.out hb)
  replace RS1 := Aside0.mk (Kd.S_below RS1.out hb)
  replace RS2 := Aside0.mk (Kd.R_below RS2.out hb)
  replace RX0 := Aside0.mk (Kd.R_below RX0.out hb)
  replace RX1 := Aside0.mk (Kd.S_below RX1.out hb)
  replace RX2 := Aside0.mk (Kd.R_below RX2.out hb)
  replace HB := Aside0.mk (y10 (w := w) hb HB.out)
  replace B3 := Aside0.mk (y10 (w := w3) hb B3.out)
  replace SN := Aside0.mk (SN.out.below hb rfl)
  have s_w5 : w4.heap.size < (w4.alloc (.cells #[.slice X0 m0.length eX0, .int .i64 d, .int .i64 c, .slice X1 m1.length eX1, .int .i64 h, .slice X2 m2.length eX2, .int .i64 a, .int .i64 b] 32)).heap.size := by simp
  clear hb
  generalize w4.alloc (.cells #[.slice X0 m0.length eX0, .int .i64 d, .int .i64 c, .slice X1 m1.length eX1, .int .i64 h, .slice X2 m2.length eX2, .int .i64 a, .int .i64 b] 32) = w5 at *
  have z_y0 := World.block_lt_of_cell? _ _ y0
  refine (laws_toEntry.calls kBig e0 e1 e2 A3 c3 l3 e0 e1 e2 m3 _ (Kd.C_below H3.out HB.out) C3.out TE.out).mono ?_
  rintro x w6 ⟨v0, rfl, hR, hb⟩
  obtain ⟨X3, eX3, rfl, n0, _⟩ := Kd.R_reads hR
  have NX3 := Aside0.mk n0
  have RX3 := Aside0.mk (Kd.R_lower (R_iv hR) (show w3.heap.size ≤ _ by omega))
  replace f0 := y00 hb f0
  replace f1 := y00 hb f1
  replace f2 := y00 hb f2
  replace f3 := y00 hb f3
  replace f4 := y00 hb f4
  replace f5 := y00 hb f5
  replace f6 := y00 hb f6
  replace f7 := y00 hb f7
  replace u0 := y00 hb u0
  replace u1 := y00 hb u1
  replace u2 := y00 hb u2
  replace u3 := y00 hb u3
  replace s_0 := y00 hb s_0
  replace s_1 := y00 hb s_1
  replace s_2 := y00 hb s_2
  replace s_3 := y00 hb s_3
  replace s_4 := y00 hb s_4
  replace s_5 := y00 hb s_5
  replace s_6 := y00 hb s_6
  replace s_7 := y00 hb s_7
  replace y0 := y00 hb y0
  replace y1 := y00 hb y1
  replace y2 := y00 hb y2
  replace y3 := y00 hb y3
  replace y4 := y00 hb y4
  replace y5 := y00 hb y5
  replace y6 := y00 hb y6
  replace y7 := y00 hb y7
  replace RS0 := Aside0.mk (Kd.R_below RS0.out hb)
  replace RS1 := Aside0.mk (Kd.S_below RS1.out hb)
  replace RS2 := Aside0.mk (Kd.R_below RS2.out hb)
  replace RX0 := Aside0.mk (Kd.R_below RX0.out hb)
  replace RX1 := Aside0.mk (Kd.S_below RX1.out hb)
  replace RX2 := Aside0.mk (Kd.R_below RX2.out hb)
  replace HB := Aside0.mk (y10 (w := w) hb HB.out)
  replace B3 := Aside0.mk (y10 (w := w3) hb B3.out)
  replace SN := Aside0.mk (SN.out.below hb rfl)
  have s_w6 := hb.size
  clear hb hR n0
  have zz_f0 := World.block_lt_of_cell? _ _ f0
  have zz_u0 := World.block_lt_of_cell? _ _ u0
  have zz_s_0 := World.block_lt_of_cell? _ _ s_0
  have zz_y0 := World.block_lt_of_cell? _ _ y0
  go_wp2_with fail
  have x0 : (w6.alloc (.cells #[.int .i64 e0, .int .i64 e1, .string e2, .slice X3 m3.length eX3] 41)).cell? ⟨w6.heap.size, 0, none⟩ = some (.int .i64 e0) := by go_simp
  have x1 : (w6.alloc (.cells #[.int .i64 e0, .int .i64 e1, .string e2, .slice X3 m3.length eX3] 41)).cell? ⟨w6.heap.size, 1, none⟩ = some (.int .i64 e1) := by go_simp
  have x2 : (w6.alloc (.cells #[.int .i64 e0, .int .i64 e1, .string e2, .slice X3 m3.length eX3] 41)).cell? ⟨w6.heap.size, 2, none⟩ = some (.string e2) := by go_simp
  have x3 : (w6.alloc (.cells #[.int .i64 e0, .int .i64 e1, .string e2, .slice X3 m3.length eX3] 41)).cell? ⟨w6.heap.size, 3, none⟩ = some (.slice X3 m3.length eX3) := by go_simp
  have hb := y01 (Below.refl w6.heap.size w6) (.cells #[.int .i64 e0, .int .i64 e1, .string e2, .slice X3 m3.length eX3] 41)
  replace f0 := y00 hb f0
  replace f1 := y00 hb f1
  replace f2 := y00 hb f2
  replace f3 := y00 hb f3
  replace f4 := y00 hb f4
  replace f5 := y00 hb f5
  replace f6 := y00 hb f6
  replace f7 := y00 hb f7
  replace u0 := y00 hb u0
  replace u1 := y00 hb u1
  replace u2 := y00 hb u2
  replace u3 := y00 hb u3
  replace s_0 := y00 hb s_0
  replace s_1 := y00 hb s_1
  replace s_2 := y00 hb s_2
  replace s_3 := y00 hb s_3
  replace s_4 := y00 hb s_4
  replace s_5 := y00 hb s_5
  replace s_6 := y00 hb s_6
  replace s_7 := y00 hb s_7
  replace y0 := y00 hb y0
  replace y1 := y00 hb y1
  replace y2 := y00 hb y2
  replace y3 := y00 hb y3
  replace y4 := y00 hb y4
  replace y5 := y00 hb y5
  replace y6 := y00 hb y6
  replace y7 := y00 hb y7
  replace RS0 := Aside0.mk (Kd.R_below RS0.out hb)
  replace RS1 := Aside0.mk (Kd.S_below RS1.out hb)
  replace RS2 := Aside0.mk (Kd.R_below RS2.out hb)
  replace RX0 := Aside0.mk (Kd.R_below RX0.out hb)
  replace RX1 := Aside0.mk (Kd.S_below RX1.out hb)
  replace RX2 := Aside0.mk (Kd.R_below RX2.out hb)
  replace RX3 := Aside0.mk (Kd.R_below RX3.out hb)
  replace HB := Aside0.mk (y10 (w := w) hb HB.out)
  replace B3 := Aside0.mk (y10 (w := w3) hb B3.out)
  replace SN := Aside0.mk (SN.out.below hb rfl)
  have s_w7 : w6.heap.size < (w6.alloc (.cells #[.int .i64 e0, .int .i64 e1, .string e2, .slice X3 m3.length eX3] 41)).heap.size := by simp
  clear hb
  generalize w6.alloc (.cells #[.int .i64 e0, .int .i64 e1, .string e2, .slice X3 m3.length eX3] 41) = w7 at *
  have z_x0 := World.block_lt_of_cell? _ _ x0
  refine (impl_Record.at A X0 eX0 m0 d c X1 eX1 m1 h X2 eX2 m2 a b e0 e1 e2 X3 eX3 m3 _ r0 rd rc r1 rh r2 ra rb rk SN.out ((Kd.R_reads' RX0.out).2.2) NX0.out HT0.out ((Kd.S_reads' RX1.out).2.2) NX1.out HT1.out ((Kd.R_reads' RX2.out).2.2) NX2.out ML.out ((Kd.R_reads' RX3.out).2.2) NX3.out HT2.out ML3.out RES.out).mono ?_
  rintro x w8 ⟨v0, v3, v5, rfl, hR0, hR3, hR5, hb⟩
  obtain ⟨G0, eG0, rfl, n0, _⟩ := Kd.R_reads hR0
  have NG0 := Aside0.mk n0
  have RG0 := Aside0.mk (Kd.R_lower (R_iv hR0) (show w3.heap.size ≤ _ by omega))
  obtain ⟨G1, eG1, rfl, n1, _⟩ := Kd.S_reads hR3
  have NG1 := Aside0.mk n1
  have RG1 := Aside0.mk (Kd.S_lower (S_iv hR3) (show w3.heap.size ≤ _ by omega))
  obtain ⟨G2, eG2, rfl, n2, _⟩ := Kd.R_reads hR5
  have NG2 := Aside0.mk n2
  have RG2 := Aside0.mk (Kd.R_lower (R_iv hR5) (show w3.heap.size ≤ _ by omega))
  replace f0 := y00 hb f0
  replace f1 := y00 hb f1
  replace f2 := y00 hb f2
  replace f3 := y00 hb f3
  replace f4 := y00 hb f4
  replace f5 := y00 hb f5
  replace f6 := y00 hb f6
  replace f7 := y00 hb f7
  replace u0 := y00 hb u0
  replace u1 := y00 hb u1
  replace u2 := y00 hb u2
  replace u3 := y00 hb u3
  replace s_0 := y00 hb s_0
  replace s_1 := y00 hb s_1
  replace s_2 := y00 hb s_2
  replace s_3 := y00 hb s_3
  replace s_4 := y00 hb s_4
  replace s_5 := y00 hb s_5
  replace s_6 := y00 hb s_6
  replace s_7 := y00 hb s_7
  replace y0 := y00 hb y0
  replace y1 := y00 hb y1
  replace y2 := y00 hb y2
  replace y3 := y00 hb y3
  replace y4 := y00 hb y4
  replace y5 := y00 hb y5
  replace y6 := y00 hb y6
  replace y7 := y00 hb y7
  replace x0 := y00 hb x0
  replace x1 := y00 hb x1
  replace x2 := y00 hb x2
  replace x3 := y00 hb x3
  replace RS0 := Aside0.mk (Kd.R_below RS0.out hb)
  replace RS1 := Aside0.mk (Kd.S_below RS1.out hb)
  replace RS2 := Aside0.mk (Kd.R_below RS2.out hb)
  replace RX0 := Aside0.mk (Kd.R_below RX0.out hb)
  replace RX1 := Aside0.mk (Kd.S_below RX1.out hb)
  replace RX2 := Aside0.mk (Kd.R_below RX2.out hb)
  replace RX3 := Aside0.mk (Kd.R_below RX3.out hb)
  replace HB := Aside0.mk (y10 (w := w) hb HB.out)
  replace B3 := Aside0.mk (y10 (w := w3) hb B3.out)
  replace SN := Aside0.mk (SN.out.below hb rfl)
  have s_w8 := hb.size
  clear hb hR0 hR3 hR5 n0 n1 n2
  have zz_f0 := World.block_lt_of_cell? _ _ f0
  have zz_u0 := World.block_lt_of_cell? _ _ u0
  have zz_s_0 := World.block_lt_of_cell? _ _ s_0
  have zz_y0 := World.block_lt_of_cell? _ _ y0
  have zz_x0 := World.block_lt_of_cell? _ _ x0
  go_wp2_with fail
  have z0 : (w8.alloc (.cells #[.slice G0 r0.length eG0, .int .i64 rd, .int .i64 rc, .slice G1 r1.length eG1, .int .i64 rh, .slice G2 r2.length eG2, .int .i64 ra, .int .i64 rb] 32)).cell? ⟨w8.heap.size, 0, none⟩ = some (.slice G0 r0.length eG0) := by go_simp
  have z1 : (w8.alloc (.cells #[.slice G0 r0.length eG0, .int .i64 rd, .int .i64 rc, .slice G1 r1.length eG1, .int .i64 rh, .slice G2 r2.length eG2, .int .i64 ra, .int .i64 rb] 32)).cell? ⟨w8.heap.size, 1, none⟩ = some (.int .i64 rd) := by go_simp
  have z2 : (w8.alloc (.cells #[.slice G0 r0.length eG0, .int .i64 rd, .int .i64 rc, .slice G1 r1.length eG1, .int .i64 rh, .slice G2 r2.length eG2, .int .i64 ra, .int .i64 rb] 32)).cell? ⟨w8.heap.size, 2, none⟩ = some (.int .i64 rc) := by go_simp
  have z3 : (w8.alloc (.cells #[.slice G0 r0.length eG0, .int .i64 rd, .int .i64 rc, .slice G1 r1.length eG1, .int .i64 rh, .slice G2 r2.length eG2, .int .i64 ra, .int .i64 rb] 32)).cell? ⟨w8.heap.size, 3, none⟩ = some (.slice G1 r1.length eG1) := by go_simp
  have z4 : (w8.alloc (.cells #[.slice G0 r0.length eG0, .int .i64 rd, .int .i64 rc, .slice G1 r1.length eG1, .int .i64 rh, .slice G2 r2.length eG2, .int .i64 ra, .int .i64 rb] 32)).cell? ⟨w8.heap.size, 4, none⟩ = some (.int .i64 rh) := by go_simp
  have z5 : (w8.alloc (.cells #[.slice G0 r0.length eG0, .int .i64 rd, .int .i64 rc, .slice G1 r1.length eG1, .int .i64 rh, .slice G2 r2.length eG2, .int .i64 ra, .int .i64 rb] 32)).cell? ⟨w8.heap.size, 5, none⟩ = some (.slice G2 r2.length eG2) := by go_simp
  have z6 : (w8.alloc (.cells #[.slice G0 r0.length eG0, .int .i64 rd, .int .i64 rc, .slice G1 r1.length eG1, .int .i64 rh, .slice G2 r2.length eG2, .int .i64 ra, .int .i64 rb] 32)).cell? ⟨w8.heap.size, 6, none⟩ = some (.int .i64 ra) := by go_simp
  have z7 : (w8.alloc (.cells #[.slice G0 r0.length eG0, .int .i64 rd, .int .i64 rc, .slice G1 r1.length eG1, .int .i64 rh, .slice G2 r2.length eG2, .int .i64 ra, .int .i64 rb] 32)).cell? ⟨w8.heap.size, 7, none⟩ = some (.int .i64 rb) := by go_simp
  have hb := y01 (Below.refl w8.heap.size w8) (.cells #[.slice G0 r0.length eG0, .int .i64 rd, .int .i64 rc, .slice G1 r1.length eG1, .int .i64 rh, .slice G2 r2.length eG2, .int .i64 ra, .int .i64 rb] 32)
  replace f0 := y00 hb f0
  replace f1 := y00 hb f1
  replace f2 := y00 hb f2
  replace f3 := y00 hb f3
  replace f4 := y00 hb f4
  replace f5 := y00 hb f5
  replace f6 := y00 hb f6
  replace f7 := y00 hb f7
  replace u0 := y00 hb u0
  replace u1 := y00 hb u1
  replace u2 := y00 hb u2
  replace u3 := y00 hb u3
  replace s_0 := y00 hb s_0
  replace s_1 := y00 hb s_1
  replace s_2 := y00 hb s_2
  replace s_3 := y00 hb s_3
  replace s_4 := y00 hb s_4
  replace s_5 := y00 hb s_5
  replace s_6 := y00 hb s_6
  replace s_7 := y00 hb s_7
  replace y0 := y00 hb y0
  replace y1 := y00 hb y1
  replace y2 := y00 hb y2
  replace y3 := y00 hb y3
  replace y4 := y00 hb y4
  replace y5 := y00 hb y5
  replace y6 := y00 hb y6
  replace y7 := y00 hb y7
  replace x0 := y00 hb x0
  replace x1 := y00 hb x1
  replace x2 := y00 hb x2
  replace x3 := y00 hb x3
  replace RS0 := Aside0.mk (Kd.R_below RS0.out hb)
  replace RS1 := Aside0.mk (Kd.S_below RS1.out hb)
  replace RS2 := Aside0.mk (Kd.R_below RS2.out hb)
  replace RX0 := Aside0.mk (Kd.R_below RX0.out hb)
  replace RX1 := Aside0.mk (Kd.S_below RX1.out hb)
  replace RX2 := Aside0.mk (Kd.R_below RX2.out hb)
  replace RX3 := Aside0.mk (Kd.R_below RX3.out hb)
  replace RG0 := Aside0.mk (Kd.R_below RG0.out hb)
  replace RG1 := Aside0.mk (Kd.S_below RG1.out hb)
  replace RG2 := Aside0.mk (Kd.R_below RG2.out hb)
  replace HB := Aside0.mk (y10 (w := w) hb HB.out)
  replace B3 := Aside0.mk (y10 (w := w3) hb B3.out)
  replace SN := Aside0.mk (SN.out.below hb rfl)
  have s_w9 : w8.heap.size < (w8.alloc (.cells #[.slice G0 r0.length eG0, .int .i64 rd, .int .i64 rc, .slice G1 r1.length eG1, .int .i64 rh, .slice G2 r2.length eG2, .int .i64 ra, .int .i64 rb] 32)).heap.size := by simp
  clear hb
  generalize w8.alloc (.cells #[.slice G0 r0.length eG0, .int .i64 rd, .int .i64 rc, .slice G1 r1.length eG1, .int .i64 rh, .slice G2 r2.length eG2, .int .i64 ra, .int .i64 rb] 32) = w9 at *
  have z_z0 := World.block_lt_of_cell? _ _ z0
  refine (laws_eqBooks.calls G0 eG0 r0 rd rc G1 eG1 r1 rh G2 eG2 r2 ra rb S0 eS0 r0 rd rc S1 eS1 r1 rh S2 eS2 r2 ra rb _ ((Kd.R_reads' RG0.out).2.2) ((Kd.S_reads' RG1.out).2.2) ((Kd.R_reads' RG2.out).2.2) ((Kd.R_reads' RS0.out).2.2) ((Kd.S_reads' RS1.out).2.2) ((Kd.R_reads' RS2.out).2.2)).mono ?_
  rintro x w10 ⟨rfl, hb⟩
  replace f0 := y00 hb f0
  replace f1 := y00 hb f1
  replace f2 := y00 hb f2
  replace f3 := y00 hb f3
  replace f4 := y00 hb f4
  replace f5 := y00 hb f5
  replace f6 := y00 hb f6
  replace f7 := y00 hb f7
  replace u0 := y00 hb u0
  replace u1 := y00 hb u1
  replace u2 := y00 hb u2
  replace u3 := y00 hb u3
  replace s_0 := y00 hb s_0
  replace s_1 := y00 hb s_1
  replace s_2 := y00 hb s_2
  replace s_3 := y00 hb s_3
  replace s_4 := y00 hb s_4
  replace s_5 := y00 hb s_5
  replace s_6 := y00 hb s_6
  replace s_7 := y00 hb s_7
  replace y0 := y00 hb y0
  replace y1 := y00 hb y1
  replace y2 := y00 hb y2
  replace y3 := y00 hb y3
  replace y4 := y00 hb y4
  replace y5 := y00 hb y5
  replace y6 := y00 hb y6
  replace y7 := y00 hb y7
  replace x0 := y00 hb x0
  replace x1 := y00 hb x1
  replace x2 := y00 hb x2
  replace x3 := y00 hb x3
  replace z0 := y00 hb z0
  replace z1 := y00 hb z1
  replace z2 := y00 hb z2
  replace z3 := y00 hb z3
  replace z4 := y00 hb z4
  replace z5 := y00 hb z5
  replace z6 := y00 hb z6
  replace z7 := y00 hb z7
  replace RS0 := Aside0.mk (Kd.R_below RS0.out hb)
  replace RS1 := Aside0.mk (Kd.S_below RS1.out hb)
  replace RS2 := Aside0.mk (Kd.R_below RS2.out hb)
  replace RX0 := Aside0.mk (Kd.R_below RX0.out hb)
  replace RX1 := Aside0.mk (Kd.S_below RX1.out hb)
  replace RX2 := Aside0.mk (Kd.R_below RX2.out hb)
  replace RX3 := Aside0.mk (Kd.R_below RX3.out hb)
  replace RG0 := Aside0.mk (Kd.R_below RG0.out hb)
  replace RG1 := Aside0.mk (Kd.S_below RG1.out hb)
  replace RG2 := Aside0.mk (Kd.R_below RG2.out hb)
  replace HB := Aside0.mk (y10 (w := w) hb HB.out)
  replace B3 := Aside0.mk (y10 (w := w3) hb B3.out)
  replace SN := Aside0.mk (SN.out.below hb rfl)
  have s_w10 := hb.size
  clear hb
  rw [← same_true rfl]
  go_wp2_with fail
  have HV := Aside0.mk (Below.refl w10.heap.size w10)
  go_region_held3 (fun w' => w'.cell? ⟨w.heap.size, 0, none⟩ = some (.slice A0 l0.length c0) ∧ w'.cell? ⟨w.heap.size, 1, none⟩ = some (.int .i64 d) ∧ w'.cell? ⟨w.heap.size, 2, none⟩ = some (.int .i64 c) ∧ w'.cell? ⟨w.heap.size, 3, none⟩ = some (.slice A1 l1.length c1) ∧ w'.cell? ⟨w.heap.size, 4, none⟩ = some (.int .i64 h) ∧ w'.cell? ⟨w.heap.size, 5, none⟩ = some (.slice A2 l2.length c2) ∧ w'.cell? ⟨w.heap.size, 6, none⟩ = some (.int .i64 a) ∧ w'.cell? ⟨w.heap.size, 7, none⟩ = some (.int .i64 b) ∧ w'.cell? ⟨w.heap.size + 1, 0, none⟩ = some (.int .i64 e0) ∧ w'.cell? ⟨w.heap.size + 1, 1, none⟩ = some (.int .i64 e1) ∧ w'.cell? ⟨w.heap.size + 1, 2, none⟩ = some (.string e2) ∧ w'.cell? ⟨w.heap.size + 1, 3, none⟩ = some (.slice A3 l3.length c3) ∧ w'.cell? ⟨bS, 0, none⟩ = some (.slice S0 r0.length eS0) ∧ w'.cell? ⟨bS, 1, none⟩ = some (.int .i64 rd) ∧ w'.cell? ⟨bS, 2, none⟩ = some (.int .i64 rc) ∧ w'.cell? ⟨bS, 3, none⟩ = some (.slice S1 r1.length eS1) ∧ w'.cell? ⟨bS, 4, none⟩ = some (.int .i64 rh) ∧ w'.cell? ⟨bS, 5, none⟩ = some (.slice S2 r2.length eS2) ∧ w'.cell? ⟨bS, 6, none⟩ = some (.int .i64 ra) ∧ w'.cell? ⟨bS, 7, none⟩ = some (.int .i64 rb) ∧ w'.cell? ⟨w4.heap.size, 0, none⟩ = some (.slice X0 m0.length eX0) ∧ w'.cell? ⟨w4.heap.size, 1, none⟩ = some (.int .i64 d) ∧ w'.cell? ⟨w4.heap.size, 2, none⟩ = some (.int .i64 c) ∧ w'.cell? ⟨w4.heap.size, 3, none⟩ = some (.slice X1 m1.length eX1) ∧ w'.cell? ⟨w4.heap.size, 4, none⟩ = some (.int .i64 h) ∧ w'.cell? ⟨w4.heap.size, 5, none⟩ = some (.slice X2 m2.length eX2) ∧ w'.cell? ⟨w4.heap.size, 6, none⟩ = some (.int .i64 a) ∧ w'.cell? ⟨w4.heap.size, 7, none⟩ = some (.int .i64 b) ∧ w'.cell? ⟨w6.heap.size, 0, none⟩ = some (.int .i64 e0) ∧ w'.cell? ⟨w6.heap.size, 1, none⟩ = some (.int .i64 e1) ∧ w'.cell? ⟨w6.heap.size, 2, none⟩ = some (.string e2) ∧ w'.cell? ⟨w6.heap.size, 3, none⟩ = some (.slice X3 m3.length eX3) ∧ w'.cell? ⟨w8.heap.size, 0, none⟩ = some (.slice G0 r0.length eG0) ∧ w'.cell? ⟨w8.heap.size, 1, none⟩ = some (.int .i64 rd) ∧ w'.cell? ⟨w8.heap.size, 2, none⟩ = some (.int .i64 rc) ∧ w'.cell? ⟨w8.heap.size, 3, none⟩ = some (.slice G1 r1.length eG1) ∧ w'.cell? ⟨w8.heap.size, 4, none⟩ = some (.int .i64 rh) ∧ w'.cell? ⟨w8.heap.size, 5, none⟩ = some (.slice G2 r2.length eG2) ∧ w'.cell? ⟨w8.heap.size, 6, none⟩ = some (.int .i64 ra) ∧ w'.cell? ⟨w8.heap.size, 7, none⟩ = some (.int .i64 rb)) ((first | go_keep | exact ⟨y00 hb (by assumption), y00 hb (by assumption), y00 hb (by assumption), y00 hb (by assumption), y00 hb (by assumption), y00 hb (by assumption), y00 hb (by assumption), y00 hb (by assumption), y00 hb (by assumption), y00 hb (by assumption), y00 hb (by assumption), y00 hb (by assumption), y00 hb (by assumption), y00 hb (by assumption), y00 hb (by assumption), y00 hb (by assumption), y00 hb (by assumption), y00 hb (by assumption), y00 hb (by assumption), y00 hb (by assumption), y00 hb (by assumption), y00 hb (by assumption), y00 hb (by assumption), y00 hb (by assumption), y00 hb (by assumption), y00 hb (by assumption), y00 hb (by assumption), y00 hb (by assumption), y00 hb (by assumption), y00 hb (by assumption), y00 hb (by assumption), y00 hb (by assumption), y00 hb (by assumption), y00 hb (by assumption), y00 hb (by assumption), y00 hb (by assumption), y00 hb (by assumption), y00 hb (by assumption), y00 hb (by assumption), y00 hb (by assumption)⟩ | (have hH := ‹_ ∧ _›; obtain ⟨t0, t1, t2, t3, t4, t5, t6, t7, t8, t9, t10, t11, t12, t13, t14, t15, t16, t17, t18, t19, t20, t21, t22, t23, t24, t25, t26, t27, t28, t29, t30, t31, t32, t33, t34, t35, t36, t37, t38, t39⟩ := hH; exact ⟨y00 hb t0, y00 hb t1, y00 hb t2, y00 hb t3, y00 hb t4, y00 hb t5, y00 hb t6, y00 hb t7, y00 hb t8, y00 hb t9, y00 hb t10, y00 hb t11, y00 hb t12, y00 hb t13, y00 hb t14, y00 hb t15, y00 hb t16, y00 hb t17, y00 hb t18, y00 hb t19, y00 hb t20, y00 hb t21, y00 hb t22, y00 hb t23, y00 hb t24, y00 hb t25, y00 hb t26, y00 hb t27, y00 hb t28, y00 hb t29, y00 hb t30, y00 hb t31, y00 hb t32, y00 hb t33, y00 hb t34, y00 hb t35, y00 hb t36, y00 hb t37, y00 hb t38, y00 hb t39⟩)))
    ((first | (go_at_call 21; refine (laws_toBooks.calls kBig A0 c0 l0 d c A1 c1 l1 h A2 c2 l2 a b m0 d c m1 h m2 a b _ (Kd.C_below H0.out (by repeat (first | exact HB.out | refine y04 ?_ | refine y02 ?_ _))) C0.out (Kd.C_below H1.out (by repeat (first | exact HB.out | refine y04 ?_ | refine y02 ?_ _))) C1.out (Kd.C_below H2.out (by repeat (first | exact HB.out | refine y04 ?_ | refine y02 ?_ _))) C2.out TB.out).mono ?_; rintro x wA ⟨v0, v3, v5, rfl, hR0, hR3, hR5, hb⟩; obtain ⟨P0, q0, rfl, n0, t0⟩ := Kd.R_reads hR0; obtain ⟨P1, q1, rfl, n1, t1⟩ := Kd.S_reads hR3; obtain ⟨P2, q2, rfl, n2, t2⟩ := Kd.R_reads hR5; have K0a := Aside0.mk t0; have K1a := Aside0.mk t1; have K2a := Aside0.mk t2; have HVAa := Aside0.mk (y10 (w := w10) hb (by repeat (first | exact HV.out | refine y04 ?_ | refine y02 ?_ _))); clear hR0 hR3 hR5 n0 n1 n2 t0 t1 t2) | (go_at_call 23; refine (laws_eqBooks.calls X0 eX0 m0 d c X1 eX1 m1 h X2 eX2 m2 a b P0 q0 m0 d c P1 q1 m1 h P2 q2 m2 a b _ (Kd.C_below ((Kd.R_reads' RX0.out).2.2) (by repeat (first | exact HV.out | exact HVAa.out | refine y04 ?_ | refine y02 ?_ _))) (Kd.C_below ((Kd.S_reads' RX1.out).2.2) (by repeat (first | exact HV.out | exact HVAa.out | refine y04 ?_ | refine y02 ?_ _))) (Kd.C_below ((Kd.R_reads' RX2.out).2.2) (by repeat (first | exact HV.out | exact HVAa.out | refine y04 ?_ | refine y02 ?_ _))) (Kd.C_below K0a.out (by repeat (first | exact Below.refl _ _ | refine y04 ?_ | refine y02 ?_ _))) (Kd.C_below K1a.out (by repeat (first | exact Below.refl _ _ | refine y04 ?_ | refine y02 ?_ _))) (Kd.C_below K2a.out (by repeat (first | exact Below.refl _ _ | refine y04 ?_ | refine y02 ?_ _)))).mono ?_; rintro x w11 ⟨rfl, hb⟩; have HVE1 := Aside0.mk (y10 (w := w10) hb (by repeat (first | exact HV.out | exact HVAa.out | refine y04 ?_ | refine y02 ?_ _))))))
  clear f0 f1 f2 f3 f4 f5 f6 f7 u0 u1 u2 u3 s_0 s_1 s_2 s_3 s_4 s_5 s_6 s_7 y0 y1 y2 y3 y4 y5 y6 y7 x0 x1 x2 x3 z0 z1 z2 z3 z4 z5 z6 z7
  have hH := ‹_ ∧ _›
  obtain ⟨f0, f1, f2, f3, f4, f5, f6, f7, u0, u1, u2, u3, s_0, s_1, s_2, s_3, s_4, s_5, s_6, s_7, y0, y1, y2, y3, y4, y5, y6, y7, x0, x1, x2, x3, z0, z1, z2, z3, z4, z5, z6, z7⟩ := hH
  have hb := HVE1.out
  replace RS0 := Aside0.mk (Kd.R_below RS0.out hb)
  replace RS1 := Aside0.mk (Kd.S_below RS1.out hb)
  replace RS2 := Aside0.mk (Kd.R_below RS2.out hb)
  replace RX0 := Aside0.mk (Kd.R_below RX0.out hb)
  replace RX1 := Aside0.mk (Kd.S_below RX1.out hb)
  replace RX2 := Aside0.mk (Kd.R_below RX2.out hb)
  replace RX3 := Aside0.mk (Kd.R_below RX3.out hb)
  replace RG0 := Aside0.mk (Kd.R_below RG0.out hb)
  replace RG1 := Aside0.mk (Kd.S_below RG1.out hb)
  replace RG2 := Aside0.mk (Kd.R_below RG2.out hb)
  replace HB := Aside0.mk (y10 (w := w) hb HB.out)
  replace B3 := Aside0.mk (y10 (w := w3) hb B3.out)
  replace SN := Aside0.mk (SN.out.below hb rfl)
  have s_w11 := hb.size
  clear hb HV
  rw [← same_true rfl]
  go_wp2_with fail
  have HV := Aside0.mk (Below.refl w11.heap.size w11)
  go_region_held3 (fun w' => w'.cell? ⟨w.heap.size, 0, none⟩ = some (.slice A0 l0.length c0) ∧ w'.cell? ⟨w.heap.size, 1, none⟩ = some (.int .i64 d) ∧ w'.cell? ⟨w.heap.size, 2, none⟩ = some (.int .i64 c) ∧ w'.cell? ⟨w.heap.size, 3, none⟩ = some (.slice A1 l1.length c1) ∧ w'.cell? ⟨w.heap.size, 4, none⟩ = some (.int .i64 h) ∧ w'.cell? ⟨w.heap.size, 5, none⟩ = some (.slice A2 l2.length c2) ∧ w'.cell? ⟨w.heap.size, 6, none⟩ = some (.int .i64 a) ∧ w'.cell? ⟨w.heap.size, 7, none⟩ = some (.int .i64 b) ∧ w'.cell? ⟨w.heap.size + 1, 0, none⟩ = some (.int .i64 e0) ∧ w'.cell? ⟨w.heap.size + 1, 1, none⟩ = some (.int .i64 e1) ∧ w'.cell? ⟨w.heap.size + 1, 2, none⟩ = some (.string e2) ∧ w'.cell? ⟨w.heap.size + 1, 3, none⟩ = some (.slice A3 l3.length c3) ∧ w'.cell? ⟨bS, 0, none⟩ = some (.slice S0 r0.length eS0) ∧ w'.cell? ⟨bS, 1, none⟩ = some (.int .i64 rd) ∧ w'.cell? ⟨bS, 2, none⟩ = some (.int .i64 rc) ∧ w'.cell? ⟨bS, 3, none⟩ = some (.slice S1 r1.length eS1) ∧ w'.cell? ⟨bS, 4, none⟩ = some (.int .i64 rh) ∧ w'.cell? ⟨bS, 5, none⟩ = some (.slice S2 r2.length eS2) ∧ w'.cell? ⟨bS, 6, none⟩ = some (.int .i64 ra) ∧ w'.cell? ⟨bS, 7, none⟩ = some (.int .i64 rb) ∧ w'.cell? ⟨w4.heap.size, 0, none⟩ = some (.slice X0 m0.length eX0) ∧ w'.cell? ⟨w4.heap.size, 1, none⟩ = some (.int .i64 d) ∧ w'.cell? ⟨w4.heap.size, 2, none⟩ = some (.int .i64 c) ∧ w'.cell? ⟨w4.heap.size, 3, none⟩ = some (.slice X1 m1.length eX1) ∧ w'.cell? ⟨w4.heap.size, 4, none⟩ = some (.int .i64 h) ∧ w'.cell? ⟨w4.heap.size, 5, none⟩ = some (.slice X2 m2.length eX2) ∧ w'.cell? ⟨w4.heap.size, 6, none⟩ = some (.int .i64 a) ∧ w'.cell? ⟨w4.heap.size, 7, none⟩ = some (.int .i64 b) ∧ w'.cell? ⟨w6.heap.size, 0, none⟩ = some (.int .i64 e0) ∧ w'.cell? ⟨w6.heap.size, 1, none⟩ = some (.int .i64 e1) ∧ w'.cell? ⟨w6.heap.size, 2, none⟩ = some (.string e2) ∧ w'.cell? ⟨w6.heap.size, 3, none⟩ = some (.slice X3 m3.length eX3) ∧ w'.cell? ⟨w8.heap.size, 0, none⟩ = some (.slice G0 r0.length eG0) ∧ w'.cell? ⟨w8.heap.size, 1, none⟩ = some (.int .i64 rd) ∧ w'.cell? ⟨w8.heap.size, 2, none⟩ = some (.int .i64 rc) ∧ w'.cell? ⟨w8.heap.size, 3, none⟩ = some (.slice G1 r1.length eG1) ∧ w'.cell? ⟨w8.heap.size, 4, none⟩ = some (.int .i64 rh) ∧ w'.cell? ⟨w8.heap.size, 5, none⟩ = some (.slice G2 r2.length eG2) ∧ w'.cell? ⟨w8.heap.size, 6, none⟩ = some (.int .i64 ra) ∧ w'.cell? ⟨w8.heap.size, 7, none⟩ = some (.int .i64 rb)) ((first | go_keep | exact ⟨y00 hb (by assumption), y00 hb (by assumption), y00 hb (by assumption), y00 hb (by assumption), y00 hb (by assumption), y00 hb (by assumption), y00 hb (by assumption), y00 hb (by assumption), y00 hb (by assumption), y00 hb (by assumption), y00 hb (by assumption), y00 hb (by assumption), y00 hb (by assumption), y00 hb (by assumption), y00 hb (by assumption), y00 hb (by assumption), y00 hb (by assumption), y00 hb (by assumption), y00 hb (by assumption), y00 hb (by assumption), y00 hb (by assumption), y00 hb (by assumption), y00 hb (by assumption), y00 hb (by assumption), y00 hb (by assumption), y00 hb (by assumption), y00 hb (by assumption), y00 hb (by assumption), y00 hb (by assumption), y00 hb (by assumption), y00 hb (by assumption), y00 hb (by assumption), y00 hb (by assumption), y00 hb (by assumption), y00 hb (by assumption), y00 hb (by assumption), y00 hb (by assumption), y00 hb (by assumption), y00 hb (by assumption), y00 hb (by assumption)⟩ | (have hH := ‹_ ∧ _›; obtain ⟨t0, t1, t2, t3, t4, t5, t6, t7, t8, t9, t10, t11, t12, t13, t14, t15, t16, t17, t18, t19, t20, t21, t22, t23, t24, t25, t26, t27, t28, t29, t30, t31, t32, t33, t34, t35, t36, t37, t38, t39⟩ := hH; exact ⟨y00 hb t0, y00 hb t1, y00 hb t2, y00 hb t3, y00 hb t4, y00 hb t5, y00 hb t6, y00 hb t7, y00 hb t8, y00 hb t9, y00 hb t10, y00 hb t11, y00 hb t12, y00 hb t13, y00 hb t14, y00 hb t15, y00 hb t16, y00 hb t17, y00 hb t18, y00 hb t19, y00 hb t20, y00 hb t21, y00 hb t22, y00 hb t23, y00 hb t24, y00 hb t25, y00 hb t26, y00 hb t27, y00 hb t28, y00 hb t29, y00 hb t30, y00 hb t31, y00 hb t32, y00 hb t33, y00 hb t34, y00 hb t35, y00 hb t36, y00 hb t37, y00 hb t38, y00 hb t39⟩)))
    ((first | (go_at_call 22; refine (laws_toEntry.calls kBig e0 e1 e2 A3 c3 l3 e0 e1 e2 m3 _ (Kd.C_below H3.out (by repeat (first | exact HB.out | refine y04 ?_ | refine y02 ?_ _))) C3.out TE.out).mono ?_; rintro x wA ⟨v0, rfl, hR, hb⟩; obtain ⟨P, q, rfl, n0, g0⟩ := Kd.R_reads hR; have KKe := Aside0.mk g0; have HVAe := Aside0.mk (y10 (w := w11) hb (by repeat (first | exact HV.out | refine y04 ?_ | refine y02 ?_ _))); clear hR g0 n0) | (go_at_call 24; refine (laws_eqEntry.calls e0 e1 e2 X3 eX3 m3 e0 e1 e2 P q m3 _ (Kd.C_below ((Kd.R_reads' RX3.out).2.2) (by repeat (first | exact HV.out | exact HVAe.out | refine y04 ?_ | refine y02 ?_ _))) (Kd.C_below KKe.out (by repeat (first | exact Below.refl _ _ | refine y04 ?_ | refine y02 ?_ _)))).mono ?_; rintro x w12 ⟨rfl, hb⟩; have HVE2 := Aside0.mk (y10 (w := w11) hb (by repeat (first | exact HV.out | exact HVAe.out | refine y04 ?_ | refine y02 ?_ _))))))
  clear f0 f1 f2 f3 f4 f5 f6 f7 u0 u1 u2 u3 s_0 s_1 s_2 s_3 s_4 s_5 s_6 s_7 y0 y1 y2 y3 y4 y5 y6 y7 x0 x1 x2 x3 z0 z1 z2 z3 z4 z5 z6 z7
  have hH := ‹_ ∧ _›
  obtain ⟨f0, f1, f2, f3, f4, f5, f6, f7, u0, u1, u2, u3, s_0, s_1, s_2, s_3, s_4, s_5, s_6, s_7, y0, y1, y2, y3, y4, y5, y6, y7, x0, x1, x2, x3, z0, z1, z2, z3, z4, z5, z6, z7⟩ := hH
  have hb := HVE2.out
  replace RS0 := Aside0.mk (Kd.R_below RS0.out hb)
  replace RS1 := Aside0.mk (Kd.S_below RS1.out hb)
  replace RS2 := Aside0.mk (Kd.R_below RS2.out hb)
  replace RX0 := Aside0.mk (Kd.R_below RX0.out hb)
  replace RX1 := Aside0.mk (Kd.S_below RX1.out hb)
  replace RX2 := Aside0.mk (Kd.R_below RX2.out hb)
  replace RX3 := Aside0.mk (Kd.R_below RX3.out hb)
  replace RG0 := Aside0.mk (Kd.R_below RG0.out hb)
  replace RG1 := Aside0.mk (Kd.S_below RG1.out hb)
  replace RG2 := Aside0.mk (Kd.R_below RG2.out hb)
  replace HB := Aside0.mk (y10 (w := w) hb HB.out)
  replace B3 := Aside0.mk (y10 (w := w3) hb B3.out)
  replace SN := Aside0.mk (SN.out.below hb rfl)
  have s_w12 := hb.size
  clear hb HV
  rw [← same_true rfl]
  go_wp2_with fail
  refine (laws_markBooks.to2 w3.heap.size w4.heap.size X0 eX0 m0 d c X1 eX1 m1 h X2 eX2 m2 a b 1 w3 _ B3.out RX0.out RX1.out RX2.out (by omega) (by omega) (by omega) ML.out).mono ?_
  rintro x w13 ⟨rfl, hB3, hK, _, _, _⟩
  replace f0 := y11 f0 hK (by first | exact Or.inl (show w.heap.size < w3.heap.size by omega) | exact Or.inr (show w4.heap.size ≤ w.heap.size by omega))
  replace f1 := y11 f1 hK (by first | exact Or.inl (show w.heap.size < w3.heap.size by omega) | exact Or.inr (show w4.heap.size ≤ w.heap.size by omega))
  replace f2 := y11 f2 hK (by first | exact Or.inl (show w.heap.size < w3.heap.size by omega) | exact Or.inr (show w4.heap.size ≤ w.heap.size by omega))
  replace f3 := y11 f3 hK (by first | exact Or.inl (show w.heap.size < w3.heap.size by omega) | exact Or.inr (show w4.heap.size ≤ w.heap.size by omega))
  replace f4 := y11 f4 hK (by first | exact Or.inl (show w.heap.size < w3.heap.size by omega) | exact Or.inr (show w4.heap.size ≤ w.heap.size by omega))
  replace f5 := y11 f5 hK (by first | exact Or.inl (show w.heap.size < w3.heap.size by omega) | exact Or.inr (show w4.heap.size ≤ w.heap.size by omega))
  replace f6 := y11 f6 hK (by first | exact Or.inl (show w.heap.size < w3.heap.size by omega) | exact Or.inr (show w4.heap.size ≤ w.heap.size by omega))
  replace f7 := y11 f7 hK (by first | exact Or.inl (show w.heap.size < w3.heap.size by omega) | exact Or.inr (show w4.heap.size ≤ w.heap.size by omega))
  replace u0 := y11 u0 hK (by first | exact Or.inl (show w.heap.size + 1 < w3.heap.size by omega) | exact Or.inr (show w4.heap.size ≤ w.heap.size + 1 by omega))
  replace u1 := y11 u1 hK (by first | exact Or.inl (show w.heap.size + 1 < w3.heap.size by omega) | exact Or.inr (show w4.heap.size ≤ w.heap.size + 1 by omega))
  replace u2 := y11 u2 hK (by first | exact Or.inl (show w.heap.size + 1 < w3.heap.size by omega) | exact Or.inr (show w4.heap.size ≤ w.heap.size + 1 by omega))
  replace u3 := y11 u3 hK (by first | exact Or.inl (show w.heap.size + 1 < w3.heap.size by omega) | exact Or.inr (show w4.heap.size ≤ w.heap.size + 1 by omega))
  replace s_0 := y11 s_0 hK (by first | exact Or.inl (show bS < w3.heap.size by omega) | exact Or.inr (show w4.heap.size ≤ bS by omega))
  replace s_1 := y11 s_1 hK (by first | exact Or.inl (show bS < w3.heap.size by omega) | exact Or.inr (show w4.heap.size ≤ bS by omega))
  replace s_2 := y11 s_2 hK (by first | exact Or.inl (show bS < w3.heap.size by omega) | exact Or.inr (show w4.heap.size ≤ bS by omega))
  replace s_3 := y11 s_3 hK (by first | exact Or.inl (show bS < w3.heap.size by omega) | exact Or.inr (show w4.heap.size ≤ bS by omega))
  replace s_4 := y11 s_4 hK (by first | exact Or.inl (show bS < w3.heap.size by omega) | exact Or.inr (show w4.heap.size ≤ bS by omega))
  replace s_5 := y11 s_5 hK (by first | exact Or.inl (show bS < w3.heap.size by omega) | exact Or.inr (show w4.heap.size ≤ bS by omega))
  replace s_6 := y11 s_6 hK (by first | exact Or.inl (show bS < w3.heap.size by omega) | exact Or.inr (show w4.heap.size ≤ bS by omega))
  replace s_7 := y11 s_7 hK (by first | exact Or.inl (show bS < w3.heap.size by omega) | exact Or.inr (show w4.heap.size ≤ bS by omega))
  replace y0 := y11 y0 hK (by first | exact Or.inl (show w4.heap.size < w3.heap.size by omega) | exact Or.inr (show w4.heap.size ≤ w4.heap.size by omega))
  replace y1 := y11 y1 hK (by first | exact Or.inl (show w4.heap.size < w3.heap.size by omega) | exact Or.inr (show w4.heap.size ≤ w4.heap.size by omega))
  replace y2 := y11 y2 hK (by first | exact Or.inl (show w4.heap.size < w3.heap.size by omega) | exact Or.inr (show w4.heap.size ≤ w4.heap.size by omega))
  replace y3 := y11 y3 hK (by first | exact Or.inl (show w4.heap.size < w3.heap.size by omega) | exact Or.inr (show w4.heap.size ≤ w4.heap.size by omega))
  replace y4 := y11 y4 hK (by first | exact Or.inl (show w4.heap.size < w3.heap.size by omega) | exact Or.inr (show w4.heap.size ≤ w4.heap.size by omega))
  replace y5 := y11 y5 hK (by first | exact Or.inl (show w4.heap.size < w3.heap.size by omega) | exact Or.inr (show w4.heap.size ≤ w4.heap.size by omega))
  replace y6 := y11 y6 hK (by first | exact Or.inl (show w4.heap.size < w3.heap.size by omega) | exact Or.inr (show w4.heap.size ≤ w4.heap.size by omega))
  replace y7 := y11 y7 hK (by first | exact Or.inl (show w4.heap.size < w3.heap.size by omega) | exact Or.inr (show w4.heap.size ≤ w4.heap.size by omega))
  replace x0 := y11 x0 hK (by first | exact Or.inl (show w6.heap.size < w3.heap.size by omega) | exact Or.inr (show w4.heap.size ≤ w6.heap.size by omega))
  replace x1 := y11 x1 hK (by first | exact Or.inl (show w6.heap.size < w3.heap.size by omega) | exact Or.inr (show w4.heap.size ≤ w6.heap.size by omega))
  replace x2 := y11 x2 hK (by first | exact Or.inl (show w6.heap.size < w3.heap.size by omega) | exact Or.inr (show w4.heap.size ≤ w6.heap.size by omega))
  replace x3 := y11 x3 hK (by first | exact Or.inl (show w6.heap.size < w3.heap.size by omega) | exact Or.inr (show w4.heap.size ≤ w6.heap.size by omega))
  replace z0 := y11 z0 hK (by first | exact Or.inl (show w8.heap.size < w3.heap.size by omega) | exact Or.inr (show w4.heap.size ≤ w8.heap.size by omega))
  replace z1 := y11 z1 hK (by first | exact Or.inl (show w8.heap.size < w3.heap.size by omega) | exact Or.inr (show w4.heap.size ≤ w8.heap.size by omega))
  replace z2 := y11 z2 hK (by first | exact Or.inl (show w8.heap.size < w3.heap.size by omega) | exact Or.inr (show w4.heap.size ≤ w8.heap.size by omega))
  replace z3 := y11 z3 hK (by first | exact Or.inl (show w8.heap.size < w3.heap.size by omega) | exact Or.inr (show w4.heap.size ≤ w8.heap.size by omega))
  replace z4 := y11 z4 hK (by first | exact Or.inl (show w8.heap.size < w3.heap.size by omega) | exact Or.inr (show w4.heap.size ≤ w8.heap.size by omega))
  replace z5 := y11 z5 hK (by first | exact Or.inl (show w8.heap.size < w3.heap.size by omega) | exact Or.inr (show w4.heap.size ≤ w8.heap.size by omega))
  replace z6 := y11 z6 hK (by first | exact Or.inl (show w8.heap.size < w3.heap.size by omega) | exact Or.inr (show w4.heap.size ≤ w8.heap.size by omega))
  replace z7 := y11 z7 hK (by first | exact Or.inl (show w8.heap.size < w3.heap.size by omega) | exact Or.inr (show w4.heap.size ≤ w8.heap.size by omega))
  replace RS0 := Aside0.mk (R_iv_kept RS0.out hK (by omega))
  replace RS1 := Aside0.mk (S_iv_kept RS1.out hK (by omega))
  replace RS2 := Aside0.mk (R_iv_kept RS2.out hK (by omega))
  replace RX3 := Aside0.mk (R_iv_kept RX3.out hK (by omega))
  replace RG0 := Aside0.mk (R_iv_kept RG0.out hK (by omega))
  replace RG1 := Aside0.mk (S_iv_kept RG1.out hK (by omega))
  replace RG2 := Aside0.mk (R_iv_kept RG2.out hK (by omega))
  replace B3 := Aside0.mk hB3
  replace HB := Aside0.mk (y10 (w := w) hB3 HBW.out)
  have s_w13 := hK.1
  clear hB3 hK RX0 RX1 RX2 SN
  have mb := (mkB_b (k := 1) ML.out).2.2
  generalize mkB 1 m0 m1 m2 = K1 at *
  go_wp2_with fail
  refine (laws_markEntry.calls kBig e0 e1 e2 (Iv w5.heap.size w6.heap.size) (.slice X3 m3.length eX3) m3 K1 _ _ w3 _ B3.out RX3.out (laws_markEntry_is e0 e1 e2 m3 kBig K1 (Nat.lt_of_lt_of_le (by have := ML3.out; omega) kBig_le) ML3.out (by omega) (by omega))).mono ?_
  rintro x w14 ⟨rfl, hR, hB3, hK⟩
  replace f0 := y11 f0 hK (by first | exact Or.inl (show w.heap.size < w5.heap.size by omega) | exact Or.inr (show w6.heap.size ≤ w.heap.size by omega))
  replace f1 := y11 f1 hK (by first | exact Or.inl (show w.heap.size < w5.heap.size by omega) | exact Or.inr (show w6.heap.size ≤ w.heap.size by omega))
  replace f2 := y11 f2 hK (by first | exact Or.inl (show w.heap.size < w5.heap.size by omega) | exact Or.inr (show w6.heap.size ≤ w.heap.size by omega))
  replace f3 := y11 f3 hK (by first | exact Or.inl (show w.heap.size < w5.heap.size by omega) | exact Or.inr (show w6.heap.size ≤ w.heap.size by omega))
  replace f4 := y11 f4 hK (by first | exact Or.inl (show w.heap.size < w5.heap.size by omega) | exact Or.inr (show w6.heap.size ≤ w.heap.size by omega))
  replace f5 := y11 f5 hK (by first | exact Or.inl (show w.heap.size < w5.heap.size by omega) | exact Or.inr (show w6.heap.size ≤ w.heap.size by omega))
  replace f6 := y11 f6 hK (by first | exact Or.inl (show w.heap.size < w5.heap.size by omega) | exact Or.inr (show w6.heap.size ≤ w.heap.size by omega))
  replace f7 := y11 f7 hK (by first | exact Or.inl (show w.heap.size < w5.heap.size by omega) | exact Or.inr (show w6.heap.size ≤ w.heap.size by omega))
  replace u0 := y11 u0 hK (by first | exact Or.inl (show w.heap.size + 1 < w5.heap.size by omega) | exact Or.inr (show w6.heap.size ≤ w.heap.size + 1 by omega))
  replace u1 := y11 u1 hK (by first | exact Or.inl (show w.heap.size + 1 < w5.heap.size by omega) | exact Or.inr (show w6.heap.size ≤ w.heap.size + 1 by omega))
  replace u2 := y11 u2 hK (by first | exact Or.inl (show w.heap.size + 1 < w5.heap.size by omega) | exact Or.inr (show w6.heap.size ≤ w.heap.size + 1 by omega))
  replace u3 := y11 u3 hK (by first | exact Or.inl (show w.heap.size + 1 < w5.heap.size by omega) | exact Or.inr (show w6.heap.size ≤ w.heap.size + 1 by omega))
  replace s_0 := y11 s_0 hK (by first | exact Or.inl (show bS < w5.heap.size by omega) | exact Or.inr (show w6.heap.size ≤ bS by omega))
  replace s_1 := y11 s_1 hK (by first | exact Or.inl (show bS < w5.heap.size by omega) | exact Or.inr (show w6.heap.size ≤ bS by omega))
  replace s_2 := y11 s_2 hK (by first | exact Or.inl (show bS < w5.heap.size by omega) | exact Or.inr (show w6.heap.size ≤ bS by omega))
  replace s_3 := y11 s_3 hK (by first | exact Or.inl (show bS < w5.heap.size by omega) | exact Or.inr (show w6.heap.size ≤ bS by omega))
  replace s_4 := y11 s_4 hK (by first | exact Or.inl (show bS < w5.heap.size by omega) | exact Or.inr (show w6.heap.size ≤ bS by omega))
  replace s_5 := y11 s_5 hK (by first | exact Or.inl (show bS < w5.heap.size by omega) | exact Or.inr (show w6.heap.size ≤ bS by omega))
  replace s_6 := y11 s_6 hK (by first | exact Or.inl (show bS < w5.heap.size by omega) | exact Or.inr (show w6.heap.size ≤ bS by omega))
  replace s_7 := y11 s_7 hK (by first | exact Or.inl (show bS < w5.heap.size by omega) | exact Or.inr (show w6.heap.size ≤ bS by omega))
  replace y0 := y11 y0 hK (by first | exact Or.inl (show w4.heap.size < w5.heap.size by omega) | exact Or.inr (show w6.heap.size ≤ w4.heap.size by omega))
  replace y1 := y11 y1 hK (by first | exact Or.inl (show w4.heap.size < w5.heap.size by omega) | exact Or.inr (show w6.heap.size ≤ w4.heap.size by omega))
  replace y2 := y11 y2 hK (by first | exact Or.inl (show w4.heap.size < w5.heap.size by omega) | exact Or.inr (show w6.heap.size ≤ w4.heap.size by omega))
  replace y3 := y11 y3 hK (by first | exact Or.inl (show w4.heap.size < w5.heap.size by omega) | exact Or.inr (show w6.heap.size ≤ w4.heap.size by omega))
  replace y4 := y11 y4 hK (by first | exact Or.inl (show w4.heap.size < w5.heap.size by omega) | exact Or.inr (show w6.heap.size ≤ w4.heap.size by omega))
  replace y5 := y11 y5 hK (by first | exact Or.inl (show w4.heap.size < w5.heap.size by omega) | exact Or.inr (show w6.heap.size ≤ w4.heap.size by omega))
  replace y6 := y11 y6 hK (by first | exact Or.inl (show w4.heap.size < w5.heap.size by omega) | exact Or.inr (show w6.heap.size ≤ w4.heap.size by omega))
  replace y7 := y11 y7 hK (by first | exact Or.inl (show w4.heap.size < w5.heap.size by omega) | exact Or.inr (show w6.heap.size ≤ w4.heap.size by omega))
  replace x0 := y11 x0 hK (by first | exact Or.inl (show w6.heap.size < w5.heap.size by omega) | exact Or.inr (show w6.heap.size ≤ w6.heap.size by omega))
  replace x1 := y11 x1 hK (by first | exact Or.inl (show w6.heap.size < w5.heap.size by omega) | exact Or.inr (show w6.heap.size ≤ w6.heap.size by omega))
  replace x2 := y11 x2 hK (by first | exact Or.inl (show w6.heap.size < w5.heap.size by omega) | exact Or.inr (show w6.heap.size ≤ w6.heap.size by omega))
  replace x3 := y11 x3 hK (by first | exact Or.inl (show w6.heap.size < w5.heap.size by omega) | exact Or.inr (show w6.heap.size ≤ w6.heap.size by omega))
  replace z0 := y11 z0 hK (by first | exact Or.inl (show w8.heap.size < w5.heap.size by omega) | exact Or.inr (show w6.heap.size ≤ w8.heap.size by omega))
  replace z1 := y11 z1 hK (by first | exact Or.inl (show w8.heap.size < w5.heap.size by omega) | exact Or.inr (show w6.heap.size ≤ w8.heap.size by omega))
  replace z2 := y11 z2 hK (by first | exact Or.inl (show w8.heap.size < w5.heap.size by omega) | exact Or.inr (show w6.heap.size ≤ w8.heap.size by omega))
  replace z3 := y11 z3 hK (by first | exact Or.inl (show w8.heap.size < w5.heap.size by omega) | exact Or.inr (show w6.heap.size ≤ w8.heap.size by omega))
  replace z4 := y11 z4 hK (by first | exact Or.inl (show w8.heap.size < w5.heap.size by omega) | exact Or.inr (show w6.heap.size ≤ w8.heap.size by omega))
  replace z5 := y11 z5 hK (by first | exact Or.inl (show w8.heap.size < w5.heap.size by omega) | exact Or.inr (show w6.heap.size ≤ w8.heap.size by omega))
  replace z6 := y11 z6 hK (by first | exact Or.inl (show w8.heap.size < w5.heap.size by omega) | exact Or.inr (show w6.heap.size ≤ w8.heap.size by omega))
  replace z7 := y11 z7 hK (by first | exact Or.inl (show w8.heap.size < w5.heap.size by omega) | exact Or.inr (show w6.heap.size ≤ w8.heap.size by omega))
  replace RS0 := Aside0.mk (R_iv_kept RS0.out hK (by omega))
  replace RS1 := Aside0.mk (S_iv_kept RS1.out hK (by omega))
  replace RS2 := Aside0.mk (R_iv_kept RS2.out hK (by omega))
  replace RG0 := Aside0.mk (R_iv_kept RG0.out hK (by omega))
  replace RG1 := Aside0.mk (S_iv_kept RG1.out hK (by omega))
  replace RG2 := Aside0.mk (R_iv_kept RG2.out hK (by omega))
  replace B3 := Aside0.mk hB3
  replace HB := Aside0.mk (y10 (w := w) hB3 HBW.out)
  have s_w14 := hK.1
  clear hR hB3 hK RX3
  have nb := nLine_b m3 K1
  have nl := ML3.out
  generalize nAll nLine K1 m3 = K2 at *
  have nb2 : decide (K2 < 0) = false := decide_eq_false (by omega)
  go_wp2_with fail
  refine (laws_eqBooks.calls G0 eG0 r0 rd rc G1 eG1 r1 rh G2 eG2 r2 ra rb S0 eS0 r0 rd rc S1 eS1 r1 rh S2 eS2 r2 ra rb _ ((Kd.R_reads' RG0.out).2.2) ((Kd.S_reads' RG1.out).2.2) ((Kd.R_reads' RG2.out).2.2) ((Kd.R_reads' RS0.out).2.2) ((Kd.S_reads' RS1.out).2.2) ((Kd.R_reads' RS2.out).2.2)).mono ?_
  rintro x w15 ⟨rfl, hb⟩
  replace f0 := y00 hb f0
  replace f1 := y00 hb f1
  replace f2 := y00 hb f2
  replace f3 := y00 hb f3
  replace f4 := y00 hb f4
  replace f5 := y00 hb f5
  replace f6 := y00 hb f6
  replace f7 := y00 hb f7
  replace u0 := y00 hb u0
  replace u1 := y00 hb u1
  replace u2 := y00 hb u2
  replace u3 := y00 hb u3
  replace s_0 := y00 hb s_0
  replace s_1 := y00 hb s_1
  replace s_2 := y00 hb s_2
  replace s_3 := y00 hb s_3
  replace s_4 := y00 hb s_4
  replace s_5 := y00 hb s_5
  replace s_6 := y00 hb s_6
  replace s_7 := y00 hb s_7
  replace y0 := y00 hb y0
  replace y1 := y00 hb y1
  replace y2 := y00 hb y2
  replace y3 := y00 hb y3
  replace y4 := y00 hb y4
  replace y5 := y00 hb y5
  replace y6 := y00 hb y6
  replace y7 := y00 hb y7
  replace x0 := y00 hb x0
  replace x1 := y00 hb x1
  replace x2 := y00 hb x2
  replace x3 := y00 hb x3
  replace z0 := y00 hb z0
  replace z1 := y00 hb z1
  replace z2 := y00 hb z2
  replace z3 := y00 hb z3
  replace z4 := y00 hb z4
  replace z5 := y00 hb z5
  replace z6 := y00 hb z6
  replace z7 := y00 hb z7
  replace RS0 := Aside0.mk (Kd.R_below RS0.out hb)
  replace RS1 := Aside0.mk (Kd.S_below RS1.out hb)
  replace RS2 := Aside0.mk (Kd.R_below RS2.out hb)
  replace RG0 := Aside0.mk (Kd.R_below RG0.out hb)
  replace RG1 := Aside0.mk (Kd.S_below RG1.out hb)
  replace RG2 := Aside0.mk (Kd.R_below RG2.out hb)
  replace HB := Aside0.mk (y10 (w := w) hb HB.out)
  replace B3 := Aside0.mk (y10 (w := w3) hb B3.out)
  have s_w15 := hb.size
  clear hb
  rw [← same_true rfl]
  clear nb2 nb nl mb
  go_wp2_with fail
  refine (laws_markBooks.to2 w7.heap.size w8.heap.size G0 eG0 r0 rd rc G1 eG1 r1 rh G2 eG2 r2 ra rb 1 w3 _ B3.out RG0.out RG1.out RG2.out (by omega) (by omega) (by omega) MR.out).mono ?_
  rintro x w16 ⟨rfl, hB3, hK, hM0, hM1, hM2⟩
  have RM0 := Aside0.mk hM0
  have RM1 := Aside0.mk hM1
  have RM2 := Aside0.mk hM2
  replace f0 := y11 f0 hK (by first | exact Or.inl (show w.heap.size < w7.heap.size by omega) | exact Or.inr (show w8.heap.size ≤ w.heap.size by omega))
  replace f1 := y11 f1 hK (by first | exact Or.inl (show w.heap.size < w7.heap.size by omega) | exact Or.inr (show w8.heap.size ≤ w.heap.size by omega))
  replace f2 := y11 f2 hK (by first | exact Or.inl (show w.heap.size < w7.heap.size by omega) | exact Or.inr (show w8.heap.size ≤ w.heap.size by omega))
  replace f3 := y11 f3 hK (by first | exact Or.inl (show w.heap.size < w7.heap.size by omega) | exact Or.inr (show w8.heap.size ≤ w.heap.size by omega))
  replace f4 := y11 f4 hK (by first | exact Or.inl (show w.heap.size < w7.heap.size by omega) | exact Or.inr (show w8.heap.size ≤ w.heap.size by omega))
  replace f5 := y11 f5 hK (by first | exact Or.inl (show w.heap.size < w7.heap.size by omega) | exact Or.inr (show w8.heap.size ≤ w.heap.size by omega))
  replace f6 := y11 f6 hK (by first | exact Or.inl (show w.heap.size < w7.heap.size by omega) | exact Or.inr (show w8.heap.size ≤ w.heap.size by omega))
  replace f7 := y11 f7 hK (by first | exact Or.inl (show w.heap.size < w7.heap.size by omega) | exact Or.inr (show w8.heap.size ≤ w.heap.size by omega))
  replace u0 := y11 u0 hK (by first | exact Or.inl (show w.heap.size + 1 < w7.heap.size by omega) | exact Or.inr (show w8.heap.size ≤ w.heap.size + 1 by omega))
  replace u1 := y11 u1 hK (by first | exact Or.inl (show w.heap.size + 1 < w7.heap.size by omega) | exact Or.inr (show w8.heap.size ≤ w.heap.size + 1 by omega))
  replace u2 := y11 u2 hK (by first | exact Or.inl (show w.heap.size + 1 < w7.heap.size by omega) | exact Or.inr (show w8.heap.size ≤ w.heap.size + 1 by omega))
  replace u3 := y11 u3 hK (by first | exact Or.inl (show w.heap.size + 1 < w7.heap.size by omega) | exact Or.inr (show w8.heap.size ≤ w.heap.size + 1 by omega))
  replace s_0 := y11 s_0 hK (by first | exact Or.inl (show bS < w7.heap.size by omega) | exact Or.inr (show w8.heap.size ≤ bS by omega))
  replace s_1 := y11 s_1 hK (by first | exact Or.inl (show bS < w7.heap.size by omega) | exact Or.inr (show w8.heap.size ≤ bS by omega))
  replace s_2 := y11 s_2 hK (by first | exact Or.inl (show bS < w7.heap.size by omega) | exact Or.inr (show w8.heap.size ≤ bS by omega))
  replace s_3 := y11 s_3 hK (by first | exact Or.inl (show bS < w7.heap.size by omega) | exact Or.inr (show w8.heap.size ≤ bS by omega))
  replace s_4 := y11 s_4 hK (by first | exact Or.inl (show bS < w7.heap.size by omega) | exact Or.inr (show w8.heap.size ≤ bS by omega))
  replace s_5 := y11 s_5 hK (by first | exact Or.inl (show bS < w7.heap.size by omega) | exact Or.inr (show w8.heap.size ≤ bS by omega))
  replace s_6 := y11 s_6 hK (by first | exact Or.inl (show bS < w7.heap.size by omega) | exact Or.inr (show w8.heap.size ≤ bS by omega))
  replace s_7 := y11 s_7 hK (by first | exact Or.inl (show bS < w7.heap.size by omega) | exact Or.inr (show w8.heap.size ≤ bS by omega))
  replace y0 := y11 y0 hK (by first | exact Or.inl (show w4.heap.size < w7.heap.size by omega) | exact Or.inr (show w8.heap.size ≤ w4.heap.size by omega))
  replace y1 := y11 y1 hK (by first | exact Or.inl (show w4.heap.size < w7.heap.size by omega) | exact Or.inr (show w8.heap.size ≤ w4.heap.size by omega))
  replace y2 := y11 y2 hK (by first | exact Or.inl (show w4.heap.size < w7.heap.size by omega) | exact Or.inr (show w8.heap.size ≤ w4.heap.size by omega))
  replace y3 := y11 y3 hK (by first | exact Or.inl (show w4.heap.size < w7.heap.size by omega) | exact Or.inr (show w8.heap.size ≤ w4.heap.size by omega))
  replace y4 := y11 y4 hK (by first | exact Or.inl (show w4.heap.size < w7.heap.size by omega) | exact Or.inr (show w8.heap.size ≤ w4.heap.size by omega))
  replace y5 := y11 y5 hK (by first | exact Or.inl (show w4.heap.size < w7.heap.size by omega) | exact Or.inr (show w8.heap.size ≤ w4.heap.size by omega))
  replace y6 := y11 y6 hK (by first | exact Or.inl (show w4.heap.size < w7.heap.size by omega) | exact Or.inr (show w8.heap.size ≤ w4.heap.size by omega))
  replace y7 := y11 y7 hK (by first | exact Or.inl (show w4.heap.size < w7.heap.size by omega) | exact Or.inr (show w8.heap.size ≤ w4.heap.size by omega))
  replace x0 := y11 x0 hK (by first | exact Or.inl (show w6.heap.size < w7.heap.size by omega) | exact Or.inr (show w8.heap.size ≤ w6.heap.size by omega))
  replace x1 := y11 x1 hK (by first | exact Or.inl (show w6.heap.size < w7.heap.size by omega) | exact Or.inr (show w8.heap.size ≤ w6.heap.size by omega))
  replace x2 := y11 x2 hK (by first | exact Or.inl (show w6.heap.size < w7.heap.size by omega) | exact Or.inr (show w8.heap.size ≤ w6.heap.size by omega))
  replace x3 := y11 x3 hK (by first | exact Or.inl (show w6.heap.size < w7.heap.size by omega) | exact Or.inr (show w8.heap.size ≤ w6.heap.size by omega))
  replace z0 := y11 z0 hK (by first | exact Or.inl (show w8.heap.size < w7.heap.size by omega) | exact Or.inr (show w8.heap.size ≤ w8.heap.size by omega))
  replace z1 := y11 z1 hK (by first | exact Or.inl (show w8.heap.size < w7.heap.size by omega) | exact Or.inr (show w8.heap.size ≤ w8.heap.size by omega))
  replace z2 := y11 z2 hK (by first | exact Or.inl (show w8.heap.size < w7.heap.size by omega) | exact Or.inr (show w8.heap.size ≤ w8.heap.size by omega))
  replace z3 := y11 z3 hK (by first | exact Or.inl (show w8.heap.size < w7.heap.size by omega) | exact Or.inr (show w8.heap.size ≤ w8.heap.size by omega))
  replace z4 := y11 z4 hK (by first | exact Or.inl (show w8.heap.size < w7.heap.size by omega) | exact Or.inr (show w8.heap.size ≤ w8.heap.size by omega))
  replace z5 := y11 z5 hK (by first | exact Or.inl (show w8.heap.size < w7.heap.size by omega) | exact Or.inr (show w8.heap.size ≤ w8.heap.size by omega))
  replace z6 := y11 z6 hK (by first | exact Or.inl (show w8.heap.size < w7.heap.size by omega) | exact Or.inr (show w8.heap.size ≤ w8.heap.size by omega))
  replace z7 := y11 z7 hK (by first | exact Or.inl (show w8.heap.size < w7.heap.size by omega) | exact Or.inr (show w8.heap.size ≤ w8.heap.size by omega))
  replace RS0 := Aside0.mk (R_iv_kept RS0.out hK (by omega))
  replace RS1 := Aside0.mk (S_iv_kept RS1.out hK (by omega))
  replace RS2 := Aside0.mk (R_iv_kept RS2.out hK (by omega))
  replace B3 := Aside0.mk hB3
  replace HB := Aside0.mk (y10 (w := w) hB3 HBW.out)
  have s_w16 := hK.1
  clear hB3 hK RG0 RG1 RG2 hM0 hM1 hM2
  have mb := (mkB_b (k := 1) MR.out).2.2
  have HLD := Aside0.mk (fun (W : World) (hC0 : Kd.C k48 W G0 r0.length (mAll mAcc nAcc 1 r0)) (hC1 : Kd.C k41 W G1 r1.length (mAll mEnt nEnt (nAll nAcc 1 r0) r1)) (hC2 : Kd.C k84 W G2 r2.length (mAll mPer nPer (nAll nEnt (nAll nAcc 1 r0) r1) r2)) => laws_heldBooks.to G0 eG0 r0 rd rc G1 eG1 r1 rh G2 eG2 r2 ra rb 1 W hC0 hC1 hC2 NG0.out NG2.out (by omega) (by omega) MR.out)
  have NM := Aside0.mk (And.intro (mAll_length mAcc nAcc r0 1) (And.intro (mAll_length mEnt nEnt r1 (nAll nAcc 1 r0)) (mAll_length mPer nPer r2 (nAll nEnt (nAll nAcc 1 r0) r1))))
  generalize mkB 1 r0 r1 r2 = Q at *
  generalize mAll mPer nPer (nAll nEnt (nAll nAcc 1 r0) r1) r2 = M2 at *
  generalize mAll mEnt nEnt (nAll nAcc 1 r0) r1 = M1 at *
  generalize mAll mAcc nAcc 1 r0 = M0 at *
  have nq : decide (Q < 0) = false := decide_eq_false (by omega)
  go_wp2_with fail
  refine (HLD.out _ (by have hC := (Kd.R_reads' RM0.out).2.2; rw [NM.out.1] at hC; exact hC) (by have hC := (Kd.S_reads' RM1.out).2.2; rw [NM.out.2.1] at hC; exact hC) (by have hC := (Kd.R_reads' RM2.out).2.2; rw [NM.out.2.2] at hC; exact hC)).mono ?_
  rintro x w17 ⟨rfl, hb⟩
  replace f0 := y00 hb f0
  replace f1 := y00 hb f1
  replace f2 := y00 hb f2
  replace f3 := y00 hb f3
  replace f4 := y00 hb f4
  replace f5 := y00 hb f5
  replace f6 := y00 hb f6
  replace f7 := y00 hb f7
  replace u0 := y00 hb u0
  replace u1 := y00 hb u1
  replace u2 := y00 hb u2
  replace u3 := y00 hb u3
  replace s_0 := y00 hb s_0
  replace s_1 := y00 hb s_1
  replace s_2 := y00 hb s_2
  replace s_3 := y00 hb s_3
  replace s_4 := y00 hb s_4
  replace s_5 := y00 hb s_5
  replace s_6 := y00 hb s_6
  replace s_7 := y00 hb s_7
  replace y0 := y00 hb y0
  replace y1 := y00 hb y1
  replace y2 := y00 hb y2
  replace y3 := y00 hb y3
  replace y4 := y00 hb y4
  replace y5 := y00 hb y5
  replace y6 := y00 hb y6
  replace y7 := y00 hb y7
  replace x0 := y00 hb x0
  replace x1 := y00 hb x1
  replace x2 := y00 hb x2
  replace x3 := y00 hb x3
  replace z0 := y00 hb z0
  replace z1 := y00 hb z1
  replace z2 := y00 hb z2
  replace z3 := y00 hb z3
  replace z4 := y00 hb z4
  replace z5 := y00 hb z5
  replace z6 := y00 hb z6
  replace z7 := y00 hb z7
  replace RS0 := Aside0.mk (Kd.R_below RS0.out hb)
  replace RS1 := Aside0.mk (Kd.S_below RS1.out hb)
  replace RS2 := Aside0.mk (Kd.R_below RS2.out hb)
  replace RM0 := Aside0.mk (Kd.R_below RM0.out hb)
  replace RM1 := Aside0.mk (Kd.S_below RM1.out hb)
  replace RM2 := Aside0.mk (Kd.R_below RM2.out hb)
  replace HB := Aside0.mk (y10 (w := w) hb HB.out)
  replace B3 := Aside0.mk (y10 (w := w3) hb B3.out)
  have s_w17 := hb.size
  clear hb
  have SN := Aside0.mk (SN0.out.below HB.out rfl)
  clear mb
  have zz_f0 := World.block_lt_of_cell? _ _ f0
  have zz_u0 := World.block_lt_of_cell? _ _ u0
  have zz_s_0 := World.block_lt_of_cell? _ _ s_0
  have zz_y0 := World.block_lt_of_cell? _ _ y0
  have zz_x0 := World.block_lt_of_cell? _ _ x0
  have zz_z0 := World.block_lt_of_cell? _ _ z0
  go_upto_region 31 with fail
  have HV := Aside0.mk (Below.refl w17.heap.size w17)
  go_cut [15, 16] (fun s10_ s11_ wx => ∃ (b_ : Nat) (A_0 A_1 A_2 : Option Addr) (c_0 c_1 c_2 : Nat), s10_ = .pointer (some ⟨b_, 0, none⟩) ∧ s11_ = .int .i64 rk ∧ w17.heap.size ≤ b_ ∧ wx.heap[b_]? = some (.cells #[.slice A_0 r0.length c_0, .int .i64 rd, .int .i64 rc, .slice A_1 r1.length c_1, .int .i64 rh, .slice A_2 r2.length c_2, .int .i64 ra, .int .i64 rb] 32 (0, 0)) ∧ Aside0 (r0.length ≤ c_0) ∧ Aside0 (r1.length ≤ c_1) ∧ Aside0 (r2.length ≤ c_2) ∧ Aside0 (k48.R 48 wx w17.heap.size (Iv w17.heap.size wx.heap.size) (.slice A_0 r0.length c_0) r0) ∧ Aside0 (Kd.S k41 41 wx w17.heap.size (Iv w17.heap.size wx.heap.size) (.slice A_1 r1.length c_1) r1) ∧ Aside0 (k84.R 84 wx w17.heap.size (Iv w17.heap.size wx.heap.size) (.slice A_2 r2.length c_2) r2) ∧ Aside0 (Below w17.heap.size w17 wx))
  case first =>
    go_region_held3 (fun w' => w'.cell? ⟨w.heap.size, 0, none⟩ = some (.slice A0 l0.length c0) ∧ w'.cell? ⟨w.heap.size, 1, none⟩ = some (.int .i64 d) ∧ w'.cell? ⟨w.heap.size, 2, none⟩ = some (.int .i64 c) ∧ w'.cell? ⟨w.heap.size, 3, none⟩ = some (.slice A1 l1.length c1) ∧ w'.cell? ⟨w.heap.size, 4, none⟩ = some (.int .i64 h) ∧ w'.cell? ⟨w.heap.size, 5, none⟩ = some (.slice A2 l2.length c2) ∧ w'.cell? ⟨w.heap.size, 6, none⟩ = some (.int .i64 a) ∧ w'.cell? ⟨w.heap.size, 7, none⟩ = some (.int .i64 b) ∧ w'.cell? ⟨w.heap.size + 1, 0, none⟩ = some (.int .i64 e0) ∧ w'.cell? ⟨w.heap.size + 1, 1, none⟩ = some (.int .i64 e1) ∧ w'.cell? ⟨w.heap.size + 1, 2, none⟩ = some (.string e2) ∧ w'.cell? ⟨w.heap.size + 1, 3, none⟩ = some (.slice A3 l3.length c3) ∧ w'.cell? ⟨bS, 0, none⟩ = some (.slice S0 r0.length eS0) ∧ w'.cell? ⟨bS, 1, none⟩ = some (.int .i64 rd) ∧ w'.cell? ⟨bS, 2, none⟩ = some (.int .i64 rc) ∧ w'.cell? ⟨bS, 3, none⟩ = some (.slice S1 r1.length eS1) ∧ w'.cell? ⟨bS, 4, none⟩ = some (.int .i64 rh) ∧ w'.cell? ⟨bS, 5, none⟩ = some (.slice S2 r2.length eS2) ∧ w'.cell? ⟨bS, 6, none⟩ = some (.int .i64 ra) ∧ w'.cell? ⟨bS, 7, none⟩ = some (.int .i64 rb) ∧ w'.cell? ⟨w4.heap.size, 0, none⟩ = some (.slice X0 m0.length eX0) ∧ w'.cell? ⟨w4.heap.size, 1, none⟩ = some (.int .i64 d) ∧ w'.cell? ⟨w4.heap.size, 2, none⟩ = some (.int .i64 c) ∧ w'.cell? ⟨w4.heap.size, 3, none⟩ = some (.slice X1 m1.length eX1) ∧ w'.cell? ⟨w4.heap.size, 4, none⟩ = some (.int .i64 h) ∧ w'.cell? ⟨w4.heap.size, 5, none⟩ = some (.slice X2 m2.length eX2) ∧ w'.cell? ⟨w4.heap.size, 6, none⟩ = some (.int .i64 a) ∧ w'.cell? ⟨w4.heap.size, 7, none⟩ = some (.int .i64 b) ∧ w'.cell? ⟨w6.heap.size, 0, none⟩ = some (.int .i64 e0) ∧ w'.cell? ⟨w6.heap.size, 1, none⟩ = some (.int .i64 e1) ∧ w'.cell? ⟨w6.heap.size, 2, none⟩ = some (.string e2) ∧ w'.cell? ⟨w6.heap.size, 3, none⟩ = some (.slice X3 m3.length eX3) ∧ w'.cell? ⟨w8.heap.size, 0, none⟩ = some (.slice G0 r0.length eG0) ∧ w'.cell? ⟨w8.heap.size, 1, none⟩ = some (.int .i64 rd) ∧ w'.cell? ⟨w8.heap.size, 2, none⟩ = some (.int .i64 rc) ∧ w'.cell? ⟨w8.heap.size, 3, none⟩ = some (.slice G1 r1.length eG1) ∧ w'.cell? ⟨w8.heap.size, 4, none⟩ = some (.int .i64 rh) ∧ w'.cell? ⟨w8.heap.size, 5, none⟩ = some (.slice G2 r2.length eG2) ∧ w'.cell? ⟨w8.heap.size, 6, none⟩ = some (.int .i64 ra) ∧ w'.cell? ⟨w8.heap.size, 7, none⟩ = some (.int .i64 rb)) ((first | (have hH := ‹_ ∧ _›; obtain ⟨t0, t1, t2, t3, t4, t5, t6, t7, t8, t9, t10, t11, t12, t13, t14, t15, t16, t17, t18, t19, t20, t21, t22, t23, t24, t25, t26, t27, t28, t29, t30, t31, t32, t33, t34, t35, t36, t37, t38, t39⟩ := hH; first | (with_reducible exact ⟨y00 hb t0, y00 hb t1, y00 hb t2, y00 hb t3, y00 hb t4, y00 hb t5, y00 hb t6, y00 hb t7, y00 hb t8, y00 hb t9, y00 hb t10, y00 hb t11, y00 hb t12, y00 hb t13, y00 hb t14, y00 hb t15, y00 hb t16, y00 hb t17, y00 hb t18, y00 hb t19, y00 hb t20, y00 hb t21, y00 hb t22, y00 hb t23, y00 hb t24, y00 hb t25, y00 hb t26, y00 hb t27, y00 hb t28, y00 hb t29, y00 hb t30, y00 hb t31, y00 hb t32, y00 hb t33, y00 hb t34, y00 hb t35, y00 hb t36, y00 hb t37, y00 hb t38, y00 hb t39⟩) | (with_reducible exact ⟨y00 (y01 (Below.refl _ _) _) t0, y00 (y01 (Below.refl _ _) _) t1, y00 (y01 (Below.refl _ _) _) t2, y00 (y01 (Below.refl _ _) _) t3, y00 (y01 (Below.refl _ _) _) t4, y00 (y01 (Below.refl _ _) _) t5, y00 (y01 (Below.refl _ _) _) t6, y00 (y01 (Below.refl _ _) _) t7, y00 (y01 (Below.refl _ _) _) t8, y00 (y01 (Below.refl _ _) _) t9, y00 (y01 (Below.refl _ _) _) t10, y00 (y01 (Below.refl _ _) _) t11, y00 (y01 (Below.refl _ _) _) t12, y00 (y01 (Below.refl _ _) _) t13, y00 (y01 (Below.refl _ _) _) t14, y00 (y01 (Below.refl _ _) _) t15, y00 (y01 (Below.refl _ _) _) t16, y00 (y01 (Below.refl _ _) _) t17, y00 (y01 (Below.refl _ _) _) t18, y00 (y01 (Below.refl _ _) _) t19, y00 (y01 (Below.refl _ _) _) t20, y00 (y01 (Below.refl _ _) _) t21, y00 (y01 (Below.refl _ _) _) t22, y00 (y01 (Below.refl _ _) _) t23, y00 (y01 (Below.refl _ _) _) t24, y00 (y01 (Below.refl _ _) _) t25, y00 (y01 (Below.refl _ _) _) t26, y00 (y01 (Below.refl _ _) _) t27, y00 (y01 (Below.refl _ _) _) t28, y00 (y01 (Below.refl _ _) _) t29, y00 (y01 (Below.refl _ _) _) t30, y00 (y01 (Below.refl _ _) _) t31, y00 (y01 (Below.refl _ _) _) t32, y00 (y01 (Below.refl _ _) _) t33, y00 (y01 (Below.refl _ _) _) t34, y00 (y01 (Below.refl _ _) _) t35, y00 (y01 (Below.refl _ _) _) t36, y00 (y01 (Below.refl _ _) _) t37, y00 (y01 (Below.refl _ _) _) t38, y00 (y01 (Below.refl _ _) _) t39⟩) | (with_reducible exact ⟨t0, t1, t2, t3, t4, t5, t6, t7, t8, t9, t10, t11, t12, t13, t14, t15, t16, t17, t18, t19, t20, t21, t22, t23, t24, t25, t26, t27, t28, t29, t30, t31, t32, t33, t34, t35, t36, t37, t38, t39⟩) | (with_reducible refine ⟨cell_alloc2 t0 ?_, cell_alloc2 t1 ?_, cell_alloc2 t2 ?_, cell_alloc2 t3 ?_, cell_alloc2 t4 ?_, cell_alloc2 t5 ?_, cell_alloc2 t6 ?_, cell_alloc2 t7 ?_, cell_alloc2 t8 ?_, cell_alloc2 t9 ?_, cell_alloc2 t10 ?_, cell_alloc2 t11 ?_, cell_alloc2 t12 ?_, cell_alloc2 t13 ?_, cell_alloc2 t14 ?_, cell_alloc2 t15 ?_, cell_alloc2 t16 ?_, cell_alloc2 t17 ?_, cell_alloc2 t18 ?_, cell_alloc2 t19 ?_, cell_alloc2 t20 ?_, cell_alloc2 t21 ?_, cell_alloc2 t22 ?_, cell_alloc2 t23 ?_, cell_alloc2 t24 ?_, cell_alloc2 t25 ?_, cell_alloc2 t26 ?_, cell_alloc2 t27 ?_, cell_alloc2 t28 ?_, cell_alloc2 t29 ?_, cell_alloc2 t30 ?_, cell_alloc2 t31 ?_, cell_alloc2 t32 ?_, cell_alloc2 t33 ?_, cell_alloc2 t34 ?_, cell_alloc2 t35 ?_, cell_alloc2 t36 ?_, cell_alloc2 t37 ?_, cell_alloc2 t38 ?_, cell_alloc2 t39 ?_⟩ <;> (first | omega | (simp; omega))) | (refine ⟨?_, ?_, ?_, ?_, ?_, ?_, ?_, ?_, ?_, ?_, ?_, ?_, ?_, ?_, ?_, ?_, ?_, ?_, ?_, ?_, ?_, ?_, ?_, ?_, ?_, ?_, ?_, ?_, ?_, ?_, ?_, ?_, ?_, ?_, ?_, ?_, ?_, ?_, ?_, ?_⟩ <;> ((repeat (with_reducible refine cell_off ?_ _ ?_; (· (first | omega | (simp; omega))))); assumption))) | go_keep))
     ((first | (go_at_call 21; refine (laws_toBooks.calls kBig A0 c0 l0 d c A1 c1 l1 h A2 c2 l2 a b m0 d c m1 h m2 a b _ (Kd.C_below H0.out (by with_reducible repeat (first | exact HB.out | exact y10 HVBt.out HB.out | refine y04 ?_ | refine y02 ?_ _ | refine y01 ?_ _))) C0.out (Kd.C_below H1.out (by with_reducible repeat (first | exact HB.out | exact y10 HVBt.out HB.out | refine y04 ?_ | refine y02 ?_ _ | refine y01 ?_ _))) C1.out (Kd.C_below H2.out (by with_reducible repeat (first | exact HB.out | exact y10 HVBt.out HB.out | refine y04 ?_ | refine y02 ?_ _ | refine y01 ?_ _))) C2.out TB.out).mono ?_; rintro x wAt ⟨v0, v3, v5, rfl, hR0, hR3, hR5, hb⟩; obtain ⟨P0t, p0t, rfl, n0, g0⟩ := Kd.R_reads hR0; have KK0t := Aside0.mk g0; have KN0t := Aside0.mk n0; obtain ⟨P1t, p1t, rfl, n1, g1⟩ := Kd.S_reads hR3; have KK1t := Aside0.mk g1; have KN1t := Aside0.mk n1; obtain ⟨P2t, p2t, rfl, n2, g2⟩ := Kd.R_reads hR5; have KK2t := Aside0.mk g2; have KN2t := Aside0.mk n2; have HVAt := Aside0.mk (y10 (w := w17) hb (by with_reducible repeat (first | exact HV.out | exact HVBt.out | refine y04 ?_ | refine y02 ?_ _ | refine y01 ?_ _))); have SZAt := HVAt.out.size; clear hR0 hR3 hR5 n0 n1 n2 g0 g1 g2; (try replace KK3t := Aside0.mk (Kd.C_below KK3t.out (y10 hb (by with_reducible repeat (first | exact Below.refl _ _ | refine y04 ?_ | refine y02 ?_ _ | refine y01 ?_ _))))); (first | (have BK : wAt.heap[w17.heap.size]? = some (.cells #[.slice none 0 0, .int .i64 0, .int .i64 0, .slice none 0 0, .int .i64 0, .slice none 0 0, .int .i64 0, .int .i64 0] 32 (0, 0)) := blk_below ?_ hb; rotate_left; (· (with_reducible repeat (first | exact BK | exact blk_new _ _ | refine y07 ?_ _ | refine y09 ?_)))) | (have BK : wAt.heap[wBt.heap.size]? = some (.cells #[.slice none 0 0, .int .i64 0, .int .i64 0, .slice none 0 0, .int .i64 0, .slice none 0 0, .int .i64 0, .int .i64 0] 32 (0, 0)) := blk_below ?_ hb; rotate_left; (· (with_reducible repeat (first | exact BK | exact blk_new _ _ | refine y07 ?_ _ | refine y09 ?_)))) | skip); (try (have Y0 := (y03 BK 0).trans (show _ = some (.slice none 0 0) from rfl); have Z0 := y05 BK 0; have Y1 := (y03 BK 1).trans (show _ = some (.int .i64 0) from rfl); have Z1 := y05 BK 1; have Y2 := (y03 BK 2).trans (show _ = some (.int .i64 0) from rfl); have Z2 := y05 BK 2; have Y3 := (y03 BK 3).trans (show _ = some (.slice none 0 0) from rfl); have Z3 := y05 BK 3; have Y4 := (y03 BK 4).trans (show _ = some (.int .i64 0) from rfl); have Z4 := y05 BK 4; have Y5 := (y03 BK 5).trans (show _ = some (.slice none 0 0) from rfl); have Z5 := y05 BK 5; have Y6 := (y03 BK 6).trans (show _ = some (.int .i64 0) from rfl); have Z6 := y05 BK 6; have Y7 := (y03 BK 7).trans (show _ = some (.int .i64 0) from rfl); have Z7 := y05 BK 7))) | (go_at_call 22; refine (laws_toEntry.calls kBig e0 e1 e2 A3 c3 l3 e0 e1 e2 m3 _ (Kd.C_below H3.out (by with_reducible repeat (first | exact HB.out | exact y10 HVAt.out HB.out | refine y04 ?_ | refine y02 ?_ _ | refine y01 ?_ _))) C3.out TE.out).mono ?_; rintro x wBt ⟨v0, rfl, hR, hb⟩; obtain ⟨P3t, p3t, rfl, n0, g0⟩ := Kd.R_reads hR; have KK3t := Aside0.mk g0; have KN3t := Aside0.mk n0; have HVBt := Aside0.mk (y10 (w := w17) hb (by with_reducible repeat (first | exact HV.out | exact HVAt.out | refine y04 ?_ | refine y02 ?_ _ | refine y01 ?_ _))); have SZBt := HVBt.out.size; clear hR g0 n0; (try replace KK0t := Aside0.mk (Kd.C_below KK0t.out (y10 hb (by with_reducible repeat (first | exact Below.refl _ _ | refine y04 ?_ | refine y02 ?_ _ | refine y01 ?_ _))))); (try replace KK1t := Aside0.mk (Kd.C_below KK1t.out (y10 hb (by with_reducible repeat (first | exact Below.refl _ _ | refine y04 ?_ | refine y02 ?_ _ | refine y01 ?_ _))))); (try replace KK2t := Aside0.mk (Kd.C_below KK2t.out (y10 hb (by with_reducible repeat (first | exact Below.refl _ _ | refine y04 ?_ | refine y02 ?_ _ | refine y01 ?_ _))))); (first | (have BK : wBt.heap[w17.heap.size]? = some (.cells #[.slice none 0 0, .int .i64 0, .int .i64 0, .slice none 0 0, .int .i64 0, .slice none 0 0, .int .i64 0, .int .i64 0] 32 (0, 0)) := blk_below ?_ hb; rotate_left; (· (with_reducible repeat (first | exact BK | exact blk_new _ _ | refine y07 ?_ _ | refine y09 ?_)))) | (have BK : wBt.heap[wAt.heap.size]? = some (.cells #[.slice none 0 0, .int .i64 0, .int .i64 0, .slice none 0 0, .int .i64 0, .slice none 0 0, .int .i64 0, .int .i64 0] 32 (0, 0)) := blk_below ?_ hb; rotate_left; (· (with_reducible repeat (first | exact BK | exact blk_new _ _ | refine y07 ?_ _ | refine y09 ?_)))) | skip); (try (have Y0 := (y03 BK 0).trans (show _ = some (.slice none 0 0) from rfl); have Z0 := y05 BK 0; have Y1 := (y03 BK 1).trans (show _ = some (.int .i64 0) from rfl); have Z1 := y05 BK 1; have Y2 := (y03 BK 2).trans (show _ = some (.int .i64 0) from rfl); have Z2 := y05 BK 2; have Y3 := (y03 BK 3).trans (show _ = some (.slice none 0 0) from rfl); have Z3 := y05 BK 3; have Y4 := (y03 BK 4).trans (show _ = some (.int .i64 0) from rfl); have Z4 := y05 BK 4; have Y5 := (y03 BK 5).trans (show _ = some (.slice none 0 0) from rfl); have Z5 := y05 BK 5; have Y6 := (y03 BK 6).trans (show _ = some (.int .i64 0) from rfl); have Z6 := y05 BK 6; have Y7 := (y03 BK 7).trans (show _ = some (.int .i64 0) from rfl); have Z7 := y05 BK 7))) | (go_at_call 12; refine (impl_Record.at A P0t p0t m0 d c P1t p1t m1 h P2t p2t m2 a b e0 e1 e2 P3t p3t m3 _ r0 rd rc r1 rh r2 ra rb rk (SN.out.below (by with_reducible repeat (first | exact HV.out | exact HVAt.out | exact HVBt.out | refine y04 ?_ | refine y02 ?_ _ | refine y01 ?_ _)) rfl) (Kd.C_below KK0t.out (by with_reducible repeat (first | exact Below.refl _ _ | refine y04 ?_ | refine y02 ?_ _ | refine y01 ?_ _))) KN0t.out HT0.out (Kd.C_below KK1t.out (by with_reducible repeat (first | exact Below.refl _ _ | refine y04 ?_ | refine y02 ?_ _ | refine y01 ?_ _))) KN1t.out HT1.out (Kd.C_below KK2t.out (by with_reducible repeat (first | exact Below.refl _ _ | refine y04 ?_ | refine y02 ?_ _ | refine y01 ?_ _))) KN2t.out ML.out (Kd.C_below KK3t.out (by with_reducible repeat (first | exact Below.refl _ _ | refine y04 ?_ | refine y02 ?_ _ | refine y01 ?_ _))) KN3t.out HT2.out ML3.out RES.out).mono ?_; rintro x wF ⟨v0, v3, v5, rfl, hR0, hR3, hR5, hb⟩; have HVF := Aside0.mk (y10 (w := w17) hb (by with_reducible repeat (first | exact HV.out | exact HVAt.out | exact HVBt.out | refine y04 ?_ | refine y02 ?_ _ | refine y01 ?_ _))); have SZF := HVF.out.size; have SBF := below_start hb (show Below w17.heap.size w17 _ from (by with_reducible repeat (first | exact HV.out | exact HVAt.out | exact HVBt.out | refine y04 ?_ | refine y02 ?_ _ | refine y01 ?_ _))); obtain ⟨F0, eF0, rfl, n0, g0⟩ := Kd.R_reads hR0; have NF0 := Aside0.mk n0; have RRF0 := Aside0.mk (R_iv hR0); obtain ⟨F1, eF1, rfl, n1, g1⟩ := Kd.S_reads hR3; have NF1 := Aside0.mk n1; have RRF1 := Aside0.mk (S_iv hR3); obtain ⟨F2, eF2, rfl, n2, g2⟩ := Kd.R_reads hR5; have NF2 := Aside0.mk n2; have RRF2 := Aside0.mk (R_iv hR5); clear hR0 hR3 hR5 n0 n1 n2 g0 g1 g2; (first | (have BK : wF.heap[w17.heap.size]? = some (.cells #[.slice none 0 0, .int .i64 0, .int .i64 0, .slice none 0 0, .int .i64 0, .slice none 0 0, .int .i64 0, .int .i64 0] 32 (0, 0)) := blk_below ?_ hb; rotate_left; (· (with_reducible repeat (first | exact BK | exact blk_new _ _ | refine y07 ?_ _ | refine y09 ?_)))) | (have BK : wF.heap[wAt.heap.size]? = some (.cells #[.slice none 0 0, .int .i64 0, .int .i64 0, .slice none 0 0, .int .i64 0, .slice none 0 0, .int .i64 0, .int .i64 0] 32 (0, 0)) := blk_below ?_ hb; rotate_left; (· (with_reducible repeat (first | exact BK | exact blk_new _ _ | refine y07 ?_ _ | refine y09 ?_)))) | (have BK : wF.heap[wBt.heap.size]? = some (.cells #[.slice none 0 0, .int .i64 0, .int .i64 0, .slice none 0 0, .int .i64 0, .slice none 0 0, .int .i64 0, .int .i64 0] 32 (0, 0)) := blk_below ?_ hb; rotate_left; (· (with_reducible repeat (first | exact BK | exact blk_new _ _ | refine y07 ?_ _ | refine y09 ?_)))) | skip); (try (have Y0 := (y03 BK 0).trans (show _ = some (.slice none 0 0) from rfl); have Z0 := y05 BK 0; have Y1 := (y03 BK 1).trans (show _ = some (.int .i64 0) from rfl); have Z1 := y05 BK 1; have Y2 := (y03 BK 2).trans (show _ = some (.int .i64 0) from rfl); have Z2 := y05 BK 2; have Y3 := (y03 BK 3).trans (show _ = some (.slice none 0 0) from rfl); have Z3 := y05 BK 3; have Y4 := (y03 BK 4).trans (show _ = some (.int .i64 0) from rfl); have Z4 := y05 BK 4; have Y5 := (y03 BK 5).trans (show _ = some (.slice none 0 0) from rfl); have Z5 := y05 BK 5; have Y6 := (y03 BK 6).trans (show _ = some (.int .i64 0) from rfl); have Z6 := y05 BK 6; have Y7 := (y03 BK 7).trans (show _ = some (.int .i64 0) from rfl); have Z7 := y05 BK 7)))))
    all_goals (try go_wp2_with fail)
    all_goals go_meet
    all_goals (
      refine ⟨_, F0, F1, F2, eF0, eF1, eF2, rfl, rfl, ?_, ?_, NF0, NF1, NF2, ⟨?_⟩, ⟨?_⟩, ⟨?_⟩, ⟨?_⟩⟩
      · first | exact Nat.le_refl _ | exact SZF | exact SZAt | exact SZBt | omega
      · (with_reducible repeat (first | refine y07 ?_ _ | refine y09 ?_)); first | exact blk8 BK _ _ _ _ _ _ _ _ | exact blk_new _ _
      · (with_reducible repeat (first | refine Kd.R_drewN ?_ _ | refine Kd.R_drew ?_))
        have RX := R_iv_lower RRF0.out SBF (Nat.le_refl _)
        first | exact Kd.R_mono (R_put8 RX BK (by decide) _ _ _ _ _ _ _ _) (fun k hk => ⟨hk.1, Nat.lt_of_lt_of_le hk.2 (by simp)⟩) | exact Kd.R_mono (Kd.R_alloc RX _) (fun k hk => ⟨hk.1, Nat.lt_of_lt_of_le hk.2 (by simp)⟩)
      · (with_reducible repeat (first | refine Kd.S_drewN ?_ _ | refine Kd.S_drew ?_))
        have RX := S_iv_lower RRF1.out SBF (Nat.le_refl _)
        first | exact Kd.S_mono (S_put8 RX BK (by decide) _ _ _ _ _ _ _ _) (fun k hk => ⟨hk.1, Nat.lt_of_lt_of_le hk.2 (by simp)⟩) | exact Kd.S_mono (Kd.S_alloc RX _) (fun k hk => ⟨hk.1, Nat.lt_of_lt_of_le hk.2 (by simp)⟩)
      · (with_reducible repeat (first | refine Kd.R_drewN ?_ _ | refine Kd.R_drew ?_))
        have RX := R_iv_lower RRF2.out SBF (Nat.le_refl _)
        first | exact Kd.R_mono (R_put8 RX BK (by decide) _ _ _ _ _ _ _ _) (fun k hk => ⟨hk.1, Nat.lt_of_lt_of_le hk.2 (by simp)⟩) | exact Kd.R_mono (Kd.R_alloc RX _) (fun k hk => ⟨hk.1, Nat.lt_of_lt_of_le hk.2 (by simp)⟩)
      · (with_reducible repeat (first | refine y02 ?_ _ | refine y04 ?_)); first | (with_reducible exact y01 HVF.out _) | ((with_reducible refine below_set8 HVF.out ?_ _ _ _ _ _ _ _ _); first | (with_reducible exact Nat.le_refl _) | exact SZAt | exact SZBt | exact SZF))
  obtain ⟨bF, F0, F1, F2, eF0, eF1, eF2, rfl, rfl, hble, hblk, NF0, NF1, NF2, RF0, RF1, RF2, HVF⟩ := hcut
  obtain ⟨w18, rfl⟩ : ∃ W_ : World, W_ = wc := ⟨_, rfl⟩
  have hb := HVF.out
  replace f0 := y00 hb f0
  replace f1 := y00 hb f1
  replace f2 := y00 hb f2
  replace f3 := y00 hb f3
  replace f4 := y00 hb f4
  replace f5 := y00 hb f5
  replace f6 := y00 hb f6
  replace f7 := y00 hb f7
  replace u0 := y00 hb u0
  replace u1 := y00 hb u1
  replace u2 := y00 hb u2
  replace u3 := y00 hb u3
  replace s_0 := y00 hb s_0
  replace s_1 := y00 hb s_1
  replace s_2 := y00 hb s_2
  replace s_3 := y00 hb s_3
  replace s_4 := y00 hb s_4
  replace s_5 := y00 hb s_5
  replace s_6 := y00 hb s_6
  replace s_7 := y00 hb s_7
  replace y0 := y00 hb y0
  replace y1 := y00 hb y1
  replace y2 := y00 hb y2
  replace y3 := y00 hb y3
  replace y4 := y00 hb y4
  replace y5 := y00 hb y5
  replace y6 := y00 hb y6
  replace y7 := y00 hb y7
  replace x0 := y00 hb x0
  replace x1 := y00 hb x1
  replace x2 := y00 hb x2
  replace x3 := y00 hb x3
  replace z0 := y00 hb z0
  replace z1 := y00 hb z1
  replace z2 := y00 hb z2
  replace z3 := y00 hb z3
  replace z4 := y00 hb z4
  replace z5 := y00 hb z5
  replace z6 := y00 hb z6
  replace z7 := y00 hb z7
  replace RS0 := Aside0.mk (Kd.R_below RS0.out hb)
  replace RS1 := Aside0.mk (Kd.S_below RS1.out hb)
  replace RS2 := Aside0.mk (Kd.R_below RS2.out hb)
  replace RM0 := Aside0.mk (Kd.R_below RM0.out hb)
  replace RM1 := Aside0.mk (Kd.S_below RM1.out hb)
  replace RM2 := Aside0.mk (Kd.R_below RM2.out hb)
  replace HB := Aside0.mk (y10 (w := w) hb HB.out)
  replace B3 := Aside0.mk (y10 (w := w3) hb B3.out)
  replace SN := Aside0.mk (SN.out.below hb rfl)
  have f_0 : w18.cell? ⟨bF, 0, none⟩ = some (.slice F0 r0.length eF0) := (y03 hblk 0).trans rfl
  have f_1 : w18.cell? ⟨bF, 1, none⟩ = some (.int .i64 rd) := (y03 hblk 1).trans rfl
  have f_2 : w18.cell? ⟨bF, 2, none⟩ = some (.int .i64 rc) := (y03 hblk 2).trans rfl
  have f_3 : w18.cell? ⟨bF, 3, none⟩ = some (.slice F1 r1.length eF1) := (y03 hblk 3).trans rfl
  have f_4 : w18.cell? ⟨bF, 4, none⟩ = some (.int .i64 rh) := (y03 hblk 4).trans rfl
  have f_5 : w18.cell? ⟨bF, 5, none⟩ = some (.slice F2 r2.length eF2) := (y03 hblk 5).trans rfl
  have f_6 : w18.cell? ⟨bF, 6, none⟩ = some (.int .i64 ra) := (y03 hblk 6).trans rfl
  have f_7 : w18.cell? ⟨bF, 7, none⟩ = some (.int .i64 rb) := (y03 hblk 7).trans rfl
  have z_F := blk_lt hblk
  have s_w18 := hb.size
  clear hb hblk HV HVF
  go_wp2_with fail
  clear SN
  refine (laws_eqBooks.calls F0 eF0 r0 rd rc F1 eF1 r1 rh F2 eF2 r2 ra rb S0 eS0 r0 rd rc S1 eS1 r1 rh S2 eS2 r2 ra rb _ ((Kd.R_reads' RF0.out).2.2) ((Kd.S_reads' RF1.out).2.2) ((Kd.R_reads' RF2.out).2.2) ((Kd.R_reads' RS0.out).2.2) ((Kd.S_reads' RS1.out).2.2) ((Kd.R_reads' RS2.out).2.2)).mono ?_
  rintro x w19 ⟨rfl, hb⟩
  replace f0 := y00 hb f0
  replace f1 := y00 hb f1
  replace f2 := y00 hb f2
  replace f3 := y00 hb f3
  replace f4 := y00 hb f4
  replace f5 := y00 hb f5
  replace f6 := y00 hb f6
  replace f7 := y00 hb f7
  replace u0 := y00 hb u0
  replace u1 := y00 hb u1
  replace u2 := y00 hb u2
  replace u3 := y00 hb u3
  replace s_0 := y00 hb s_0
  replace s_1 := y00 hb s_1
  replace s_2 := y00 hb s_2
  replace s_3 := y00 hb s_3
  replace s_4 := y00 hb s_4
  replace s_5 := y00 hb s_5
  replace s_6 := y00 hb s_6
  replace s_7 := y00 hb s_7
  replace y0 := y00 hb y0
  replace y1 := y00 hb y1
  replace y2 := y00 hb y2
  replace y3 := y00 hb y3
  replace y4 := y00 hb y4
  replace y5 := y00 hb y5
  replace y6 := y00 hb y6
  replace y7 := y00 hb y7
  replace x0 := y00 hb x0
  replace x1 := y00 hb x1
  replace x2 := y00 hb x2
  replace x3 := y00 hb x3
  replace z0 := y00 hb z0
  replace z1 := y00 hb z1
  replace z2 := y00 hb z2
  replace z3 := y00 hb z3
  replace z4 := y00 hb z4
  replace z5 := y00 hb z5
  replace z6 := y00 hb z6
  replace z7 := y00 hb z7
  replace f_0 := y00 hb f_0
  replace f_1 := y00 hb f_1
  replace f_2 := y00 hb f_2
  replace f_3 := y00 hb f_3
  replace f_4 := y00 hb f_4
  replace f_5 := y00 hb f_5
  replace f_6 := y00 hb f_6
  replace f_7 := y00 hb f_7
  replace RS0 := Aside0.mk (Kd.R_below RS0.out hb)
  replace RS1 := Aside0.mk (Kd.S_below RS1.out hb)
  replace RS2 := Aside0.mk (Kd.R_below RS2.out hb)
  replace RM0 := Aside0.mk (Kd.R_below RM0.out hb)
  replace RM1 := Aside0.mk (Kd.S_below RM1.out hb)
  replace RM2 := Aside0.mk (Kd.R_below RM2.out hb)
  replace RF0 := Aside0.mk (Kd.R_below RF0.out hb)
  replace RF1 := Aside0.mk (Kd.S_below RF1.out hb)
  replace RF2 := Aside0.mk (Kd.R_below RF2.out hb)
  replace HB := Aside0.mk (y10 (w := w) hb HB.out)
  replace B3 := Aside0.mk (y10 (w := w3) hb B3.out)
  have s_w19 := hb.size
  clear hb
  rw [← same_true rfl]
  go_wp2_with fail
  refine (HLD.out _ (by have hC := (Kd.R_reads' RM0.out).2.2; rw [NM.out.1] at hC; exact hC) (by have hC := (Kd.S_reads' RM1.out).2.2; rw [NM.out.2.1] at hC; exact hC) (by have hC := (Kd.R_reads' RM2.out).2.2; rw [NM.out.2.2] at hC; exact hC)).mono ?_
  rintro x w20 ⟨rfl, hb⟩
  replace f0 := y00 hb f0
  replace f1 := y00 hb f1
  replace f2 := y00 hb f2
  replace f3 := y00 hb f3
  replace f4 := y00 hb f4
  replace f5 := y00 hb f5
  replace f6 := y00 hb f6
  replace f7 := y00 hb f7
  replace u0 := y00 hb u0
  replace u1 := y00 hb u1
  replace u2 := y00 hb u2
  replace u3 := y00 hb u3
  replace s_0 := y00 hb s_0
  replace s_1 := y00 hb s_1
  replace s_2 := y00 hb s_2
  replace s_3 := y00 hb s_3
  replace s_4 := y00 hb s_4
  replace s_5 := y00 hb s_5
  replace s_6 := y00 hb s_6
  replace s_7 := y00 hb s_7
  replace y0 := y00 hb y0
  replace y1 := y00 hb y1
  replace y2 := y00 hb y2
  replace y3 := y00 hb y3
  replace y4 := y00 hb y4
  replace y5 := y00 hb y5
  replace y6 := y00 hb y6
  replace y7 := y00 hb y7
  replace x0 := y00 hb x0
  replace x1 := y00 hb x1
  replace x2 := y00 hb x2
  replace x3 := y00 hb x3
  replace z0 := y00 hb z0
  replace z1 := y00 hb z1
  replace z2 := y00 hb z2
  replace z3 := y00 hb z3
  replace z4 := y00 hb z4
  replace z5 := y00 hb z5
  replace z6 := y00 hb z6
  replace z7 := y00 hb z7
  replace f_0 := y00 hb f_0
  replace f_1 := y00 hb f_1
  replace f_2 := y00 hb f_2
  replace f_3 := y00 hb f_3
  replace f_4 := y00 hb f_4
  replace f_5 := y00 hb f_5
  replace f_6 := y00 hb f_6
  replace f_7 := y00 hb f_7
  replace RS0 := Aside0.mk (Kd.R_below RS0.out hb)
  replace RS1 := Aside0.mk (Kd.S_below RS1.out hb)
  replace RS2 := Aside0.mk (Kd.R_below RS2.out hb)
  replace RM0 := Aside0.mk (Kd.R_below RM0.out hb)
  replace RM1 := Aside0.mk (Kd.S_below RM1.out hb)
  replace RM2 := Aside0.mk (Kd.R_below RM2.out hb)
  replace RF0 := Aside0.mk (Kd.R_below RF0.out hb)
  replace RF1 := Aside0.mk (Kd.S_below RF1.out hb)
  replace RF2 := Aside0.mk (Kd.R_below RF2.out hb)
  replace HB := Aside0.mk (y10 (w := w) hb HB.out)
  replace B3 := Aside0.mk (y10 (w := w3) hb B3.out)
  have s_w20 := hb.size
  clear hb
  go_wp2_with fail
  go_ret
  exact ⟨rfl, HB.out⟩
end Go.Proofs.YtjkjjfbcakbmnaaGreatDoor.Q
