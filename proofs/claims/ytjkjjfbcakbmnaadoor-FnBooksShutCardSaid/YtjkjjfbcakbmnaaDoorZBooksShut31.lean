/- Parts of the proof: what functions of the program and of the reference answer.
   No condition. -/
import Derived.Test.YtjkjjfbcakbmnaaDoorZBooksShut1
import Derived.Test.YtjkjjfbcakbmnaaDoorZBooksShut8
import Derived.Test.YtjkjjfbcakbmnaaDoorZBooksShut20
import Derived.Test.YtjkjjfbcakbmnaaDoorZBooksShut21
import Derived.Test.YtjkjjfbcakbmnaaDoorZBooksShut2
import Derived.Test.YtjkjjfbcakbmnaaDoorZBooksShut29
import Derived.Test.YtjkjjfbcakbmnaaDoorZBooksShut18
import Derived.Test.YtjkjjfbcakbmnaaDoorZBooksShut5
import Derived.Test.YtjkjjfbcakbmnaaDoorZBooksShut23
import Derived.Test.YtjkjjfbcakbmnaaDoorZBooksShut24
import Derived.Test.YtjkjjfbcakbmnaaDoorZBooksShut30
import Derived.Test.YtjkjjfbcakbmnaaDoorZBooksShut27
import Derived.Test.YtjkjjfbcakbmnaaDoorZBooksShut15
namespace Go.Proofs.YtjkjjfbcakbmnaaDoor.Q
open Go.RowKit Go.Proofs.YtjkjjfbcakbmnaaDoorW.PrintWords Go.Proofs.YtjkjjfbcakbmnaaDoorW.PrintLast Go.Proofs.YtjkjjfbcakbmnaaDoorW.PrintMore
set_option linter.unusedVariables false
set_option linter.unusedSimpArgs false
theorem impl_Shut.at (A0 : Option Addr) (c0 : Nat) (l0 : List Acc) (d c : Int) (A1 : Option Addr) (c1 : Nat) (l1 : List Ent) (h : Int) (A2 : Option Addr) (c2 : Nat) (l2 : List Per) (a b : Int) (w : World) (a' rk : Int) (hr0 : Kd.C k64 w A0 l0.length l0) (hc0 : l0.length ≤ c0) (hs : ∀ x ∈ l0, x.f0.size ≤ maxLen) (hr1 : Kd.C k35 w A1 l1.length l1) (hc1 : l1.length ≤ c1) (hm : ∀ e ∈ l1, e.f2.size ≤ maxLen) (hr2 : Kd.C k66 w A2 l2.length l2) (hc2 : l2.length ≤ c2) (hsm : smallB l0 l1 l2) (hres : shutR ⟨l0, d, c, l1, h, l2, a, b⟩ = (⟨l0, d, c, l1, h, l2, a', b⟩, rk)) :
    Calls Tryd.prog 10 #[.agg #[.slice A0 l0.length c0, .int .i64 d, .int .i64 c, .slice A1 l1.length c1, .int .i64 h, .slice A2 l2.length c2, .int .i64 a, .int .i64 b]] w fun e w' => ∃ v0 v3 v5 : Value, e = .returned (.tuple #[.agg #[v0, .int .i64 d, .int .i64 c, v3, .int .i64 h, v5, .int .i64 a', .int .i64 b], .int .i64 rk]) ∧ Kd.R k64 64 w' w.heap.size (fun _ => True) v0 l0 ∧ Kd.S k35 35 w' w.heap.size (fun _ => True) v3 l1 ∧ Kd.R k66 66 w' w.heap.size (fun _ => True) v5 l2 ∧ Below w.heap.size w w' := by
  refine (impl_Shut.to A0 c0 l0 d c A1 c1 l1 h A2 c2 l2 a b w hr0 hc0 hs hr1 hc1 hm hr2 hc2 hsm).mono ?_
  rintro e w' ⟨v0, v3, v5, he, ⟨h1, h2, h3⟩, hb⟩
  rw [hres] at he h1 h2 h3
  exact ⟨v0, v3, v5, he, h1, h2, h3, hb⟩
set_option maxHeartbeats 16000000 in
set_option maxRecDepth 100000 in
theorem laws_FnBooksShut.to {Wf : Int → Prop} (SA : Nat → Addr) (A0 : Option Addr) (c0 : Nat) (l0 : List Int) (w : World) (hS : Sent w SA) (hr0 : Kd.C (Kd.int .u8) w A0 l0.length l0) (hc0 : l0.length ≤ c0) (hw : l0.length ≤ maxLen ∧ ∀ a ∈ l0, Wf a) :
    Calls Tryd.prog 3 #[.slice A0 l0.length c0] w fun e w' => e = .returned (.bool true) ∧ Below w.heap.size w w' := by
  have SN0 := Aside0.mk hS
  have H0 := Aside0.mk hr0
  clear hr0 hw hS
  go_enter Tryd.func3, Tryd.ntmps3
  go_wp2_with fail
  refine (laws_big.calls A0 c0 l0 _ _ H0.out hc0 rfl).mono ?_
  rintro x w1 ⟨rfl, hd⟩
  have HB := Aside0.mk hd.below
  by_cases hbig : (l0.length : Int) > 1048576
  · have hb' : decide ((l0.length : Int) > 1048576) = true := decide_eq_true hbig
    clear hd
    go_wp2_with fail
    go_ret
    exact ⟨rfl, HB.out⟩
  have hb' : decide ((l0.length : Int) > 1048576) = false := decide_eq_false hbig
  replace H0 := Aside0.mk (Kd.C_below H0.out HB.out)
  clear hd
  go_wp2_with fail
  refine (spec_DrawRecord.e _ A0 c0 l0 H0.out hc0 (by omega)).mono ?_
  rintro x w2 ⟨v0, v3, v5, v6, ch, d, u, es, h, ps, cl, kp, e0, e1, t, r, rfl, hR0, hS3, hR5, hR6, hg, ⟨hrl, htl⟩, hb⟩
  obtain ⟨A, c, rfl, n0, hC⟩ := Kd.R_reads hR0
  obtain ⟨A1, c1, rfl, n1, hC1⟩ := Kd.S_reads hS3
  obtain ⟨A2, c2, rfl, n2, hC2⟩ := Kd.R_reads hR5
  obtain ⟨A3, c3, rfl, n3, hC3⟩ := Kd.R_reads hR6
  have RL := Aside0.mk (Kd.R_mono (Kd.R_bound hR6) (ok' := fun k => k < w2.heap.size) (fun k hk => hk.2.2.1))
  have HS := Aside0.mk (show ∀ x ∈ ch, x.f0.size ≤ maxLen from fun x hx => Nat.le_trans (hg.1.2 x hx) (by unfold maxLen; omega))
  have HM := Aside0.mk (show ∀ e ∈ es, e.f2.size ≤ maxLen from fun x hx => Nat.le_trans (hg.2.1.2 x hx).1 (by unfold maxLen; omega))
  have HT := Aside0.mk (show t.size ≤ maxLen by unfold maxLen; omega)
  have SM := Aside0.mk (show smallB ch es ps from ⟨by have := hg.1.1; omega, ⟨by have := hg.2.1.1; omega, fun x hx => by have := (hg.2.1.2 x hx).2; omega⟩, by have := hg.2.2; omega⟩)
  have hes := hg.2.1.1
  have hps := hg.2.2
  have RLE := Aside0.mk (show r.length ≤ 1048576 by omega)
  replace HB := Aside0.mk (below_into (w := w) hb HB.out)
  have z12 := hb.size
  have K0 := Aside0.mk hC
  have K1 := Aside0.mk hC1
  have K2 := Aside0.mk hC2
  have hw2 : w.heap.size ≤ w2.heap.size := HB.out.size
  clear hR0 hS3 hR5 hR6 hC hC1 hC2 hC3 hb H0 hg hb' hbig hrl htl z12
  go_upto_region 4 with fail
  have BK := Aside0.mk (blk_alloc (blk_new w2 (Obj.cells #[.slice A ch.length c, .int .i64 d, .int .i64 u, .slice A1 es.length c1, .int .i64 h, .slice A2 ps.length c2, .int .i64 cl, .int .i64 kp] 32)) (Obj.cells #[.int .i64 e0, .int .i64 e1, .string t, .slice A3 r.length c3] 35))
  have BE := Aside0.mk (show ((w2.alloc (Obj.cells #[.slice A ch.length c, .int .i64 d, .int .i64 u, .slice A1 es.length c1, .int .i64 h, .slice A2 ps.length c2, .int .i64 cl, .int .i64 kp] 32)).alloc (Obj.cells #[.int .i64 e0, .int .i64 e1, .string t, .slice A3 r.length c3] 35)).heap[w2.heap.size + 1]? = some (.cells #[.int .i64 e0, .int .i64 e1, .string t, .slice A3 r.length c3] 35 (0, 0)) from by have := blk_new (w2.alloc (Obj.cells #[.slice A ch.length c, .int .i64 d, .int .i64 u, .slice A1 es.length c1, .int .i64 h, .slice A2 ps.length c2, .int .i64 cl, .int .i64 kp] 32)) (Obj.cells #[.int .i64 e0, .int .i64 e1, .string t, .slice A3 r.length c3] 35); simpa using this)
  have hb := below_alloc (below_alloc (Below.refl w2.heap.size w2) (Obj.cells #[.slice A ch.length c, .int .i64 d, .int .i64 u, .slice A1 es.length c1, .int .i64 h, .slice A2 ps.length c2, .int .i64 cl, .int .i64 kp] 32)) (Obj.cells #[.int .i64 e0, .int .i64 e1, .string t, .slice A3 r.length c3] 35)
  replace K0 := Aside0.mk (Kd.C_below K0.out hb)
  replace K1 := Aside0.mk (Kd.C_below K1.out hb)
  replace K2 := Aside0.mk (Kd.C_below K2.out hb)
  replace RL := Aside0.mk (Kd.R_below RL.out hb)
  replace HB := Aside0.mk (below_into (w := w) hb HB.out)
  clear hb
  generalize ((w2.alloc (Obj.cells #[.slice A ch.length c, .int .i64 d, .int .i64 u, .slice A1 es.length c1, .int .i64 h, .slice A2 ps.length c2, .int .i64 cl, .int .i64 kp] 32)).alloc (Obj.cells #[.int .i64 e0, .int .i64 e1, .string t, .slice A3 r.length c3] 35)) = w3 at *
  obtain ⟨⟨⟨r0, rd, rc, r1, rh, r2, ra, rb⟩, rk⟩, hres⟩ : ∃ R, R = recR ⟨ch, d, u, es, h, ps, cl, kp⟩ ⟨e0, e1, t, r⟩ := ⟨_, rfl⟩
  have RES := Aside0.mk hres.symm
  clear hres
  have yBK0 := (blk_cell BK.out 0).trans rfl
  have yBK1 := (blk_cell BK.out 1).trans rfl
  have yBK2 := (blk_cell BK.out 2).trans rfl
  have yBK3 := (blk_cell BK.out 3).trans rfl
  have yBK4 := (blk_cell BK.out 4).trans rfl
  have yBK5 := (blk_cell BK.out 5).trans rfl
  have yBK6 := (blk_cell BK.out 6).trans rfl
  have yBK7 := (blk_cell BK.out 7).trans rfl
  have yBE0 := (blk_cell BE.out 0).trans rfl
  have yBE1 := (blk_cell BE.out 1).trans rfl
  have yBE2 := (blk_cell BE.out 2).trans rfl
  have yBE3 := (blk_cell BE.out 3).trans rfl
  go_wp2_with fail
  refine (spec_Record.at A c ch d u A1 c1 es h A2 c2 ps cl kp e0 e1 t A3 c3 r _ r0 rd rc r1 rh r2 ra rb rk K0.out n0 HS.out K1.out n1 HM.out K2.out n2 SM.out (Kd.R_reads' RL.out).2.2 (Kd.R_reads' RL.out).2.1 HT.out RLE.out RES.out).mono ?_
  rintro x w4 ⟨v0, v3, v5, rfl, hQ0, hQ3, hQ5, hb⟩
  obtain ⟨X0, x0, rfl⟩ := Kd.R_slice hQ0
  obtain ⟨X1, x1, rfl⟩ := Kd.S_slice hQ3
  obtain ⟨X2, x2, rfl⟩ := Kd.R_slice hQ5
  clear hQ0 hQ3 hQ5
  clear yBK0 yBK1 yBK2 yBK3 yBK4 yBK5 yBK6 yBK7
  clear yBE0 yBE1 yBE2 yBE3
  replace K0 := Aside0.mk (Kd.C_below K0.out hb)
  replace K1 := Aside0.mk (Kd.C_below K1.out hb)
  replace K2 := Aside0.mk (Kd.C_below K2.out hb)
  replace RL := Aside0.mk (Kd.R_below RL.out hb)
  replace BK := Aside0.mk (blk_below BK.out hb)
  replace BE := Aside0.mk (blk_below BE.out hb)
  replace HB := Aside0.mk (below_into (w := w) hb HB.out)
  clear hb
  go_upto_region 5 with fail
  have hb := below_alloc (Below.refl w4.heap.size w4) (Obj.cells #[.slice X0 r0.length x0, .int .i64 rd, .int .i64 rc, .slice X1 r1.length x1, .int .i64 rh, .slice X2 r2.length x2, .int .i64 ra, .int .i64 rb] 32)
  replace K0 := Aside0.mk (Kd.C_below K0.out hb)
  replace K1 := Aside0.mk (Kd.C_below K1.out hb)
  replace K2 := Aside0.mk (Kd.C_below K2.out hb)
  replace RL := Aside0.mk (Kd.R_below RL.out hb)
  replace BK := Aside0.mk (blk_below BK.out hb)
  replace BE := Aside0.mk (blk_below BE.out hb)
  replace HB := Aside0.mk (below_into (w := w) hb HB.out)
  clear hb
  generalize w4.alloc (Obj.cells #[.slice X0 r0.length x0, .int .i64 rd, .int .i64 rc, .slice X1 r1.length x1, .int .i64 rh, .slice X2 r2.length x2, .int .i64 ra, .int .i64 rb] 32) = w5 at *
  have yBK0 := (blk_cell BK.out 0).trans rfl
  have yBK1 := (blk_cell BK.out 1).trans rfl
  have yBK2 := (blk_cell BK.out 2).trans rfl
  have yBK3 := (blk_cell BK.out 3).trans rfl
  have yBK4 := (blk_cell BK.out 4).trans rfl
  have yBK5 := (blk_cell BK.out 5).trans rfl
  have yBK6 := (blk_cell BK.out 6).trans rfl
  have yBK7 := (blk_cell BK.out 7).trans rfl
  have yBE0 := (blk_cell BE.out 0).trans rfl
  have yBE1 := (blk_cell BE.out 1).trans rfl
  have yBE2 := (blk_cell BE.out 2).trans rfl
  have yBE3 := (blk_cell BE.out 3).trans rfl
  go_wp2_with fail
  refine (impl_Record.at SA A c ch d u A1 c1 es h A2 c2 ps cl kp e0 e1 t A3 c3 r _ r0 rd rc r1 rh r2 ra rb rk (SN0.out.below HB.out rfl) K0.out n0 HS.out K1.out n1 HM.out K2.out n2 SM.out (Kd.R_reads' RL.out).2.2 (Kd.R_reads' RL.out).2.1 HT.out RLE.out RES.out).mono ?_
  rintro x w6 ⟨v0, v3, v5, rfl, hQ0, hQ3, hQ5, hb⟩
  obtain ⟨N0, p0, rfl, m0, hC0⟩ := Kd.R_reads hQ0
  obtain ⟨N1, p1, rfl, m1, hC1⟩ := Kd.S_reads hQ3
  obtain ⟨N2, p2, rfl, m2, hC2⟩ := Kd.R_reads hQ5
  clear hQ0 hQ3 hQ5
  clear yBK0 yBK1 yBK2 yBK3 yBK4 yBK5 yBK6 yBK7
  clear yBE0 yBE1 yBE2 yBE3
  replace K0 := Aside0.mk (Kd.C_below K0.out hb)
  replace K1 := Aside0.mk (Kd.C_below K1.out hb)
  replace K2 := Aside0.mk (Kd.C_below K2.out hb)
  replace RL := Aside0.mk (Kd.R_below RL.out hb)
  replace BK := Aside0.mk (blk_below BK.out hb)
  replace BE := Aside0.mk (blk_below BE.out hb)
  replace HB := Aside0.mk (below_into (w := w) hb HB.out)
  clear hb
  have Q0 := Aside0.mk hC0
  have Q1 := Aside0.mk hC1
  have Q2 := Aside0.mk hC2
  clear hC0 hC1 hC2
  go_upto_region 6 with fail
  have hb := below_alloc (Below.refl w6.heap.size w6) (Obj.cells #[.slice N0 r0.length p0, .int .i64 rd, .int .i64 rc, .slice N1 r1.length p1, .int .i64 rh, .slice N2 r2.length p2, .int .i64 ra, .int .i64 rb] 32)
  have BN := Aside0.mk (blk_new w6 (Obj.cells #[.slice N0 r0.length p0, .int .i64 rd, .int .i64 rc, .slice N1 r1.length p1, .int .i64 rh, .slice N2 r2.length p2, .int .i64 ra, .int .i64 rb] 32))
  have hw6 : w2.heap.size + 1 < w6.heap.size := blk_lt BE.out
  replace K0 := Aside0.mk (Kd.C_below K0.out hb)
  replace K1 := Aside0.mk (Kd.C_below K1.out hb)
  replace K2 := Aside0.mk (Kd.C_below K2.out hb)
  replace RL := Aside0.mk (Kd.R_below RL.out hb)
  replace Q0 := Aside0.mk (Kd.C_below Q0.out hb)
  replace Q1 := Aside0.mk (Kd.C_below Q1.out hb)
  replace Q2 := Aside0.mk (Kd.C_below Q2.out hb)
  replace BK := Aside0.mk (blk_below BK.out hb)
  replace BE := Aside0.mk (blk_below BE.out hb)
  replace HB := Aside0.mk (below_into (w := w) hb HB.out)
  clear hb
  generalize w6.alloc (Obj.cells #[.slice N0 r0.length p0, .int .i64 rd, .int .i64 rc, .slice N1 r1.length p1, .int .i64 rh, .slice N2 r2.length p2, .int .i64 ra, .int .i64 rb] 32) = w7 at *
  have hne : (rk != rk) = false := by simp
  have heq : (rk == rk) = true := by simp
  have yBK0 := (blk_cell BK.out 0).trans rfl
  have yBK1 := (blk_cell BK.out 1).trans rfl
  have yBK2 := (blk_cell BK.out 2).trans rfl
  have yBK3 := (blk_cell BK.out 3).trans rfl
  have yBK4 := (blk_cell BK.out 4).trans rfl
  have yBK5 := (blk_cell BK.out 5).trans rfl
  have yBK6 := (blk_cell BK.out 6).trans rfl
  have yBK7 := (blk_cell BK.out 7).trans rfl
  go_wp2_with fail
  refine (spec_BooksOk.to A c ch d u A1 c1 es h A2 c2 ps cl kp _ K0.out HS.out K1.out n1 HM.out K2.out).mono ?_
  rintro x w8 ⟨rfl, hb⟩
  clear yBK0 yBK1 yBK2 yBK3 yBK4 yBK5 yBK6 yBK7
  replace K0 := Aside0.mk (Kd.C_below K0.out hb)
  replace K1 := Aside0.mk (Kd.C_below K1.out hb)
  replace K2 := Aside0.mk (Kd.C_below K2.out hb)
  replace RL := Aside0.mk (Kd.R_below RL.out hb)
  replace Q0 := Aside0.mk (Kd.C_below Q0.out hb)
  replace Q1 := Aside0.mk (Kd.C_below Q1.out hb)
  replace Q2 := Aside0.mk (Kd.C_below Q2.out hb)
  replace BK := Aside0.mk (blk_below BK.out hb)
  replace BE := Aside0.mk (blk_below BE.out hb)
  replace BN := Aside0.mk (blk_below BN.out hb)
  replace HB := Aside0.mk (below_into (w := w) hb HB.out)
  clear hb
  cases q : booksB ch d u es h ps cl kp
  · go_wp2_with fail
    go_ret
    exact ⟨rfl, HB.out⟩
  clear hne
  obtain ⟨s1, sh, hRP, hqn, hway⟩ := rec_parts (e := ⟨e0, e1, t, r⟩) q
  have hres := hRP.symm.trans RES.out
  simp only [Prod.mk.injEq, Bk.mk.injEq] at hres
  obtain ⟨⟨rfl, rfl, rfl, rfl, rfl, rfl, rfl, rfl⟩, hk⟩ := hres
  clear hRP RES
  have hcl := (booksB_true.1 q).2.2.1
  have QB := Aside0.mk q
  have QN := Aside0.mk hqn
  clear q hqn heq
  have SMN := Aside0.mk (show smallB ch s1 ps from ⟨SM.out.1, by
    rcases hway with ⟨_, rfl, hl⟩ | ⟨_, rfl⟩
    · refine ⟨by rw [hl]; omega, fun y hy => ?_⟩
      rcases List.mem_append.1 hy with hy | hy
      · exact SM.out.2.1.2 y hy
      · rw [List.mem_singleton.1 hy]; exact RLE.out
    · exact SM.out.2.1, SM.out.2.2⟩)
  have HMN := Aside0.mk (show ∀ e ∈ s1, e.f2.size ≤ maxLen from by
    rcases hway with ⟨_, rfl, hl⟩ | ⟨_, rfl⟩
    · intro y hy
      rcases List.mem_append.1 hy with hy | hy
      · exact HM.out y hy
      · rw [List.mem_singleton.1 hy]; exact HT.out
    · exact HM.out)
  rcases hway with ⟨hz0, hs1, hln⟩ | ⟨hz0, hs1⟩
  · obtain rfl : rk = 0 := hk.symm.trans hz0
    have hl1 : ((s1.length : Int) != (es.length : Int)) = true := bne_iff_ne.2 (by omega)
    have hl2 : ((s1.length : Int) != (es.length : Int) + 1) = false := by rw [show (s1.length : Int) = (es.length : Int) + 1 by omega]; simp
    have hwl : IntKind.i64.wrap ((es.length : Int) + 1) = (es.length : Int) + 1 := by rw [IntKind.wrap_i64]; omega
    clear hs1 hln hz0
    have yBK3 := (blk_cell BK.out 3).trans rfl
    have yBN0 := (blk_cell BN.out 0).trans rfl
    have yBN1 := (blk_cell BN.out 1).trans rfl
    have yBN2 := (blk_cell BN.out 2).trans rfl
    have yBN3 := (blk_cell BN.out 3).trans rfl
    have yBN4 := (blk_cell BN.out 4).trans rfl
    have yBN5 := (blk_cell BN.out 5).trans rfl
    have yBN6 := (blk_cell BN.out 6).trans rfl
    have yBN7 := (blk_cell BN.out 7).trans rfl
    go_wp2_with fail
    refine (impl_BooksOk.to N0 p0 ch d u N1 p1 s1 sh N2 p2 ps cl kp _ Q0.out HS.out Q1.out HMN.out Q2.out).mono ?_
    rintro x w9 ⟨rfl, hb⟩
    rw [QN.out]
    clear yBK3
    clear yBN0 yBN1 yBN2 yBN3 yBN4 yBN5 yBN6 yBN7
    replace K0 := Aside0.mk (Kd.C_below K0.out hb)
    replace K1 := Aside0.mk (Kd.C_below K1.out hb)
    replace K2 := Aside0.mk (Kd.C_below K2.out hb)
    replace RL := Aside0.mk (Kd.R_below RL.out hb)
    replace Q0 := Aside0.mk (Kd.C_below Q0.out hb)
    replace Q1 := Aside0.mk (Kd.C_below Q1.out hb)
    replace Q2 := Aside0.mk (Kd.C_below Q2.out hb)
    replace BK := Aside0.mk (blk_below BK.out hb)
    replace BE := Aside0.mk (blk_below BE.out hb)
    replace BN := Aside0.mk (blk_below BN.out hb)
    replace HB := Aside0.mk (below_into (w := w) hb HB.out)
    clear hb
    have yBK3 := (blk_cell BK.out 3).trans rfl
    have yBN3 := (blk_cell BN.out 3).trans rfl
    go_upto_region 10 with fail
    clear yBK3
    clear yBN3
    clear hl1 hl2 hwl K0 K1 K2 BK
    replace RL := Aside0.mk (Kd.R_lower RL.out (Nat.zero_le _))
    go_wp2_with fail
    go_loopg [10] (ps.length - cl.toNat) (fun kq v10 W => ∃ (i : Int) (P0 P1 P2 : Option Addr) (p0 p1 p2 : Nat), 0 ≤ i ∧ i ≤ (ps.length : Int) ∧ kq + i.toNat = ps.length ∧ Aside0 (ch.length ≤ p0) ∧ Aside0 (s1.length ≤ p1) ∧ Aside0 (ps.length ≤ p2) ∧ Aside0 (Kd.R k81 81 W 0 (fun k => k < w2.heap.size) (.slice A3 r.length c3) r) ∧ Aside0 (Kd.C k64 W P0 ch.length ch) ∧ Aside0 (Kd.C k35 W P1 s1.length s1) ∧ Aside0 (Kd.C k66 W P2 ps.length ps) ∧ Aside0 (W.heap[w2.heap.size + 1]? = some (.cells #[.int .i64 e0, .int .i64 e1, .string t, .slice A3 r.length c3] 35 (0, 0))) ∧ Aside0 (W.heap[w6.heap.size]? = some (.cells #[.slice P0 ch.length p0, .int .i64 d, .int .i64 u, .slice P1 s1.length p1, .int .i64 sh, .slice P2 ps.length p2, .int .i64 i, .int .i64 kp] 32 (0, 0))) ∧ Aside0 (Below w.heap.size w W))
    case atStart => exact ⟨cl, N0, N1, N2, p0, p1, p2, hcl.1, hcl.2, by have := hcl.1; have := hcl.2; omega, ⟨m0⟩, ⟨m1⟩, ⟨m2⟩, RL, Q0, Q1, Q2, BE, BN, HB⟩
    case round =>
      clear RL Q0 Q1 Q2 BE BN HB m0 m1 m2
      obtain ⟨i, P0, P1, P2, p0, p1, p2, i0, i1, hki, m0, m1, m2, RL, Q0, Q1, Q2, BE, BN, HB⟩ := hrel
      have hz := blk_lt BN.out
      have hQI := Aside0.mk (books_closed QN.out i0 i1)
      have yBN0 := (blk_cell BN.out 0).trans rfl
      have yBN1 := (blk_cell BN.out 1).trans rfl
      have yBN2 := (blk_cell BN.out 2).trans rfl
      have yBN3 := (blk_cell BN.out 3).trans rfl
      have yBN4 := (blk_cell BN.out 4).trans rfl
      have yBN5 := (blk_cell BN.out 5).trans rfl
      have yBN6 := (blk_cell BN.out 6).trans rfl
      have yBN7 := (blk_cell BN.out 7).trans rfl
      by_cases hi : i < (ps.length : Int)
      · obtain ⟨k1, rfl⟩ : ∃ k, gk = k + 1 := ⟨gk - 1, by omega⟩
        have hib : decide (i < (ps.length : Int)) = true := decide_eq_true hi
        go_wp2_with fail
        refine (impl_Shut.at P0 p0 ch d u P1 p1 s1 sh P2 p2 ps i kp _ (i + 1) 0 Q0.out m0.out HS.out Q1.out m1.out HMN.out Q2.out m2.out SMN.out (shut_next hQI.out hi)).mono ?_
        rintro x wa ⟨v0, v3, v5, rfl, hR0, hR3, hR5, hb⟩
        obtain ⟨T0, t0, rfl, g0, _⟩ := Kd.R_reads hR0
        obtain ⟨T1, t1, rfl, g1, _⟩ := Kd.S_reads hR3
        obtain ⟨T2, t2, rfl, g2, _⟩ := Kd.R_reads hR5
        have RT0 := Aside0.mk (Kd.R_mono (Kd.R_bound hR0) (ok' := fun k => k ≠ w6.heap.size) (fun k hk => by have := hk.2.1; omega))
        have RT1 := Aside0.mk (Kd.S_mono (Kd.S_bound hR3) (ok' := fun k => k ≠ w6.heap.size) (fun k hk => by have := hk.2.1; omega))
        have RT2 := Aside0.mk (Kd.R_mono (Kd.R_bound hR5) (ok' := fun k => k ≠ w6.heap.size) (fun k hk => by have := hk.2.1; omega))
        clear hR0 hR3 hR5
        clear yBN0 yBN1 yBN2 yBN3 yBN4 yBN5 yBN6 yBN7
        replace RL := Aside0.mk (Kd.R_below RL.out hb)
        replace BE := Aside0.mk (blk_below BE.out hb)
        replace BN := Aside0.mk (blk_below BN.out hb)
        replace HB := Aside0.mk (below_into (w := w) hb HB.out)
        have yBN0 := (blk_cell BN.out 0).trans rfl
        have yBN1 := (blk_cell BN.out 1).trans rfl
        have yBN2 := (blk_cell BN.out 2).trans rfl
        have yBN3 := (blk_cell BN.out 3).trans rfl
        have yBN4 := (blk_cell BN.out 4).trans rfl
        have yBN5 := (blk_cell BN.out 5).trans rfl
        have yBN6 := (blk_cell BN.out 6).trans rfl
        have yBN7 := (blk_cell BN.out 7).trans rfl
        have zf0 := blk_frozen BN.out 0
        have zf1 := blk_frozen BN.out 1
        have zf2 := blk_frozen BN.out 2
        have zf3 := blk_frozen BN.out 3
        have zf4 := blk_frozen BN.out 4
        have zf5 := blk_frozen BN.out 5
        have zf6 := blk_frozen BN.out 6
        have zf7 := blk_frozen BN.out 7
        have hzz := blk_lt BN.out
        have hwr : IntKind.i64.wrap (i + 1) = i + 1 := by rw [IntKind.wrap_i64]; omega
        have hcmp : ((i + 1) != (i + 1)) = false := by simp
        clear hb Q0 Q1 Q2
        go_wp2_with fail
        go_roundg k1
        case rel => exact ⟨i + 1, T0, T1, T2, t0, t1, t2, by omega, by omega, by omega, ⟨g0⟩, ⟨g1⟩, ⟨g2⟩, ⟨Kd.R_alloc (R_set8 RL.out (fun k hk => by omega) _ _ _ _ _ _ _ _) _⟩, ⟨(Kd.R_reads' (Kd.R_alloc (R_set8 RT0.out (fun k hk => hk) _ _ _ _ _ _ _ _) _)).2.2⟩, ⟨(Kd.S_reads' (Kd.S_alloc (S_set8 RT1.out (fun k hk => hk) _ _ _ _ _ _ _ _) _)).2.2⟩, ⟨(Kd.R_reads' (Kd.R_alloc (R_set8 RT2.out (fun k hk => hk) _ _ _ _ _ _ _ _) _)).2.2⟩, ⟨blk_alloc (put8_far BE.out (by omega) _ _ _ _ _ _ _ _) _⟩, ⟨by exact blk_alloc (blk8 BN.out _ _ _ _ _ _ _ _) _⟩, ⟨below_alloc (below_set8 HB.out (by omega) _ _ _ _ _ _ _ _) _⟩⟩
        case measure => omega
      · have hin : decide (i < (ps.length : Int)) = false := decide_eq_false hi
        obtain rfl : i = (ps.length : Int) := by omega
        go_wp2_with fail
        refine (impl_Shut.at P0 p0 ch d u P1 p1 s1 sh P2 p2 ps (ps.length : Int) kp _ (ps.length : Int) 3 Q0.out m0.out HS.out Q1.out m1.out HMN.out Q2.out m2.out SMN.out (shut_last hQI.out)).mono ?_
        rintro x wa ⟨v0, v3, v5, rfl, hR0, hR3, hR5, hb⟩
        obtain ⟨T0, t0, rfl⟩ := Kd.R_slice hR0
        obtain ⟨T1, t1, rfl⟩ := Kd.S_slice hR3
        obtain ⟨T2, t2, rfl⟩ := Kd.R_slice hR5
        clear hR0 hR3 hR5
        clear yBN0 yBN1 yBN2 yBN3 yBN4 yBN5 yBN6 yBN7
        replace RL := Aside0.mk (Kd.R_below RL.out hb)
        replace Q0 := Aside0.mk (Kd.C_below Q0.out hb)
        replace Q1 := Aside0.mk (Kd.C_below Q1.out hb)
        replace Q2 := Aside0.mk (Kd.C_below Q2.out hb)
        replace BE := Aside0.mk (blk_below BE.out hb)
        replace BN := Aside0.mk (blk_below BN.out hb)
        replace HB := Aside0.mk (below_into (w := w) hb HB.out)
        clear hb
        go_upto_region 16 with fail
        have hb := below_alloc (Below.refl wa.heap.size wa) (Obj.cells #[.slice T0 ch.length t0, .int .i64 d, .int .i64 u, .slice T1 s1.length t1, .int .i64 sh, .slice T2 ps.length t2, .int .i64 (ps.length : Int), .int .i64 kp] 32)
        replace RL := Aside0.mk (Kd.R_below RL.out hb)
        replace Q0 := Aside0.mk (Kd.C_below Q0.out hb)
        replace Q1 := Aside0.mk (Kd.C_below Q1.out hb)
        replace Q2 := Aside0.mk (Kd.C_below Q2.out hb)
        replace BE := Aside0.mk (blk_below BE.out hb)
        replace BN := Aside0.mk (blk_below BN.out hb)
        replace HB := Aside0.mk (below_into (w := w) hb HB.out)
        clear hb
        generalize wa.alloc (Obj.cells #[.slice T0 ch.length t0, .int .i64 d, .int .i64 u, .slice T1 s1.length t1, .int .i64 sh, .slice T2 ps.length t2, .int .i64 (ps.length : Int), .int .i64 kp] 32) = wb at *
        obtain ⟨q1, qh, hR2, _, _⟩ := rec_parts (e := ⟨e0, e1, t, r⟩) hQI.out
        have hl := rec_last (e := ⟨e0, e1, t, r⟩) QB.out hQI.out
        rw [hk] at hl
        generalize recC ch d u s1 sh ps (ps.length : Int) kp ⟨e0, e1, t, r⟩ = k2 at *
        have yBN0 := (blk_cell BN.out 0).trans rfl
        have yBN1 := (blk_cell BN.out 1).trans rfl
        have yBN2 := (blk_cell BN.out 2).trans rfl
        have yBN3 := (blk_cell BN.out 3).trans rfl
        have yBN4 := (blk_cell BN.out 4).trans rfl
        have yBN5 := (blk_cell BN.out 5).trans rfl
        have yBN6 := (blk_cell BN.out 6).trans rfl
        have yBN7 := (blk_cell BN.out 7).trans rfl
        have yBE0 := (blk_cell BE.out 0).trans rfl
        have yBE1 := (blk_cell BE.out 1).trans rfl
        have yBE2 := (blk_cell BE.out 2).trans rfl
        have yBE3 := (blk_cell BE.out 3).trans rfl
        go_wp2_with fail
        refine (impl_Record.at SA P0 p0 ch d u P1 p1 s1 sh P2 p2 ps (ps.length : Int) kp e0 e1 t A3 c3 r _ ch d u q1 qh ps (ps.length : Int) kp k2 (SN0.out.below HB.out rfl) Q0.out m0.out HS.out Q1.out m1.out HMN.out Q2.out m2.out SMN.out (Kd.R_reads' RL.out).2.2 (Kd.R_reads' RL.out).2.1 HT.out RLE.out hR2).mono ?_
        rintro x wc ⟨v0, v3, v5, rfl, hR0, hR3, hR5, hb⟩
        obtain ⟨U0, u0, rfl⟩ := Kd.R_slice hR0
        obtain ⟨U1, u1, rfl⟩ := Kd.S_slice hR3
        obtain ⟨U2, u2, rfl⟩ := Kd.R_slice hR5
        replace HB := Aside0.mk (below_alloc (below_into (w := w) hb HB.out) (Obj.cells #[.slice U0 ch.length u0, .int .i64 d, .int .i64 u, .slice U1 q1.length u1, .int .i64 qh, .slice U2 ps.length u2, .int .i64 (ps.length : Int), .int .i64 kp] 32))
        clear hR0 hR3 hR5 hb hR2
        clear yBN0 yBN1 yBN2 yBN3 yBN4 yBN5 yBN6 yBN7
        clear yBE0 yBE1 yBE2 yBE3
        by_cases h4 : k2 = 4
        · have h4b : (k2 == 4) = true := by simpa using h4
          clear h4
          go_wp2_with fail
          go_ret
          exact ⟨rfl, HB.out⟩
        · rcases hl with hl | hl
          · exact absurd hl h4
          · exact absurd rfl hl.2
  · subst hs1
    have hk0 : rk ≠ 0 := fun e => hz0 (hk.trans e)
    have hl1 : ((s1.length : Int) != (s1.length : Int)) = false := by simp
    have hk1 : (rk == 0) = false := by simpa using hk0
    clear hz0
    skip
    have yBK3 := (blk_cell BK.out 3).trans rfl
    have yBN3 := (blk_cell BN.out 3).trans rfl
    go_upto_region 10 with fail
    clear yBK3
    clear yBN3
    clear hl1 hk1 K0 K1 K2 BK
    replace RL := Aside0.mk (Kd.R_lower RL.out (Nat.zero_le _))
    go_wp2_with fail
    go_loopg [10] (ps.length - cl.toNat) (fun kq v10 W => ∃ (i : Int) (P0 P1 P2 : Option Addr) (p0 p1 p2 : Nat), 0 ≤ i ∧ i ≤ (ps.length : Int) ∧ kq + i.toNat = ps.length ∧ Aside0 (ch.length ≤ p0) ∧ Aside0 (s1.length ≤ p1) ∧ Aside0 (ps.length ≤ p2) ∧ Aside0 (Kd.R k81 81 W 0 (fun k => k < w2.heap.size) (.slice A3 r.length c3) r) ∧ Aside0 (Kd.C k64 W P0 ch.length ch) ∧ Aside0 (Kd.C k35 W P1 s1.length s1) ∧ Aside0 (Kd.C k66 W P2 ps.length ps) ∧ Aside0 (W.heap[w2.heap.size + 1]? = some (.cells #[.int .i64 e0, .int .i64 e1, .string t, .slice A3 r.length c3] 35 (0, 0))) ∧ Aside0 (W.heap[w6.heap.size]? = some (.cells #[.slice P0 ch.length p0, .int .i64 d, .int .i64 u, .slice P1 s1.length p1, .int .i64 sh, .slice P2 ps.length p2, .int .i64 i, .int .i64 kp] 32 (0, 0))) ∧ Aside0 (Below w.heap.size w W))
    case atStart => exact ⟨cl, N0, N1, N2, p0, p1, p2, hcl.1, hcl.2, by have := hcl.1; have := hcl.2; omega, ⟨m0⟩, ⟨m1⟩, ⟨m2⟩, RL, Q0, Q1, Q2, BE, BN, HB⟩
    case round =>
      clear RL Q0 Q1 Q2 BE BN HB m0 m1 m2
      obtain ⟨i, P0, P1, P2, p0, p1, p2, i0, i1, hki, m0, m1, m2, RL, Q0, Q1, Q2, BE, BN, HB⟩ := hrel
      have hz := blk_lt BN.out
      have hQI := Aside0.mk (books_closed QN.out i0 i1)
      have yBN0 := (blk_cell BN.out 0).trans rfl
      have yBN1 := (blk_cell BN.out 1).trans rfl
      have yBN2 := (blk_cell BN.out 2).trans rfl
      have yBN3 := (blk_cell BN.out 3).trans rfl
      have yBN4 := (blk_cell BN.out 4).trans rfl
      have yBN5 := (blk_cell BN.out 5).trans rfl
      have yBN6 := (blk_cell BN.out 6).trans rfl
      have yBN7 := (blk_cell BN.out 7).trans rfl
      by_cases hi : i < (ps.length : Int)
      · obtain ⟨k1, rfl⟩ : ∃ k, gk = k + 1 := ⟨gk - 1, by omega⟩
        have hib : decide (i < (ps.length : Int)) = true := decide_eq_true hi
        go_wp2_with fail
        refine (impl_Shut.at P0 p0 ch d u P1 p1 s1 sh P2 p2 ps i kp _ (i + 1) 0 Q0.out m0.out HS.out Q1.out m1.out HMN.out Q2.out m2.out SMN.out (shut_next hQI.out hi)).mono ?_
        rintro x wa ⟨v0, v3, v5, rfl, hR0, hR3, hR5, hb⟩
        obtain ⟨T0, t0, rfl, g0, _⟩ := Kd.R_reads hR0
        obtain ⟨T1, t1, rfl, g1, _⟩ := Kd.S_reads hR3
        obtain ⟨T2, t2, rfl, g2, _⟩ := Kd.R_reads hR5
        have RT0 := Aside0.mk (Kd.R_mono (Kd.R_bound hR0) (ok' := fun k => k ≠ w6.heap.size) (fun k hk => by have := hk.2.1; omega))
        have RT1 := Aside0.mk (Kd.S_mono (Kd.S_bound hR3) (ok' := fun k => k ≠ w6.heap.size) (fun k hk => by have := hk.2.1; omega))
        have RT2 := Aside0.mk (Kd.R_mono (Kd.R_bound hR5) (ok' := fun k => k ≠ w6.heap.size) (fun k hk => by have := hk.2.1; omega))
        clear hR0 hR3 hR5
        clear yBN0 yBN1 yBN2 yBN3 yBN4 yBN5 yBN6 yBN7
        replace RL := Aside0.mk (Kd.R_below RL.out hb)
        replace BE := Aside0.mk (blk_below BE.out hb)
        replace BN := Aside0.mk (blk_below BN.out hb)
        replace HB := Aside0.mk (below_into (w := w) hb HB.out)
        have yBN0 := (blk_cell BN.out 0).trans rfl
        have yBN1 := (blk_cell BN.out 1).trans rfl
        have yBN2 := (blk_cell BN.out 2).trans rfl
        have yBN3 := (blk_cell BN.out 3).trans rfl
        have yBN4 := (blk_cell BN.out 4).trans rfl
        have yBN5 := (blk_cell BN.out 5).trans rfl
        have yBN6 := (blk_cell BN.out 6).trans rfl
        have yBN7 := (blk_cell BN.out 7).trans rfl
        have zf0 := blk_frozen BN.out 0
        have zf1 := blk_frozen BN.out 1
        have zf2 := blk_frozen BN.out 2
        have zf3 := blk_frozen BN.out 3
        have zf4 := blk_frozen BN.out 4
        have zf5 := blk_frozen BN.out 5
        have zf6 := blk_frozen BN.out 6
        have zf7 := blk_frozen BN.out 7
        have hzz := blk_lt BN.out
        have hwr : IntKind.i64.wrap (i + 1) = i + 1 := by rw [IntKind.wrap_i64]; omega
        have hcmp : ((i + 1) != (i + 1)) = false := by simp
        clear hb Q0 Q1 Q2
        go_wp2_with fail
        go_roundg k1
        case rel => exact ⟨i + 1, T0, T1, T2, t0, t1, t2, by omega, by omega, by omega, ⟨g0⟩, ⟨g1⟩, ⟨g2⟩, ⟨Kd.R_alloc (R_set8 RL.out (fun k hk => by omega) _ _ _ _ _ _ _ _) _⟩, ⟨(Kd.R_reads' (Kd.R_alloc (R_set8 RT0.out (fun k hk => hk) _ _ _ _ _ _ _ _) _)).2.2⟩, ⟨(Kd.S_reads' (Kd.S_alloc (S_set8 RT1.out (fun k hk => hk) _ _ _ _ _ _ _ _) _)).2.2⟩, ⟨(Kd.R_reads' (Kd.R_alloc (R_set8 RT2.out (fun k hk => hk) _ _ _ _ _ _ _ _) _)).2.2⟩, ⟨blk_alloc (put8_far BE.out (by omega) _ _ _ _ _ _ _ _) _⟩, ⟨by exact blk_alloc (blk8 BN.out _ _ _ _ _ _ _ _) _⟩, ⟨below_alloc (below_set8 HB.out (by omega) _ _ _ _ _ _ _ _) _⟩⟩
        case measure => omega
      · have hin : decide (i < (ps.length : Int)) = false := decide_eq_false hi
        obtain rfl : i = (ps.length : Int) := by omega
        go_wp2_with fail
        refine (impl_Shut.at P0 p0 ch d u P1 p1 s1 sh P2 p2 ps (ps.length : Int) kp _ (ps.length : Int) 3 Q0.out m0.out HS.out Q1.out m1.out HMN.out Q2.out m2.out SMN.out (shut_last hQI.out)).mono ?_
        rintro x wa ⟨v0, v3, v5, rfl, hR0, hR3, hR5, hb⟩
        obtain ⟨T0, t0, rfl⟩ := Kd.R_slice hR0
        obtain ⟨T1, t1, rfl⟩ := Kd.S_slice hR3
        obtain ⟨T2, t2, rfl⟩ := Kd.R_slice hR5
        clear hR0 hR3 hR5
        clear yBN0 yBN1 yBN2 yBN3 yBN4 yBN5 yBN6 yBN7
        replace RL := Aside0.mk (Kd.R_below RL.out hb)
        replace Q0 := Aside0.mk (Kd.C_below Q0.out hb)
        replace Q1 := Aside0.mk (Kd.C_below Q1.out hb)
        replace Q2 := Aside0.mk (Kd.C_below Q2.out hb)
        replace BE := Aside0.mk (blk_below BE.out hb)
        replace BN := Aside0.mk (blk_below BN.out hb)
        replace HB := Aside0.mk (below_into (w := w) hb HB.out)
        clear hb
        go_upto_region 16 with fail
        have hb := below_alloc (Below.refl wa.heap.size wa) (Obj.cells #[.slice T0 ch.length t0, .int .i64 d, .int .i64 u, .slice T1 s1.length t1, .int .i64 sh, .slice T2 ps.length t2, .int .i64 (ps.length : Int), .int .i64 kp] 32)
        replace RL := Aside0.mk (Kd.R_below RL.out hb)
        replace Q0 := Aside0.mk (Kd.C_below Q0.out hb)
        replace Q1 := Aside0.mk (Kd.C_below Q1.out hb)
        replace Q2 := Aside0.mk (Kd.C_below Q2.out hb)
        replace BE := Aside0.mk (blk_below BE.out hb)
        replace BN := Aside0.mk (blk_below BN.out hb)
        replace HB := Aside0.mk (below_into (w := w) hb HB.out)
        clear hb
        generalize wa.alloc (Obj.cells #[.slice T0 ch.length t0, .int .i64 d, .int .i64 u, .slice T1 s1.length t1, .int .i64 sh, .slice T2 ps.length t2, .int .i64 (ps.length : Int), .int .i64 kp] 32) = wb at *
        obtain ⟨q1, qh, hR2, _, _⟩ := rec_parts (e := ⟨e0, e1, t, r⟩) hQI.out
        have hl := rec_last (e := ⟨e0, e1, t, r⟩) QB.out hQI.out
        rw [hk] at hl
        generalize recC ch d u s1 sh ps (ps.length : Int) kp ⟨e0, e1, t, r⟩ = k2 at *
        have yBN0 := (blk_cell BN.out 0).trans rfl
        have yBN1 := (blk_cell BN.out 1).trans rfl
        have yBN2 := (blk_cell BN.out 2).trans rfl
        have yBN3 := (blk_cell BN.out 3).trans rfl
        have yBN4 := (blk_cell BN.out 4).trans rfl
        have yBN5 := (blk_cell BN.out 5).trans rfl
        have yBN6 := (blk_cell BN.out 6).trans rfl
        have yBN7 := (blk_cell BN.out 7).trans rfl
        have yBE0 := (blk_cell BE.out 0).trans rfl
        have yBE1 := (blk_cell BE.out 1).trans rfl
        have yBE2 := (blk_cell BE.out 2).trans rfl
        have yBE3 := (blk_cell BE.out 3).trans rfl
        go_wp2_with fail
        refine (impl_Record.at SA P0 p0 ch d u P1 p1 s1 sh P2 p2 ps (ps.length : Int) kp e0 e1 t A3 c3 r _ ch d u q1 qh ps (ps.length : Int) kp k2 (SN0.out.below HB.out rfl) Q0.out m0.out HS.out Q1.out m1.out HMN.out Q2.out m2.out SMN.out (Kd.R_reads' RL.out).2.2 (Kd.R_reads' RL.out).2.1 HT.out RLE.out hR2).mono ?_
        rintro x wc ⟨v0, v3, v5, rfl, hR0, hR3, hR5, hb⟩
        obtain ⟨U0, u0, rfl⟩ := Kd.R_slice hR0
        obtain ⟨U1, u1, rfl⟩ := Kd.S_slice hR3
        obtain ⟨U2, u2, rfl⟩ := Kd.R_slice hR5
        replace HB := Aside0.mk (below_alloc (below_into (w := w) hb HB.out) (Obj.cells #[.slice U0 ch.length u0, .int .i64 d, .int .i64 u, .slice U1 q1.length u1, .int .i64 qh, .slice U2 ps.length u2, .int .i64 (ps.length : Int), .int .i64 kp] 32))
        clear hR0 hR3 hR5 hb hR2
        clear yBN0 yBN1 yBN2 yBN3 yBN4 yBN5 yBN6 yBN7
        clear yBE0 yBE1 yBE2 yBE3
        by_cases h4 : k2 = 4
        · have h4b : (k2 == 4) = true := by simpa using h4
          clear h4
          go_wp2_with fail
          go_ret
          exact ⟨rfl, HB.out⟩
        · obtain ⟨rfl, hk0⟩ : k2 = rk ∧ rk ≠ 0 := by rcases hl with hl | hl; exact absurd hl h4; exact hl
          have h4b : (k2 == 4) = false := by simpa using h4
          have h5b : (k2 == k2) = true := by simp
          have h6b : (k2 != 0) = true := by simpa using hk0
          clear h4
          go_wp2_with fail
          go_ret
          exact ⟨rfl, HB.out⟩
end Go.Proofs.YtjkjjfbcakbmnaaDoor.Q
