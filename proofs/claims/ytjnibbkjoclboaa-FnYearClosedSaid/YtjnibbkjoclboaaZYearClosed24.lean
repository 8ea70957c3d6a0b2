/- Parts of the proof: what functions of the program and of the reference answer.
   No condition. -/
import Derived.Test.YtjnibbkjoclboaaZYearClosed1
import Derived.Test.YtjnibbkjoclboaaZYearClosed6
import Derived.Test.YtjnibbkjoclboaaZYearClosed19
import Derived.Test.YtjnibbkjoclboaaZYearClosed21
import Derived.Test.YtjnibbkjoclboaaZYearClosed11
import Derived.Test.YtjnibbkjoclboaaZYearClosed16
import Derived.Test.YtjnibbkjoclboaaZYearClosed3
import Derived.Test.YtjnibbkjoclboaaZYearClosed2
import Derived.Test.YtjnibbkjoclboaaZYearClosed17
import Derived.Test.YtjnibbkjoclboaaZYearClosed18
import Derived.Test.YtjnibbkjoclboaaZYearClosed15
import Derived.Test.YtjnibbkjoclboaaZYearClosed8
import Derived.Test.YtjnibbkjoclboaaZYearClosed20
namespace Go.Proofs.Ytjnibbkjoclboaa.Q
open Go.RowKit Go.Proofs.YtjnibbkjoclboaaW.PrintWords Go.Proofs.YtjnibbkjoclboaaW.PrintLast Go.Proofs.YtjnibbkjoclboaaW.PrintMore
set_option linter.unusedVariables false
set_option linter.unusedSimpArgs false
set_option maxHeartbeats 32000000 in
set_option maxRecDepth 100000 in
theorem impl_CloseYear.to (A0 : Option Addr) (c0 : Nat) (l0 : List Acc) (d c : Int) (A1 : Option Addr) (c1 : Nat) (l1 : List Ent) (h : Int) (A2 : Option Addr) (c2 : Nat) (l2 : List Per) (a b day : Int) (w : World) (hr0 : Kd.C k43 w A0 l0.length l0) (hs : ∀ x ∈ l0, x.f0.size ≤ maxLen) (hr1 : Kd.C k37 w A1 l1.length l1) (hm : ∀ e ∈ l1, e.f2.size ≤ maxLen) (hr2 : Kd.C k84 w A2 l2.length l2) :
    Calls Try.prog 6 #[.agg #[.slice A0 l0.length c0, .int .i64 d, .int .i64 c, .slice A1 l1.length c1, .int .i64 h, .slice A2 l2.length c2, .int .i64 a, .int .i64 b], .int .i64 day] w fun e w' => ∃ v3 : Value, e = .returned (.tuple #[.agg #[.int .i64 (closeR l0 d c l1 h l2 a b day).1, .int .i64 (closeR l0 d c l1 h l2 a b day).2.1, .string (closeR l0 d c l1 h l2 a b day).2.2.1, v3], .bool (closeR l0 d c l1 h l2 a b day).2.2.2.2]) ∧ Kd.R k66 66 w' w.heap.size (fun _ => True) v3 (closeR l0 d c l1 h l2 a b day).2.2.2.1 ∧ Below w.heap.size w w' := by
  have H0 := Aside0.mk hr0
  have H1 := Aside0.mk hr1
  have H2 := Aside0.mk hr2
  have HS := Aside0.mk hs
  have HM := Aside0.mk hm
  have HB := Aside0.mk (below_two w (.cells #[.slice A0 l0.length c0, .int .i64 d, .int .i64 c, .slice A1 l1.length c1, .int .i64 h, .slice A2 l2.length c2, .int .i64 a, .int .i64 b] 32) (.cells #[.int .i64 0, .int .i64 0, .string ⟨#[]⟩, .slice none 0 0] 37))
  clear hr0 hr1 hr2 hs hm
  go_enter Try.func6, Try.ntmps6
  go_wp2_with fail
  refine (impl_BooksOk.to A0 c0 l0 d c A1 c1 l1 h A2 c2 l2 a b _ (Kd.C_below H0.out HB.out) HS.out (Kd.C_below H1.out HB.out) HM.out (Kd.C_below H2.out HB.out)).mono ?_
  rintro x w1 ⟨rfl, hb⟩
  have K0 := Aside0.mk (show w1.heap[w.heap.size]? = some (.cells #[.slice A0 l0.length c0, .int .i64 d, .int .i64 c, .slice A1 l1.length c1, .int .i64 h, .slice A2 l2.length c2, .int .i64 a, .int .i64 b] 32 (0, 0)) from blk_below (blk_alloc (blk_new w (.cells #[.slice A0 l0.length c0, .int .i64 d, .int .i64 c, .slice A1 l1.length c1, .int .i64 h, .slice A2 l2.length c2, .int .i64 a, .int .i64 b] 32)) _) hb)
  have K1 := Aside0.mk (show w1.heap[w.heap.size + 1]? = some (.cells #[.int .i64 0, .int .i64 0, .string ⟨#[]⟩, .slice none 0 0] 37 (0, 0)) from blk_below (by have := blk_new (w.alloc (.cells #[.slice A0 l0.length c0, .int .i64 d, .int .i64 c, .slice A1 l1.length c1, .int .i64 h, .slice A2 l2.length c2, .int .i64 a, .int .i64 b] 32)) (.cells #[.int .i64 0, .int .i64 0, .string ⟨#[]⟩, .slice none 0 0] 37); simpa using this) hb)
  have HB1 := Aside0.mk (below_into (w := w) hb HB.out)
  have z1 : w.heap.size + 1 < w1.heap.size := blk_lt K1.out
  clear hb HB
  have f0 : w1.cell? ⟨w.heap.size, 0, none⟩ = some (.slice A0 l0.length c0) := (blk_cell K0.out 0).trans rfl
  have f1 : w1.cell? ⟨w.heap.size, 1, none⟩ = some (.int .i64 d) := (blk_cell K0.out 1).trans rfl
  have f2 : w1.cell? ⟨w.heap.size, 2, none⟩ = some (.int .i64 c) := (blk_cell K0.out 2).trans rfl
  have f3 : w1.cell? ⟨w.heap.size, 3, none⟩ = some (.slice A1 l1.length c1) := (blk_cell K0.out 3).trans rfl
  have f4 : w1.cell? ⟨w.heap.size, 4, none⟩ = some (.int .i64 h) := (blk_cell K0.out 4).trans rfl
  have f5 : w1.cell? ⟨w.heap.size, 5, none⟩ = some (.slice A2 l2.length c2) := (blk_cell K0.out 5).trans rfl
  have f6 : w1.cell? ⟨w.heap.size, 6, none⟩ = some (.int .i64 a) := (blk_cell K0.out 6).trans rfl
  have f7 : w1.cell? ⟨w.heap.size, 7, none⟩ = some (.int .i64 b) := (blk_cell K0.out 7).trans rfl
  have g0 : w1.cell? ⟨w.heap.size + 1, 0, none⟩ = some (.int .i64 0) := (blk_cell K1.out 0).trans rfl
  have gf0 := blk_frozen K1.out 0
  have g1 : w1.cell? ⟨w.heap.size + 1, 1, none⟩ = some (.int .i64 0) := (blk_cell K1.out 1).trans rfl
  have gf1 := blk_frozen K1.out 1
  have g2 : w1.cell? ⟨w.heap.size + 1, 2, none⟩ = some (.string ⟨#[]⟩) := (blk_cell K1.out 2).trans rfl
  have gf2 := blk_frozen K1.out 2
  have g3 : w1.cell? ⟨w.heap.size + 1, 3, none⟩ = some (.slice none 0 0) := (blk_cell K1.out 3).trans rfl
  have gf3 := blk_frozen K1.out 3
  cases q1 : booksB l0 d c l1 h l2 a b with
  | false =>
    have HN := Aside0.mk (show closeR l0 d c l1 h l2 a b day = (0, 0, ⟨#[]⟩, [], false) from if_neg (fun q => by rw [q1] at q; cases q.1))
    clear q1
    go_wp2_with fail
    rw [HN.out]
    refine bodyPost_ret (results_ct rfl _ _ (w.heap.size + 1) 37 #[.int .i64 0, .int .i64 0, .string ⟨#[]⟩, .slice none 0 0] (0, 0) _ rfl (by exact blk4 K1.out _ _ _ _) Try.underlying37 rfl (by kernel_rfl)) rfl ?_
    exact ⟨.slice none 0 0, rfl, Kd.R_nil _ _ _ _ _, below_put4 HB1.out (by omega) _ _ _ _⟩
  | true =>
    have HQ := Aside0.mk (booksB_true.1 q1)
    have HQB := Aside0.mk q1
    clear q1
    have hfr := frame_len HQ.out.1.1
    obtain ⟨hcl, ⟨hd1, hd2⟩, ⟨hc1, hc2⟩⟩ := hfr
    obtain ⟨hln, _, hfine, _⟩ := ledger_fine (ledgerB_true.2 HQ.out.1)
    have HFI := Aside0.mk hfine
    have HFF := Aside0.mk (show ∀ e ∈ l1, entFine e from hfine)
    clear hfine
    go_wp2_with fail
    refine (impl_open.to A0 l0.length c0 d c A1 l1.length c1 h A2 l2.length c2 a b _).mono ?_
    rintro x w2 ⟨rfl, hb⟩
    have K0' := Aside0.mk (blk_below K0.out hb)
    have K1' := Aside0.mk (blk_below K1.out hb)
    have HB2 := Aside0.mk (below_into (w := w) hb HB1.out)
    have z2 : w.heap.size + 1 < w2.heap.size := by have := hb.size; omega
    have z2' : w.heap.size < w2.heap.size := by omega
    clear hb f0 f1 f2 f3 f4 f5 f6 f7 g0 g1 g2 g3 gf0 gf1 gf2 gf3 K0 K1
    have N0 := Aside0.mk (blk_alloc (blk_alloc K0'.out (.cells #[.slice A0 l0.length c0, .int .i64 d, .int .i64 c, .slice A1 l1.length c1, .int .i64 h, .slice A0 l0.length c0, .int .i64 d, .int .i64 c, .slice A1 l1.length c1, .int .i64 h, .slice A2 l2.length c2, .int .i64 a, .int .i64 b] 61)) (.cells #[.int .i64 day, .int .i64 0, .string closeT, .slice none 0 0] 37))
    have N1 := Aside0.mk (blk_alloc (blk_alloc K1'.out (.cells #[.slice A0 l0.length c0, .int .i64 d, .int .i64 c, .slice A1 l1.length c1, .int .i64 h, .slice A0 l0.length c0, .int .i64 d, .int .i64 c, .slice A1 l1.length c1, .int .i64 h, .slice A2 l2.length c2, .int .i64 a, .int .i64 b] 61)) (.cells #[.int .i64 day, .int .i64 0, .string closeT, .slice none 0 0] 37))
    have N2 := Aside0.mk (blk_alloc (blk_new w2 (.cells #[.slice A0 l0.length c0, .int .i64 d, .int .i64 c, .slice A1 l1.length c1, .int .i64 h, .slice A0 l0.length c0, .int .i64 d, .int .i64 c, .slice A1 l1.length c1, .int .i64 h, .slice A2 l2.length c2, .int .i64 a, .int .i64 b] 61)) (.cells #[.int .i64 day, .int .i64 0, .string closeT, .slice none 0 0] 37))
    have N3 := Aside0.mk (show ((w2.alloc (.cells #[.slice A0 l0.length c0, .int .i64 d, .int .i64 c, .slice A1 l1.length c1, .int .i64 h, .slice A0 l0.length c0, .int .i64 d, .int .i64 c, .slice A1 l1.length c1, .int .i64 h, .slice A2 l2.length c2, .int .i64 a, .int .i64 b] 61)).alloc (.cells #[.int .i64 day, .int .i64 0, .string closeT, .slice none 0 0] 37)).heap[w2.heap.size + 1]? = some (.cells #[.int .i64 day, .int .i64 0, .string closeT, .slice none 0 0] 37 (0, 0)) from by have := blk_new (w2.alloc (.cells #[.slice A0 l0.length c0, .int .i64 d, .int .i64 c, .slice A1 l1.length c1, .int .i64 h, .slice A0 l0.length c0, .int .i64 d, .int .i64 c, .slice A1 l1.length c1, .int .i64 h, .slice A2 l2.length c2, .int .i64 a, .int .i64 b] 61)) (.cells #[.int .i64 day, .int .i64 0, .string closeT, .slice none 0 0] 37); simpa using this)
    have HBN := Aside0.mk (below_alloc (below_alloc HB2.out (.cells #[.slice A0 l0.length c0, .int .i64 d, .int .i64 c, .slice A1 l1.length c1, .int .i64 h, .slice A0 l0.length c0, .int .i64 d, .int .i64 c, .slice A1 l1.length c1, .int .i64 h, .slice A2 l2.length c2, .int .i64 a, .int .i64 b] 61)) (.cells #[.int .i64 day, .int .i64 0, .string closeT, .slice none 0 0] 37))
    clear K0' K1' HB1
    obtain ⟨ls, hls⟩ : ∃ ls, ls = leavesUpto l0 l0.length := ⟨_, rfl⟩
    have hll : ls.length ≤ 120 := by have := leavesUpto_len l0 l0.length; rw [hls]; omega
    have HLS := Aside0.mk hls
    have BB := Aside0.mk (fun (x i : Int) => clB_b HFF.out hln day x i)
    clear hls
    go_wp2_with fail
    go_loopg [8] d.toNat (fun kq v8 wr => ∃ (n : Nat) (v : Value), v8 = .int .i64 (n : Int) ∧ (n : Int) ≤ d ∧ kq + n = d.toNat ∧ Aside0 (wr.heap[w.heap.size]? = some (.cells #[.slice A0 l0.length c0, .int .i64 d, .int .i64 c, .slice A1 l1.length c1, .int .i64 h, .slice A2 l2.length c2, .int .i64 a, .int .i64 b] 32 (0, 0))) ∧ Aside0 (wr.heap[w.heap.size + 1]? = some (.cells #[.int .i64 0, .int .i64 0, .string ⟨#[]⟩, .slice none 0 0] 37 (0, 0))) ∧ Aside0 (wr.heap[w2.heap.size]? = some (.cells #[.slice A0 l0.length c0, .int .i64 d, .int .i64 c, .slice A1 l1.length c1, .int .i64 h, .slice A0 l0.length c0, .int .i64 d, .int .i64 c, .slice A1 l1.length c1, .int .i64 h, .slice A2 l2.length c2, .int .i64 a, .int .i64 b] 61 (0, 0))) ∧ Aside0 (wr.heap[w2.heap.size + 1]? = some (.cells #[.int .i64 day, .int .i64 0, .string closeT, v] 37 (0, 0))) ∧ Aside0 (Kd.R k66 66 wr w.heap.size (fun k => w2.heap.size + 1 < k) v (allL b (clB l1 day) ls n)) ∧ Aside0 (Below w.heap.size w wr))
    case atStart => exact ⟨0, .slice none 0 0, rfl, by omega, by omega, N0, N1, N2, N3, ⟨Kd.R_nil _ _ _ _ _⟩, HBN⟩
    case round =>
      clear N0 N1 N2 N3 HBN HB2
      obtain ⟨n, v, rfl, hn, hkq, N0, N1, N2, N3, RR, HB⟩ := hrel
      have zb3 := blk_lt N3.out
      have zb2 : w2.heap.size < wr.heap.size := by omega
      have zb1 : w.heap.size + 1 < wr.heap.size := by omega
      have zb0 : w.heap.size < wr.heap.size := by omega
      have f0 : wr.cell? ⟨w.heap.size, 0, none⟩ = some (.slice A0 l0.length c0) := (blk_cell N0.out 0).trans rfl
      have f1 : wr.cell? ⟨w.heap.size, 1, none⟩ = some (.int .i64 d) := (blk_cell N0.out 1).trans rfl
      have f2 : wr.cell? ⟨w.heap.size, 2, none⟩ = some (.int .i64 c) := (blk_cell N0.out 2).trans rfl
      have f7 : wr.cell? ⟨w.heap.size, 7, none⟩ = some (.int .i64 b) := (blk_cell N0.out 7).trans rfl
      by_cases hlt : (n : Int) < d
      case neg =>
        have hnd : n = d.toNat := by omega
        have cc : decide ((n : Int) < d) = false := decide_eq_false hlt
        have HCL := Aside0.mk (show allL b (clB l1 day) ls n = closeL l0 d l1 b day by unfold closeL; rw [hnd, HLS.out])
        have RC := Aside0.mk (show Kd.R k66 66 wr w.heap.size (fun k => w2.heap.size + 1 < k) v (closeL l0 d l1 b day) from HCL.out ▸ RR.out)
        have HRES := Aside0.mk (show ∀ q, entryB l0 d c ⟨day, 0, closeT, closeL l0 d l1 b day⟩ = q → closeR l0 d c l1 h l2 a b day = if q = true then (day, 0, closeT, closeL l0 d l1 b day, true) else (0, 0, ⟨#[]⟩, [], false) from fun q hq => by
          unfold closeR
          cases q with
          | true => rw [if_pos ⟨HQB.out, hq⟩, if_pos rfl]
          | false => rw [if_neg (fun k => by rw [hq] at k; cases k.2), if_neg (by simp)])
        obtain ⟨A3, c3, hv⟩ := Kd.R_slice RC.out
        subst hv
        have HC3 := Aside0.mk (Kd.R_reads' RC.out).2.2
        clear RR HCL hnd hlt
        generalize closeL l0 d l1 b day = cl at *
        have y0 : wr.cell? ⟨w2.heap.size + 1, 0, none⟩ = some (.int .i64 day) := (blk_cell N3.out 0).trans rfl
        have y1 : wr.cell? ⟨w2.heap.size + 1, 1, none⟩ = some (.int .i64 0) := (blk_cell N3.out 1).trans rfl
        have y2 : wr.cell? ⟨w2.heap.size + 1, 2, none⟩ = some (.string closeT) := (blk_cell N3.out 2).trans rfl
        have y3 : wr.cell? ⟨w2.heap.size + 1, 3, none⟩ = some (.slice A3 cl.length c3) := (blk_cell N3.out 3).trans rfl
        have g0 : wr.cell? ⟨w.heap.size + 1, 0, none⟩ = some (.int .i64 0) := (blk_cell N1.out 0).trans rfl
        have gf0 := blk_frozen N1.out 0
        have g1 : wr.cell? ⟨w.heap.size + 1, 1, none⟩ = some (.int .i64 0) := (blk_cell N1.out 1).trans rfl
        have gf1 := blk_frozen N1.out 1
        have g2 : wr.cell? ⟨w.heap.size + 1, 2, none⟩ = some (.string ⟨#[]⟩) := (blk_cell N1.out 2).trans rfl
        have gf2 := blk_frozen N1.out 2
        have g3 : wr.cell? ⟨w.heap.size + 1, 3, none⟩ = some (.slice none 0 0) := (blk_cell N1.out 3).trans rfl
        have gf3 := blk_frozen N1.out 3
        go_wp2_with fail
        refine (impl_entryIn.to A0 c0 l0 d c (⟨day, 0, closeT, cl⟩ : Ent) A3 c3 _ (Kd.C_below H0.out HB.out) HC3.out ⟨hd1, hd2⟩ ⟨hc1, hc2⟩ (show closeT.size ≤ maxLen from by decide)).mono ?_
        rintro x w4 ⟨rfl, hb⟩
        have M1 := Aside0.mk (blk_below N1.out hb)
        have M3 := Aside0.mk (blk_below N3.out hb)
        have RX := Aside0.mk (Kd.R_below RC.out hb)
        have HBX := Aside0.mk (below_into (w := w) hb HB.out)
        have s4 := hb.size
        clear hb y0 y1 y2 y3 g0 g1 g2 g3 gf0 gf1 gf2 gf3 f0 f1 f2 f7 N0 N1 N2 N3 RC HB HC3
        have y0 : w4.cell? ⟨w2.heap.size + 1, 0, none⟩ = some (.int .i64 day) := (blk_cell M3.out 0).trans rfl
        have y1 : w4.cell? ⟨w2.heap.size + 1, 1, none⟩ = some (.int .i64 0) := (blk_cell M3.out 1).trans rfl
        have y2 : w4.cell? ⟨w2.heap.size + 1, 2, none⟩ = some (.string closeT) := (blk_cell M3.out 2).trans rfl
        have y3 : w4.cell? ⟨w2.heap.size + 1, 3, none⟩ = some (.slice A3 cl.length c3) := (blk_cell M3.out 3).trans rfl
        have g0 : w4.cell? ⟨w.heap.size + 1, 0, none⟩ = some (.int .i64 0) := (blk_cell M1.out 0).trans rfl
        have gf0 := blk_frozen M1.out 0
        have g1 : w4.cell? ⟨w.heap.size + 1, 1, none⟩ = some (.int .i64 0) := (blk_cell M1.out 1).trans rfl
        have gf1 := blk_frozen M1.out 1
        have g2 : w4.cell? ⟨w.heap.size + 1, 2, none⟩ = some (.string ⟨#[]⟩) := (blk_cell M1.out 2).trans rfl
        have gf2 := blk_frozen M1.out 2
        have g3 : w4.cell? ⟨w.heap.size + 1, 3, none⟩ = some (.slice none 0 0) := (blk_cell M1.out 3).trans rfl
        have gf3 := blk_frozen M1.out 3
        cases q3 : entryB l0 d c (⟨day, 0, closeT, cl⟩ : Ent) with
        | false =>
          have HN := Aside0.mk (HRES.out false q3)
          clear q3
          go_wp2_with fail
          rw [HN.out]
          refine bodyPost_ret (results_ct rfl _ _ (w.heap.size + 1) 37 #[.int .i64 0, .int .i64 0, .string ⟨#[]⟩, .slice none 0 0] (0, 0) _ rfl (by exact blk4 M1.out _ _ _ _) Try.underlying37 rfl (by kernel_rfl)) rfl ?_
          exact ⟨.slice none 0 0, rfl, Kd.R_nil _ _ _ _ _, below_put4 HBX.out (by omega) _ _ _ _⟩
        | true =>
          have HN := Aside0.mk (HRES.out true q3)
          clear q3
          go_wp2_with fail
          rw [HN.out]
          refine bodyPost_ret (results_ct rfl _ _ (w.heap.size + 1) 37 #[.int .i64 day, .int .i64 0, .string closeT, .slice A3 cl.length c3] (0, 0) _ rfl (by exact blk4 M1.out _ _ _ _) Try.underlying37 rfl (by kernel_rfl)) rfl ?_
          exact ⟨.slice A3 cl.length c3, rfl, Kd.R_mono (R_put4 RX.out M1.out (by decide) _ _ _ _) (fun _ _ => trivial), below_put4 HBX.out (by omega) _ _ _ _⟩
      case pos =>
        obtain ⟨k1, rfl⟩ : ∃ k1, gk = k1 + 1 := ⟨gk - 1, by omega⟩
        have cc : decide ((n : Int) < d) = true := decide_eq_true hlt
        have hn20 : n ≤ 20 := by omega
        have s0 : wr.cell? ⟨w2.heap.size, 0, none⟩ = some (.slice A0 l0.length c0) := (blk_cell N2.out 0).trans rfl
        have s1 : wr.cell? ⟨w2.heap.size, 1, none⟩ = some (.int .i64 d) := (blk_cell N2.out 1).trans rfl
        have s2 : wr.cell? ⟨w2.heap.size, 2, none⟩ = some (.int .i64 c) := (blk_cell N2.out 2).trans rfl
        have hab := below_alloc (Below.refl wr.heap.size wr) (.cells #[.int .i64 4, .int .i64 5] 3)
        have HG := Aside0.mk (blk_new wr (.cells #[.int .i64 4, .int .i64 5] 3))
        have HBA := Aside0.mk (below_into (w := w) hab HB.out)
        go_wp2_with fail
        refine (impl_leaves.to A0 c0 l0 d c wr.heap.size _ (Kd.C_below H0.out HBA.out) (by omega) HG.out).mono ?_
        rintro x w4 ⟨vl, rfl, hRL, hb⟩
        rw [← HLS.out] at hRL
        obtain ⟨AL, cL, hvl⟩ := Kd.R_slice hRL
        subst hvl
        have hb' := below_into (w := wr) hb hab
        have RL := Aside0.mk (Kd.R_mono (Kd.R_bound hRL) (ok' := fun k => wr.heap.size ≤ k) (fun k hk => by have := hk.2.1; simp at this; omega))
        have RL2 := Aside0.mk (Kd.R_lower RL.out (show w.heap.size ≤ _ from by have := HBA.out.size; simpa using this))
        have M0 := Aside0.mk (blk_below N0.out hb')
        have M1 := Aside0.mk (blk_below N1.out hb')
        have M2 := Aside0.mk (blk_below N2.out hb')
        have M3 := Aside0.mk (blk_below N3.out hb')
        have RX := Aside0.mk (Kd.R_below RR.out hb')
        have RXL := Aside0.mk (Kd.R_lt RR.out)
        have HBX := Aside0.mk (below_into (w := w) hb' HB.out)
        have s4 := hb'.size
        clear hab HG HBA hb hb' hRL RL f0 f1 f2 f7 s0 s1 s2 N0 N1 N2 N3 RR HB
        go_wp2_with fail
        go_loopg [9, 10, 35] ls.length (fun kj v9 v10 v35 wr => ∃ (jx : Nat) (v : Value), v35 = .int .i64 (jx : Int) ∧ jx ≤ ls.length ∧ kj + jx = ls.length ∧ v9 = .int .i64 (clS (clB l1 day n) ls jx) ∧ v10 = .bool (clA (clB l1 day n) ls jx) ∧ Aside0 (wr.heap[w.heap.size]? = some (.cells #[.slice A0 l0.length c0, .int .i64 d, .int .i64 c, .slice A1 l1.length c1, .int .i64 h, .slice A2 l2.length c2, .int .i64 a, .int .i64 b] 32 (0, 0))) ∧ Aside0 (wr.heap[w.heap.size + 1]? = some (.cells #[.int .i64 0, .int .i64 0, .string ⟨#[]⟩, .slice none 0 0] 37 (0, 0))) ∧ Aside0 (wr.heap[w2.heap.size]? = some (.cells #[.slice A0 l0.length c0, .int .i64 d, .int .i64 c, .slice A1 l1.length c1, .int .i64 h, .slice A0 l0.length c0, .int .i64 d, .int .i64 c, .slice A1 l1.length c1, .int .i64 h, .slice A2 l2.length c2, .int .i64 a, .int .i64 b] 61 (0, 0))) ∧ Aside0 (wr.heap[w2.heap.size + 1]? = some (.cells #[.int .i64 day, .int .i64 0, .string closeT, v] 37 (0, 0))) ∧ Aside0 (Kd.R k66 66 wr w.heap.size (fun k => w2.heap.size + 1 < k) v (allL b (clB l1 day) ls n ++ clU (clB l1 day n) n ls jx)) ∧ Aside0 (Kd.R (Kd.int .i64) 3 wr w.heap.size (fun k => w2.heap.size + 1 < k) (.slice AL ls.length cL) ls) ∧ Aside0 (Below w.heap.size w wr))
        case atStart => exact ⟨0, v, rfl, by omega, by omega, rfl, rfl, M0, M1, M2, M3, ⟨by rw [show clU (clB l1 day n) n ls 0 = [] from rfl, List.append_nil]; exact RX.out⟩, ⟨Kd.R_mono RL2.out (fun k hk => by omega)⟩, HBX⟩
        case round =>
          clear M0 M1 M2 M3 RX RL2 HBX RXL s4 zb0 zb1 zb2 zb3
          obtain ⟨jx, v, rfl, hjl, hkj, rfl, rfl, N0, N1, N2, N3, RX, RL, HB⟩ := hrel
          have zb3 := blk_lt N3.out
          have zb2 : w2.heap.size < wr.heap.size := by omega
          have zb1 : w.heap.size + 1 < wr.heap.size := by omega
          have zb0 : w.heap.size < wr.heap.size := by omega
          have NBV := Aside0.mk (show ∀ q, q ≤ w2.heap.size + 1 → some q ≠ v.ownBlock from fun q hq e => by have := RX.out.1 _ e.symm; omega)
          have hsb := clS_b (fun i => BB.out n i) ls jx hll
          have hal := allL_len b (clB l1 day) ls hll n
          have hul := clU_len (clB l1 day n) n ls jx
          have HLEN := Aside0.mk (show (allL b (clB l1 day) ls n ++ clU (clB l1 day n) n ls jx).length ≤ 3000 from by rw [List.length_append]; omega)
          clear hal hul
          by_cases hj : jx < ls.length
          case neg =>
            obtain rfl : jx = ls.length := by omega
            have cj : decide ((ls.length : Int) < (ls.length : Int)) = false := decide_eq_false (by omega)
            have f7 : wr.cell? ⟨w.heap.size, 7, none⟩ = some (.int .i64 b) := (blk_cell N0.out 7).trans rfl
            have u3 : wr.cell? ⟨w2.heap.size + 1, 3, none⟩ = some (v) := (blk_cell N3.out 3).trans rfl
            cases hA : clA (clB l1 day n) ls ls.length with
            | false =>
              have HD := Aside0.mk (show allL b (clB l1 day) ls n ++ clU (clB l1 day n) n ls ls.length = allL b (clB l1 day) ls (n + 1) from by simp only [allL, dimL]; rw [hA, if_neg (by simp), List.append_nil])
              clear hA
              go_wp2_with fail
              go_roundg k1
              case rel => exact ⟨n + 1, v, by go_num, by omega, by omega, N0, N1, N2, N3, ⟨by rw [← HD.out]; exact RX.out⟩, HB⟩
              case measure => omega
            | true =>
              have HD := Aside0.mk (show (allL b (clB l1 day) ls n ++ clU (clB l1 day n) n ls ls.length) ++ [⟨b, n, 0, clS (clB l1 day n) ls ls.length, clS (clB l1 day n) ls ls.length⟩] = allL b (clB l1 day) ls (n + 1) from by simp only [allL, dimL]; rw [hA, if_pos rfl, List.append_assoc])
              clear hA
              generalize clS (clB l1 day n) ls ls.length = sm at *
              generalize hLL : allL b (clB l1 day) ls n ++ clU (clB l1 day n) n ls ls.length = LL at *
              clear hLL
              go_wp2_with (first | ((with_reducible refine gate_builtin (b := .append) (xs := #[.tmp 68, .tmp 75]) rfl ?_); at_builtin; refine Kd.R_append k66 (w0 := w) w.heap.size rfl (.tmp 68) (.tmp 75) 35 66 (.agg #[(.int .i64 0), (.int .i64 0), (.int .i64 0), (.int .i64 0), (.int .i64 0)]) 40 rfl Try.underlying35 info66 rfl (by decide) (by omega) v (LL) (⟨b, n, 0, sm, sm⟩ : S66) [.int .i64 b, .int .i64 n, .int .i64 0, .int .i64 sm, .int .i64 sm] (fun k => w2.heap.size + 1 < k) (fun _ => False) rfl rfl (k66_mkM _ _ _ (⟨b, n, 0, sm, sm⟩ : S66)) (fun _ hk => hk.elim) (fun k hk => by omega) RX.out HB.out HB.out.size (by have := HLEN.out; omega) ?_; intro v7 wa ho hb hg hat; obtain ⟨B7, q7, hv7⟩ := Kd.R_slice ho; rw [List.length_append, List.length_singleton] at hv7; subst hv7; have P0 := Aside0.mk (blk_grown N0.out hg (NBV.out _ (by omega))); have P1 := Aside0.mk (blk_grown N1.out hg (NBV.out _ (by omega))); have P2 := Aside0.mk (blk_grown N2.out hg (NBV.out _ (by omega))); have P3 := Aside0.mk (blk_grown N3.out hg (NBV.out _ (by omega))); have PX := Aside0.mk ho; have PL := Aside0.mk (Kd.R_over' RL.out (Kd.R_typed RX.out) (by decide) hg); have PB := Aside0.mk hb; have y3 := (blk_cell P3.out 3).trans (show _ = some v from rfl); have yf3 := blk_frozen P3.out 3; have w7l := hg.size; clear ho hb hg hat NBV RX RL HB N0 N1 N2 N3 f7 u3))
              go_roundg k1
              case rel => exact ⟨n + 1, _, by go_num, by omega, by omega, ⟨by exact blk_far P0.out (by simp <;> omega) _⟩, ⟨by exact blk_far P1.out (by simp <;> omega) _⟩, ⟨by exact blk_far P2.out (by simp <;> omega) _⟩, ⟨by exact blk_put P3.out 3 _ rfl⟩, ⟨by rw [← HD.out]; exact Kd.R_mono (Kd.R_far (p := ⟨w2.heap.size + 1, 3, none⟩) (Kd.R_types PX.out P3.out (by decide)) (fun _ hk => hk.2) _) (fun _ hk => hk.1)⟩, ⟨below_set PB.out (by omega)⟩⟩
              case measure => omega
          case pos =>
            obtain ⟨k2, rfl⟩ : ∃ k2, gk = k2 + 1 := ⟨gk - 1, by omega⟩
            have cj : decide ((jx : Int) < (ls.length : Int)) = true := decide_eq_true (by omega)
            obtain ⟨gL, cL', hvL, _, _⟩ := Kd.R_form RL.out (by omega)
            injection hvL with hA1 _ hA2
            subst hA1 hA2
            have hci := Kd.foot_int (Kd.R_reads' RL.out).2.2 (jx : Int) (by omega) (by omega)
            rw [add_plain] at hci
            simp only [Int.toNat_natCast] at hci
            have hbx := BB.out n (rd ls jx)
            have HC := Aside0.mk (fun W hC => impl_upTo.to A1 c1 l1 h (rd ls jx) n (-1) day W hC hln HFF.out)
            obtain ⟨bx, hbe⟩ : ∃ bx, bx = clB l1 day n (rd ls jx) := ⟨_, rfl⟩
            have hb2 : basV (rd ls jx) n (-1) (-4611686018427387904) day l1 = bx := hbe.symm
            rw [hb2] at HC
            rw [← hbe] at hbx
            have HBE := Aside0.mk hbe
            clear hbe hb2
            generalize amtV (rd ls jx) n (-1) (-4611686018427387904) day l1 = am at *
            have ST := Aside0.mk (clS_step (B := clB l1 day n) hj)
            have HJ := Aside0.mk hj
            have HJL := Aside0.mk hjl
            have jj0 : (0 : Int) ≤ (jx : Int) := by omega
            have jj1 : (jx : Int) < (ls.length : Int) := by omega
            have jj2 : jx ≤ 120 := by omega
            have s3 : wr.cell? ⟨w2.heap.size, 3, none⟩ = some (.slice A1 l1.length c1) := (blk_cell N2.out 3).trans rfl
            have s4 : wr.cell? ⟨w2.heap.size, 4, none⟩ = some (.int .i64 h) := (blk_cell N2.out 4).trans rfl
            go_wp2_with fail
            refine (HC.out _ (Kd.C_below H1.out HB.out)).mono ?_
            rintro x w6 ⟨rfl, hb⟩
            replace N0 := Aside0.mk (blk_below N0.out hb)
            replace N1 := Aside0.mk (blk_below N1.out hb)
            replace N2 := Aside0.mk (blk_below N2.out hb)
            replace N3 := Aside0.mk (blk_below N3.out hb)
            replace RL := Aside0.mk (Kd.R_below RL.out hb)
            replace RX := Aside0.mk (Kd.R_below RX.out hb)
            replace HB := Aside0.mk (below_into (w := w) hb HB.out)
            have s6 := hb.size
            clear hb hci s3 s4
            by_cases hz : bx = 0
            case pos =>
              have nb : (bx != 0) = false := by rw [hz]; rfl
              have E1 := Aside0.mk (clU_zero (B := clB l1 day n) (d := n) HJ.out (by rw [← HBE.out]; exact hz))
              have E2 := Aside0.mk (clA_zero (B := clB l1 day n) HJ.out (by rw [← HBE.out]; exact hz))
              have E3 := Aside0.mk (show clS (clB l1 day n) ls (jx + 1) = clS (clB l1 day n) ls jx from by rw [ST.out, ← HBE.out, hz]; omega)
              clear hz
              go_wp2_with fail
              go_roundg k2
              case rel => exact ⟨jx + 1, v, by go_num, by have := HJ.out; omega, by omega, by rw [E3.out], by rw [E2.out], N0, N1, N2, N3, ⟨by rw [E1.out]; exact RX.out⟩, RL, HB⟩
              case measure => omega
            case neg =>
              have nb : (bx != 0) = true := by simpa using hz
              have E1 := Aside0.mk (clU_some (B := clB l1 day n) (d := n) HJ.out (by rw [← HBE.out]; exact hz))
              have E2 := Aside0.mk (clA_some (B := clB l1 day n) HJ.out (by rw [← HBE.out]; exact hz))
              have E3 := Aside0.mk (show clS (clB l1 day n) ls (jx + 1) = clS (clB l1 day n) ls jx + bx from by rw [ST.out, ← HBE.out])
              have E4 := Aside0.mk (show allL b (clB l1 day) ls n ++ clU (clB l1 day n) n ls (jx + 1) = (allL b (clB l1 day) ls n ++ clU (clB l1 day n) n ls jx) ++ [⟨rd ls jx, n, 0, -bx, -bx⟩] from by rw [E1.out, ← HBE.out, List.append_assoc])
              clear hz ST E1
              generalize rd ls jx = at_ at *
              generalize clS (clB l1 day n) ls jx = sm at *
              generalize clA (clB l1 day n) ls jx = am_ at *
              generalize hLL : allL b (clB l1 day) ls n ++ clU (clB l1 day n) n ls jx = LL at *
              clear hLL
              have u3 : w6.cell? ⟨w2.heap.size + 1, 3, none⟩ = some (v) := (blk_cell N3.out 3).trans rfl
              go_wp2_with (first | ((with_reducible refine gate_builtin (b := .append) (xs := #[.tmp 51, .tmp 59]) rfl ?_); at_builtin; refine Kd.R_append k66 (w0 := w) w.heap.size rfl (.tmp 51) (.tmp 59) 35 66 (.agg #[(.int .i64 0), (.int .i64 0), (.int .i64 0), (.int .i64 0), (.int .i64 0)]) 40 rfl Try.underlying35 info66 rfl (by decide) (by omega) v (LL) (⟨at_, n, 0, -bx, -bx⟩ : S66) [.int .i64 at_, .int .i64 n, .int .i64 0, .int .i64 (-bx), .int .i64 (-bx)] (fun k => w2.heap.size + 1 < k) (fun _ => False) rfl rfl (k66_mkM _ _ _ (⟨at_, n, 0, -bx, -bx⟩ : S66)) (fun _ hk => hk.elim) (fun k hk => by omega) RX.out HB.out HB.out.size (by have := HLEN.out; omega) ?_; intro v7 wa ho hb hg hat; obtain ⟨B7, q7, hv7⟩ := Kd.R_slice ho; rw [List.length_append, List.length_singleton] at hv7; subst hv7; have P0 := Aside0.mk (blk_grown N0.out hg (NBV.out _ (by omega))); have P1 := Aside0.mk (blk_grown N1.out hg (NBV.out _ (by omega))); have P2 := Aside0.mk (blk_grown N2.out hg (NBV.out _ (by omega))); have P3 := Aside0.mk (blk_grown N3.out hg (NBV.out _ (by omega))); have PX := Aside0.mk ho; have PL := Aside0.mk (Kd.R_over' RL.out (Kd.R_typed RX.out) (by decide) hg); have PB := Aside0.mk hb; have y3 := (blk_cell P3.out 3).trans (show _ = some v from rfl); have yf3 := blk_frozen P3.out 3; have w7l := hg.size; clear ho hb hg hat NBV RX RL HB N0 N1 N2 N3 u3))
              go_roundg k2
              case rel => exact ⟨jx + 1, _, by go_num, by have := HJ.out; omega, by omega, by rw [E3.out], by rw [E2.out], ⟨by exact blk_far P0.out (by simp <;> omega) _⟩, ⟨by exact blk_far P1.out (by simp <;> omega) _⟩, ⟨by exact blk_far P2.out (by simp <;> omega) _⟩, ⟨by exact blk_put P3.out 3 _ rfl⟩, ⟨by rw [E4.out]; exact Kd.R_mono (Kd.R_far (p := ⟨w2.heap.size + 1, 3, none⟩) (Kd.R_types PX.out P3.out (by decide)) (fun _ hk => hk.2) _) (fun _ hk => hk.1)⟩, ⟨Kd.R_mono (Kd.R_far (p := ⟨w2.heap.size + 1, 3, none⟩) (Kd.R_types PL.out P3.out (by decide)) (fun _ hk => hk.2) _) (fun _ hk => hk.1)⟩, ⟨below_set PB.out (by omega)⟩⟩
              case measure => omega
theorem impl_CloseYear.at (A0 : Option Addr) (c0 : Nat) (l0 : List Acc) (d c : Int) (A1 : Option Addr) (c1 : Nat) (l1 : List Ent) (h : Int) (A2 : Option Addr) (c2 : Nat) (l2 : List Per) (a b day : Int) (re0 re1 : Int) (re2 : ByteArray) (r0 : List Lin) (rk : Bool) (w : World) (hr0 : Kd.C k43 w A0 l0.length l0) (hc0 : l0.length ≤ c0) (hr1 : Kd.C k37 w A1 l1.length l1) (hc1 : l1.length ≤ c1) (hr2 : Kd.C k84 w A2 l2.length l2) (hc2 : l2.length ≤ c2) (hf : ((∀ x ∈ l0, x.f0.size ≤ maxLen) ∧ (∀ e ∈ l1, e.f2.size ≤ maxLen)) ∧ closeR l0 d c l1 h l2 a b day = (re0, re1, re2, r0, rk)) :
    Calls Try.prog 6 #[.agg #[.slice A0 l0.length c0, .int .i64 d, .int .i64 c, .slice A1 l1.length c1, .int .i64 h, .slice A2 l2.length c2, .int .i64 a, .int .i64 b], .int .i64 day] w fun e w' => ∃ v3 : Value, e = .returned (.tuple #[.agg #[.int .i64 re0, .int .i64 re1, .string re2, v3], .bool rk]) ∧ Kd.R k66 66 w' w.heap.size (fun _ => True) v3 r0 ∧ Below w.heap.size w w' := by
  have := impl_CloseYear.to A0 c0 l0 d c A1 c1 l1 h A2 c2 l2 a b day w hr0 hf.1.1 hr1 hf.1.2 hr2
  rw [hf.2] at this
  exact this
end Go.Proofs.Ytjnibbkjoclboaa.Q
namespace Go.Proofs.Ytjnibbkjoclboaa.Q
open Go.RowKit Go.Proofs.YtjnibbkjoclboaaW.PrintWords Go.Proofs.YtjnibbkjoclboaaW.PrintLast Go.Proofs.YtjnibbkjoclboaaW.PrintMore
set_option linter.unusedVariables false
set_option linter.unusedSimpArgs false
def fU (B : Int → Int) (d : Int) (ls : List Int) : List Lin := ls.flatMap (fun i => if B i = 0 then [] else [⟨i, d, 0, -B i, -B i⟩])
theorem clU_full (B : Int → Int) (d : Int) (ls : List Int) : clU B d ls ls.length = fU B d ls := by unfold clU fU; rw [List.take_length]
theorem clS_full (B : Int → Int) (ls : List Int) : clS B ls ls.length = (ls.map B).sum := by unfold clS; rw [List.take_length]
theorem clA_full (B : Int → Int) (ls : List Int) : clA B ls ls.length = ls.any (fun i => decide (B i ≠ 0)) := by unfold clA; rw [List.take_length]
theorem basV_fr {a d c fr fr' tt : Int} {es : List Ent} (h : ∀ e ∈ es, fr ≤ e.f0 ∧ fr' ≤ e.f0) : basV a d c fr tt es = basV a d c fr' tt es := by
  induction es with
  | nil => rfl
  | cons e l ih =>
    have h1 := h e List.mem_cons_self
    simp only [basV]
    rw [ih (fun x hx => h x (List.mem_cons_of_mem _ hx))]
    have : inB e.f0 fr tt = inB e.f0 fr' tt := by unfold inB; rw [decide_eq_true h1.1, decide_eq_true h1.2]
    rw [this]
theorem leavesUpto_yes {chart : List Acc} {n : Nat} (h : leafK chart n = true) : leavesUpto chart (n + 1) = leavesUpto chart n ++ [(n : Int)] := by simp only [leavesUpto]; rw [if_pos h]
theorem leavesUpto_no {chart : List Acc} {n : Nat} (h : ¬ leafK chart n = true) : leavesUpto chart (n + 1) = leavesUpto chart n := by simp only [leavesUpto]; rw [if_neg h, List.append_nil]
theorem spec_CloseYear_l1 (m0 : List Acc) (d c : Int) (m1 : List Ent) (h : Int) (m2 : List Per) (a b day dm : Int) (T : ByteArray) (base : List Lin) (h1 : ∀ x ∈ m0, x.f0.size ≤ maxLen) (hch : chartOk m0 = true) (hcl : m0.length ≤ 120) (hn : m1.length ≤ 1000) (hf : ∀ e ∈ m1, entFine e) (hd : ∀ e ∈ m1, 0 ≤ e.f0) (hb : base.length ≤ 100000) :
    ∀ (r n k : Nat), n + r = m0.length →
    spec_CloseYear.l1 (k + 2 * r) day dm ((leavesUpto m0 n).map (clB m1 day dm)).sum ((leavesUpto m0 n).any (fun i => decide (clB m1 day dm i ≠ 0))) (n : Int) m0 d c m1 h m2 a b m0 d c day 0 T (base ++ fU (clB m1 day dm) dm (leavesUpto m0 n)) =
    spec_CloseYear.l1 k day dm ((leavesUpto m0 m0.length).map (clB m1 day dm)).sum ((leavesUpto m0 m0.length).any (fun i => decide (clB m1 day dm i ≠ 0))) (m0.length : Int) m0 d c m1 h m2 a b m0 d c day 0 T (base ++ fU (clB m1 day dm) dm (leavesUpto m0 m0.length)) := by
  intro r
  induction r with
  | zero =>
    intro n k hr
    obtain rfl : n = m0.length := by omega
    rfl
  | succ r ih =>
    intro n k hr
    have hl : spec_Leaf.f m0 (n : Int) = some (leafB m0 n) := by
      unfold spec_Leaf.f
      rw [if_pos h1, hch, Bool.true_and]
    have hS := clS_b (fun i => clB_b hf hn day dm i) (leavesUpto m0 n) (leavesUpto m0 n).length (by have := leavesUpto_len m0 n; omega)
    rw [clS_full] at hS
    have hB := clB_b hf hn day dm n
    have hul : (fU (clB m1 day dm) dm (leavesUpto m0 n)).length ≤ 120 := by
      have := clU_len (clB m1 day dm) dm (leavesUpto m0 n) (leavesUpto m0 n).length
      have := leavesUpto_len m0 n
      rw [clU_full] at *
      omega
    have hbal : spec_Balance.f m1 h n dm (-1) 0 day = some (amtV n dm (-1) 0 day m1, clB m1 day dm n) := by
      unfold spec_Balance.f clB
      rw [if_pos ⟨hn, hf⟩, basV_fr (fr := 0) (fr' := -4611686018427387904) (fun e he => ⟨hd e he, by have := hd e he; omega⟩)]
    have hw : wrap64 ((n : Int) + 1) = ((n + 1 : Nat) : Int) := by rw [wrin (by omega) (by omega)]; push_cast; rfl
    rw [show k + 2 * (r + 1) = (k + 2 * r) + 1 + 1 by omega]
    simp only [spec_CloseYear.l1]
    rw [if_pos (by omega), hl]
    simp only [Option.bind_some]
    by_cases hk : leafK m0 n = true
    · have hk2 := hk
      unfold leafK at hk2
      simp only [Bool.and_eq_true, Bool.or_eq_true, decide_eq_true_eq] at hk2
      rw [if_pos hk2.1, if_pos (by omega)]
      have hj : (if (rd_T43 m0 (n : Int)).f2 = 4 then spec_CloseYear.j2 (k + 2 * r + 1) day dm ((leavesUpto m0 n).map (clB m1 day dm)).sum ((leavesUpto m0 n).any (fun i => decide (clB m1 day dm i ≠ 0))) (n : Int) false m0 d c m1 h m2 a b m0 d c day 0 T (base ++ fU (clB m1 day dm) dm (leavesUpto m0 n)) else spec_CloseYear.j2 (k + 2 * r + 1) day dm ((leavesUpto m0 n).map (clB m1 day dm)).sum ((leavesUpto m0 n).any (fun i => decide (clB m1 day dm i ≠ 0))) (n : Int) ((rd_T43 m0 (n : Int)).f2 != 5) m0 d c m1 h m2 a b m0 d c day 0 T (base ++ fU (clB m1 day dm) dm (leavesUpto m0 n))) = spec_CloseYear.j2 (k + 2 * r + 1) day dm ((leavesUpto m0 n).map (clB m1 day dm)).sum ((leavesUpto m0 n).any (fun i => decide (clB m1 day dm i ≠ 0))) (n : Int) false m0 d c m1 h m2 a b m0 d c day 0 T (base ++ fU (clB m1 day dm) dm (leavesUpto m0 n)) := by
        by_cases h4 : (rd_T43 m0 (n : Int)).f2 = 4
        · rw [if_pos h4]
        · rw [if_neg h4]
          have h5 : (rd_T43 m0 (n : Int)).f2 = 5 := by rcases hk2.2 with q | q; (· exact absurd q h4); (· exact q)
          rw [h5]
          rfl
      rw [hj]
      simp only [spec_CloseYear.j2]
      rw [if_neg (by simp), hbal]
      simp only [Option.bind_some]
      rw [hw]
      by_cases hz : clB m1 day dm n = 0
      · rw [if_pos hz]
        have := ih (n + 1) k (by omega)
        rw [leavesUpto_yes hk] at this
        simp only [List.map_append, List.sum_append, List.map_cons, List.map_nil, List.sum_cons, List.sum_nil, List.any_append, List.any_cons, List.any_nil, hz, Bool.or_false, Int.add_zero, ne_eq, not_true_eq_false, decide_false] at this
        rw [← this]
        congr 2
        unfold fU
        rw [List.flatMap_append]
        simp [hz]
      · rw [if_neg hz, if_pos (by rw [List.length_append]; omega)]
        rw [wrin (p := ((leavesUpto m0 n).map (clB m1 day dm)).sum + clB m1 day dm n) (by omega) (by omega), wrin (p := -clB m1 day dm n) (by omega) (by omega)]
        have := ih (n + 1) k (by omega)
        rw [leavesUpto_yes hk] at this
        simp only [List.map_append, List.sum_append, List.map_cons, List.map_nil, List.sum_cons, List.sum_nil, List.any_append, List.any_cons, List.any_nil, hz, Bool.or_false, Int.add_zero, ne_eq, not_false_eq_true, decide_true, Bool.or_true] at this
        rw [← this]
        congr 1
        unfold fU
        rw [List.flatMap_append, List.append_assoc]
        simp [hz]
    · have := ih (n + 1) k (by omega)
      rw [leavesUpto_no hk] at this
      rw [← this]
      by_cases hlf : leafB m0 n = true
      · have h45 : (rd_T43 m0 (n : Int)).f2 ≠ 4 ∧ (rd_T43 m0 (n : Int)).f2 ≠ 5 := by
          refine ⟨fun q => hk ?_, fun q => hk ?_⟩ <;> (unfold leafK knd; rw [hlf, q]; rfl)
        rw [if_pos hlf, if_pos (by omega), if_neg h45.1, show ((rd_T43 m0 (n : Int)).f2 != 5) = true by simpa using h45.2]
        simp only [spec_CloseYear.j2]
        rw [if_pos trivial, hw]
      · rw [if_neg hlf]
        simp only [spec_CloseYear.j2]
        rw [if_pos trivial, hw]
theorem spec_CloseYear_l0 (m0 : List Acc) (d c : Int) (m1 : List Ent) (h : Int) (m2 : List Per) (a b day : Int) (h1 : ∀ x ∈ m0, x.f0.size ≤ maxLen) (hfr : frameB m0 d c = true) (hn : m1.length ≤ 1000) (hf : ∀ e ∈ m1, entFine e) (hd : ∀ e ∈ m1, 0 ≤ e.f0) :
    ∀ (r n k : Nat), (n : Int) + r = d →
    spec_CloseYear.l0 (k + 1 + (2 * m0.length + 2) * r) day (n : Int) m0 d c m1 h m2 a b m0 d c day 0 closeT (allL b (clB m1 day) (leavesUpto m0 m0.length) n) =
    if entryB m0 d c ⟨day, 0, closeT, closeL m0 d m1 b day⟩ = true then some (day, 0, closeT, closeL m0 d m1 b day, true) else some (0, 0, ⟨#[]⟩, [], false) := by
  obtain ⟨hcl, ⟨hd1, hd2⟩, _⟩ := frame_len hfr
  have hch := (frame_parts hfr).1
  intro r
  induction r with
  | zero =>
    intro n k hr
    have hnd : n = d.toNat := by omega
    have he : spec_EntryOk.f m0 d c day 0 closeT (closeL m0 d m1 b day) = some (entryB m0 d c ⟨day, 0, closeT, closeL m0 d m1 b day⟩) := by
      unfold spec_EntryOk.f
      rw [if_pos ⟨h1, by decide⟩, hfr, Bool.true_and]
    simp only [Nat.mul_zero, Nat.add_zero, spec_CloseYear.l0]
    rw [if_neg (by omega), show allL b (clB m1 day) (leavesUpto m0 m0.length) n = closeL m0 d m1 b day by unfold closeL; rw [hnd], he]
    rfl
  | succ r ih =>
    intro n k hr
    have hlen := allL_len b (clB m1 day) (leavesUpto m0 m0.length) (by have := leavesUpto_len m0 m0.length; omega) n
    have hul := clU_len (clB m1 day n) n (leavesUpto m0 m0.length) (leavesUpto m0 m0.length).length
    have hll := leavesUpto_len m0 m0.length
    have hl1 := spec_CloseYear_l1 m0 d c m1 h m2 a b day n closeT (allL b (clB m1 day) (leavesUpto m0 m0.length) n) h1 hch hcl hn hf hd (by omega) m0.length 0 (k + 1 + (2 * m0.length + 2) * r + 1) (by omega)
    have e0 : leavesUpto m0 0 = [] := rfl
    have hw : wrap64 ((n : Int) + 1) = ((n + 1 : Nat) : Int) := by rw [wrin (by omega) (by omega)]; push_cast; rfl
    rw [show k + 1 + (2 * m0.length + 2) * (r + 1) = ((k + 1 + (2 * m0.length + 2) * r + 1) + 2 * m0.length) + 1 by rw [Nat.mul_succ]; omega]
    simp only [spec_CloseYear.l0]
    rw [if_pos (by omega)]
    rw [e0] at hl1
    simp only [List.map_nil, List.sum_nil, List.any_nil, fU, List.flatMap_nil, List.append_nil] at hl1
    rw [show ((0 : Nat) : Int) = 0 from rfl] at hl1
    rw [hl1]
    simp only [spec_CloseYear.l1]
    rw [if_neg (by omega), hw]
    have hih := ih (n + 1) k (by push_cast; omega)
    rw [← hih]
    have hA := clA_full (clB m1 day n) (leavesUpto m0 m0.length)
    have hS := clS_full (clB m1 day n) (leavesUpto m0 m0.length)
    have hU := clU_full (clB m1 day n) n (leavesUpto m0 m0.length)
    by_cases hq : (leavesUpto m0 m0.length).any (fun i => decide (clB m1 day n i ≠ 0)) = true
    · rw [if_pos hq, if_pos (by rw [List.length_append]; unfold fU at hU; rw [hU] at hul; omega)]
      congr 1
      simp only [allL, dimL]
      rw [hA, hS, hU, if_pos hq, List.append_assoc]
      rfl
    · rw [if_neg hq]
      congr 1
      simp only [allL, dimL]
      rw [hA, hS, hU, if_neg hq, List.append_nil]
      rfl
theorem spec_CloseYear_is (m0 : List Acc) (d c : Int) (m1 : List Ent) (h : Int) (m2 : List Per) (a b day : Int) (h1 : ∀ x ∈ m0, x.f0.size ≤ maxLen) (h2 : ∀ e ∈ m1, e.f2.size ≤ maxLen) (k : Nat) (hk : 10000 ≤ k) : spec_CloseYear.f k m0 d c m1 h m2 a b day = some (closeR m0 d c m1 h m2 a b day) := by
  unfold spec_CloseYear.f spec_BooksOk.f closeR
  rw [if_pos ⟨h1, h2⟩]
  simp only [Option.bind_some]
  by_cases q1 : booksB m0 d c m1 h m2 a b = true
  · have hq := booksB_true.1 q1
    obtain ⟨hln, _, hfine, _, hdays⟩ := ledger_fine (ledgerB_true.2 hq.1)
    obtain ⟨hcl, ⟨hd1, hd2⟩, _⟩ := frame_len hq.1.1
    have hm : (2 * m0.length + 2) * d.toNat ≤ 242 * 20 := Nat.mul_le_mul (by omega) (by omega)
    have hl := spec_CloseYear_l0 m0 d c m1 h m2 a b day h1 hq.1.1 hln hfine (fun e he => (hdays e he).1) d.toNat 0 (k - 1 - (2 * m0.length + 2) * d.toNat) (by omega)
    rw [show k - 1 - (2 * m0.length + 2) * d.toNat + 1 + (2 * m0.length + 2) * d.toNat = k by omega] at hl
    rw [if_pos q1]
    refine Eq.trans hl ?_
    by_cases q2 : entryB m0 d c ⟨day, 0, closeT, closeL m0 d m1 b day⟩ = true
    · rw [if_pos q2, if_pos ⟨q1, q2⟩]
    · rw [if_neg q2, if_neg (fun q => q2 q.2)]
  · rw [if_neg q1, if_neg (fun q => q1 q.1)]
theorem closeR_len {m0 : List Acc} {d c : Int} {m1 : List Ent} {h : Int} {m2 : List Per} {a b day : Int} {x y : Int} {s : ByteArray} {l : List Lin} {t : Bool} (q : closeR m0 d c m1 h m2 a b day = (x, y, s, l, t)) : l.length ≤ 1048576 := by
  unfold closeR at q
  split at q
  · rename_i hc
    have := (entryB_true.1 hc.2).2.2.2.1.2
    simp only [Prod.mk.injEq] at q
    rw [← q.2.2.2.1]
    have h2 : (closeL m0 d m1 b day).length ≤ 60 := this
    omega
  · simp only [Prod.mk.injEq] at q
    rw [← q.2.2.2.1]
    simp
end Go.Proofs.Ytjnibbkjoclboaa.Q
