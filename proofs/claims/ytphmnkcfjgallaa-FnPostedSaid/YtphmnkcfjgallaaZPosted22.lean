/- Parts of the proof: what functions of the program and of the reference answer.
   No condition. -/
import Derived.Test.YtphmnkcfjgallaaZPosted1
import Derived.Test.YtphmnkcfjgallaaZPosted15
import Derived.Test.YtphmnkcfjgallaaZPosted2
import Derived.Test.YtphmnkcfjgallaaZPosted13
import Derived.Test.YtphmnkcfjgallaaZPosted16
import Derived.Test.YtphmnkcfjgallaaZPosted21
import Derived.Test.YtphmnkcfjgallaaZPosted10
import Derived.Test.YtphmnkcfjgallaaZPosted17
import Derived.Test.YtphmnkcfjgallaaZPosted18
namespace Go.Proofs.Ytphmnkcfjgallaa.Q
open Go.RowKit Go.Proofs.YtphmnkcfjgallaaW.PrintWords Go.Proofs.YtphmnkcfjgallaaW.PrintLast Go.Proofs.YtphmnkcfjgallaaW.PrintMore
set_option linter.unusedVariables false
set_option linter.unusedSimpArgs false
set_option maxHeartbeats 8000000 in
set_option maxRecDepth 100000 in
theorem laws_FnPosted.to {Wf : Int → Prop} (A0 : Option Addr) (c0 : Nat) (l0 : List Int) (w : World) (hr0 : Kd.C (Kd.int .u8) w A0 l0.length l0) (hc0 : l0.length ≤ c0) (hw : l0.length ≤ maxLen ∧ ∀ a ∈ l0, Wf a) :
    Calls Try.prog 4 #[.slice A0 l0.length c0] w fun e w' => e = .returned (.bool true) ∧ Below w.heap.size w w' := by
  have H0 := Aside0.mk hr0
  clear hr0 hw
  go_enter Try.func4, Try.ntmps4
  go_wp2_with fail
  refine (laws_big.calls A0 c0 l0 _ _ H0.out hc0 rfl).mono ?_
  rintro x w1 ⟨rfl, hd⟩
  have HB := Aside0.mk hd.below
  by_cases hbig : (l0.length : Int) > 1048576
  · have hb' : decide ((l0.length : Int) > 1048576) = true := decide_eq_true hbig
    clear hd
    go_wp2_with fail
    go_ret
    exact ⟨rfl, HB.out⟩
  have hb' : decide ((l0.length : Int) > 1048576) = false := decide_eq_false hbig
  replace H0 := Aside0.mk (Kd.C_below H0.out HB.out)
  clear hd
  go_wp2_with fail
  refine (spec_DrawPost.e _ A0 c0 l0 H0.out hc0 (by omega)).mono ?_
  rintro x w2 ⟨v0, v1, v2, ch, d, u, es, h, ea, eb, et, er, rfl, hR0, hS1, hR2, ⟨⟨hg, _⟩, hdd, huu, hge, hr9, ht⟩, hb⟩
  obtain ⟨A, c, rfl, n0, hC⟩ := Kd.R_reads hR0
  obtain ⟨A1, c1, rfl, n1, hC1⟩ := Kd.S_reads hS1
  obtain ⟨A2, c2, rfl, n2, hC2⟩ := Kd.R_reads hR2
  have HS := Aside0.mk (show ∀ x ∈ ch, x.f0.size ≤ maxLen from fun x hx => Nat.le_trans (hg.2.1 x hx) (by unfold maxLen; omega))
  have HM := Aside0.mk (show ∀ e ∈ es, e.f2.size ≤ maxLen from fun x hx => Nat.le_trans (hge.2 x hx).1 (by unfold maxLen; omega))
  have HL := Aside0.mk (show ∀ e ∈ es, e.f3.length ≤ 1048576 from fun x hx => Nat.le_trans (hge.2 x hx).2 (by omega))
  have hes := hge.1
  have hch := hg.1
  replace H0 := Aside0.mk (Kd.C_below H0.out hb)
  replace HB := Aside0.mk (below_into (w := w) hb HB.out)
  have K0 := Aside0.mk hC
  have K1 := Aside0.mk hC1
  have K2 := Aside0.mk hC2
  clear hR0 hS1 hR2 hC hC1 hC2 hb hg hb' hge
  go_upto_region 4 with fail
  have BC := Aside0.mk (blk_alloc (blk_alloc (blk_new w2 (Obj.cells #[.slice A ch.length c, .int .i64 d, .int .i64 u] 26)) (Obj.cells #[.slice A1 es.length c1, .int .i64 h] 29)) (Obj.cells #[.int .i64 ea, .int .i64 eb, .string et, .slice A2 er.length c2] 34))
  have BM := Aside0.mk (blk_alloc (show (((w2.alloc (Obj.cells #[.slice A ch.length c, .int .i64 d, .int .i64 u] 26))).alloc (Obj.cells #[.slice A1 es.length c1, .int .i64 h] 29)).heap[w2.heap.size + 1]? = some (Obj.cells #[.slice A1 es.length c1, .int .i64 h] 29) from by have := blk_new (w2.alloc (Obj.cells #[.slice A ch.length c, .int .i64 d, .int .i64 u] 26)) (Obj.cells #[.slice A1 es.length c1, .int .i64 h] 29); simpa using this) (Obj.cells #[.int .i64 ea, .int .i64 eb, .string et, .slice A2 er.length c2] 34))
  have BE := Aside0.mk (show (((w2.alloc (Obj.cells #[.slice A ch.length c, .int .i64 d, .int .i64 u] 26)).alloc (Obj.cells #[.slice A1 es.length c1, .int .i64 h] 29)).alloc (Obj.cells #[.int .i64 ea, .int .i64 eb, .string et, .slice A2 er.length c2] 34)).heap[w2.heap.size + 1 + 1]? = some (Obj.cells #[.int .i64 ea, .int .i64 eb, .string et, .slice A2 er.length c2] 34) from by have := blk_new ((w2.alloc (Obj.cells #[.slice A ch.length c, .int .i64 d, .int .i64 u] 26)).alloc (Obj.cells #[.slice A1 es.length c1, .int .i64 h] 29)) (Obj.cells #[.int .i64 ea, .int .i64 eb, .string et, .slice A2 er.length c2] 34); simpa using this)
  have hb := below_alloc (below_alloc (below_alloc (Below.refl w2.heap.size w2) (Obj.cells #[.slice A ch.length c, .int .i64 d, .int .i64 u] 26)) (Obj.cells #[.slice A1 es.length c1, .int .i64 h] 29)) (Obj.cells #[.int .i64 ea, .int .i64 eb, .string et, .slice A2 er.length c2] 34)
  replace K0 := Aside0.mk (Kd.C_below K0.out hb)
  replace K1 := Aside0.mk (Kd.C_below K1.out hb)
  replace K2 := Aside0.mk (Kd.C_below K2.out hb)
  replace H0 := Aside0.mk (Kd.C_below H0.out hb)
  replace HB := Aside0.mk (below_into (w := w) hb HB.out)
  clear hb
  generalize (((w2.alloc (Obj.cells #[.slice A ch.length c, .int .i64 d, .int .i64 u] 26)).alloc (Obj.cells #[.slice A1 es.length c1, .int .i64 h] 29)).alloc (Obj.cells #[.int .i64 ea, .int .i64 eb, .string et, .slice A2 er.length c2] 34)) = w3 at *
  have yBC0 := (blk_cell BC.out 0).trans rfl
  have yBC1 := (blk_cell BC.out 1).trans rfl
  have yBC2 := (blk_cell BC.out 2).trans rfl
  have yBM0 := (blk_cell BM.out 0).trans rfl
  have yBM1 := (blk_cell BM.out 1).trans rfl
  have yBE0 := (blk_cell BE.out 0).trans rfl
  have yBE1 := (blk_cell BE.out 1).trans rfl
  have yBE2 := (blk_cell BE.out 2).trans rfl
  have yBE3 := (blk_cell BE.out 3).trans rfl
  obtain ⟨⟨r1, rh, rk⟩, hR⟩ : ∃ R, R = postR ch d u es h ⟨ea, eb, et, er⟩ := ⟨_, rfl⟩
  have HPW := Aside0.mk (post_ways hR.symm)
  have HPS := Aside0.mk ((spec_Post_is ch d u es h ⟨ea, eb, et, er⟩ HS.out HM.out (by show et.size ≤ maxLen; unfold maxLen; omega) (by omega) HL.out (by show er.length ≤ 1048576; omega) 2000000 (Nat.le_refl _)).trans (congrArg some hR.symm))
  have HPI := Aside0.mk (show ((∀ x ∈ ch, x.f0.size ≤ maxLen) ∧ (∀ e ∈ es, e.f2.size ≤ maxLen) ∧ et.size ≤ maxLen ∧ es.length ≤ 1048576 ∧ (∀ y ∈ es, y.f3.length ≤ 1048576) ∧ er.length ≤ 1048576) ∧ postR ch d u es h ⟨ea, eb, et, er⟩ = (r1, rh, rk) from ⟨⟨HS.out, HM.out, (show et.size ≤ maxLen by unfold maxLen; omega), by omega, HL.out, by omega⟩, hR.symm⟩)
  clear hR HL
  go_wp2_with fail
  refine (spec_Post.calls 2000000 A c ch d u A1 c1 es h ea eb et A2 c2 er r1 rh rk _ K0.out n0 K1.out n1 K2.out n2 HPS.out).mono ?_
  rintro x w4 ⟨v3, rfl, hS3, hb⟩
  obtain ⟨A3, c3, rfl⟩ := Kd.S_slice hS3
  clear hS3 HPS
  clear yBC0 yBC1 yBC2
  clear yBM0 yBM1
  clear yBE0 yBE1 yBE2 yBE3
  replace K0 := Aside0.mk (Kd.C_below K0.out hb)
  replace K1 := Aside0.mk (Kd.C_below K1.out hb)
  replace K2 := Aside0.mk (Kd.C_below K2.out hb)
  replace H0 := Aside0.mk (Kd.C_below H0.out hb)
  replace BC := Aside0.mk (blk_below BC.out hb)
  replace BM := Aside0.mk (blk_below BM.out hb)
  replace BE := Aside0.mk (blk_below BE.out hb)
  replace HB := Aside0.mk (below_into (w := w) hb HB.out)
  clear hb
  go_upto_region 5 with fail
  have hb := below_alloc (Below.refl w4.heap.size w4) (Obj.cells #[.slice A3 r1.length c3, .int .i64 rh] 29)
  replace K0 := Aside0.mk (Kd.C_below K0.out hb)
  replace K1 := Aside0.mk (Kd.C_below K1.out hb)
  replace K2 := Aside0.mk (Kd.C_below K2.out hb)
  replace H0 := Aside0.mk (Kd.C_below H0.out hb)
  replace BC := Aside0.mk (blk_below BC.out hb)
  replace BM := Aside0.mk (blk_below BM.out hb)
  replace BE := Aside0.mk (blk_below BE.out hb)
  replace HB := Aside0.mk (below_into (w := w) hb HB.out)
  clear hb
  generalize w4.alloc (Obj.cells #[.slice A3 r1.length c3, .int .i64 rh] 29) = w5 at *
  have yBC0 := (blk_cell BC.out 0).trans rfl
  have yBC1 := (blk_cell BC.out 1).trans rfl
  have yBC2 := (blk_cell BC.out 2).trans rfl
  have yBM0 := (blk_cell BM.out 0).trans rfl
  have yBM1 := (blk_cell BM.out 1).trans rfl
  have yBE0 := (blk_cell BE.out 0).trans rfl
  have yBE1 := (blk_cell BE.out 1).trans rfl
  have yBE2 := (blk_cell BE.out 2).trans rfl
  have yBE3 := (blk_cell BE.out 3).trans rfl
  go_wp2_with fail
  refine (impl_Post.at A c ch d u A1 c1 es h ea eb et A2 c2 er r1 rh rk _ K0.out n0 K1.out n1 K2.out n2 HPI.out).mono ?_
  rintro x w6 ⟨v4, rfl, hS4, hb⟩
  obtain ⟨A4, c4, rfl, n4, hC4⟩ := Kd.S_reads hS4
  clear hS4 HPI
  clear yBC0 yBC1 yBC2
  clear yBM0 yBM1
  clear yBE0 yBE1 yBE2 yBE3
  replace K0 := Aside0.mk (Kd.C_below K0.out hb)
  replace K1 := Aside0.mk (Kd.C_below K1.out hb)
  replace K2 := Aside0.mk (Kd.C_below K2.out hb)
  replace H0 := Aside0.mk (Kd.C_below H0.out hb)
  replace BC := Aside0.mk (blk_below BC.out hb)
  replace BM := Aside0.mk (blk_below BM.out hb)
  replace BE := Aside0.mk (blk_below BE.out hb)
  replace HB := Aside0.mk (below_into (w := w) hb HB.out)
  clear hb
  have K4 := Aside0.mk hC4
  clear hC4 BE K2
  go_upto_region 6 with fail
  have hb := below_alloc (Below.refl w6.heap.size w6) (Obj.cells #[.slice A4 r1.length c4, .int .i64 rh] 29)
  have BG := Aside0.mk (blk_new w6 (Obj.cells #[.slice A4 r1.length c4, .int .i64 rh] 29))
  replace K0 := Aside0.mk (Kd.C_below K0.out hb)
  replace K1 := Aside0.mk (Kd.C_below K1.out hb)
  replace H0 := Aside0.mk (Kd.C_below H0.out hb)
  replace K4 := Aside0.mk (Kd.C_below K4.out hb)
  replace BC := Aside0.mk (blk_below BC.out hb)
  replace BM := Aside0.mk (blk_below BM.out hb)
  replace HB := Aside0.mk (below_into (w := w) hb HB.out)
  clear hb
  generalize w6.alloc (Obj.cells #[.slice A4 r1.length c4, .int .i64 rh] 29) = w7 at *
  have hne : (rk != rk) = false := by simp
  rcases HPW.out with ⟨rfl, rfl⟩ | ⟨hq, hway⟩
  · clear HPW
    have yBG0 := (blk_cell BG.out 0).trans rfl
    go_wp2_with fail
    go_ret
    exact ⟨rfl, HB.out⟩
  clear HPW hne
  have hk1 : (rk == 1) = false := by rcases hway with ⟨rfl, _⟩ | ⟨rfl | rfl, _⟩ <;> rfl
  have hne : (rk != rk) = false := by simp
  have HQ := Aside0.mk hq
  have hfine := ledger_fine (ledgerB_true.2 hq)
  have hn4 := hfine.1
  have HF := Aside0.mk hfine.2.2.1
  have HM4 := Aside0.mk (show ∀ e ∈ r1, e.f2.size ≤ maxLen from fun e he => Nat.le_trans (hq.2.2.1 e he).2.2.1 (by unfold maxLen; omega))
  clear hfine hq
  obtain ⟨ra, hra⟩ := at_some l0 0 (by decide)
  obtain ⟨rb, hrb⟩ := at_some l0 1 (by decide)
  have yBC0 := (blk_cell BC.out 0).trans rfl
  have yBC1 := (blk_cell BC.out 1).trans rfl
  have yBC2 := (blk_cell BC.out 2).trans rfl
  have yBG0 := (blk_cell BG.out 0).trans rfl
  have yBG1 := (blk_cell BG.out 1).trans rfl
  go_wp2_with fail
  refine (impl_LedgerOk.to A c ch d u A4 c4 r1 rh _ K0.out HS.out K4.out HM4.out).mono ?_
  rintro x w8 ⟨rfl, hb⟩
  rw [ledgerB_true.2 HQ.out]
  clear hk1
  clear yBC0 yBC1 yBC2
  clear yBG0 yBG1
  replace K0 := Aside0.mk (Kd.C_below K0.out hb)
  replace K1 := Aside0.mk (Kd.C_below K1.out hb)
  replace H0 := Aside0.mk (Kd.C_below H0.out hb)
  replace K4 := Aside0.mk (Kd.C_below K4.out hb)
  replace BC := Aside0.mk (blk_below BC.out hb)
  replace BM := Aside0.mk (blk_below BM.out hb)
  replace BG := Aside0.mk (blk_below BG.out hb)
  replace HB := Aside0.mk (below_into (w := w) hb HB.out)
  clear hb
  rcases hway with ⟨rfl, hl⟩ | ⟨hk, e1, e2⟩
  · have e1 : wrap64 ((es.length : Int) + 1) = (r1.length : Int) := by unfold wrap64; omega
    have hne1 : ((r1.length : Int) != IntKind.i64.wrap ((es.length : Int) + 1)) = false := by rw [i64_w, e1]; simp
    have hne2 : ((r1.length : Int) != wrap64 ((es.length : Int) + 1)) = false := by rw [e1]; simp
    clear e1
    have yBG0 := (blk_cell BG.out 0).trans rfl
    have yBM0 := (blk_cell BM.out 0).trans rfl
    go_upto_region 12 with fail
    clear yBG0
    clear yBM0
    clear hne1 hne2 BM hl
    go_wp2_with fail
    go_loopg [10] d.toNat (fun kq v10 W => ∃ i : Int, v10 = .int .i64 i ∧ 0 ≤ i ∧ i ≤ d ∧ kq + i.toNat = d.toNat ∧ Aside0 (Kd.C (Kd.int .u8) W A0 l0.length l0) ∧ Aside0 (Kd.C k131 W A ch.length ch) ∧ Aside0 (Kd.C k34 W A4 r1.length r1) ∧ Aside0 (W.heap[w2.heap.size]? = some (.cells #[.slice A ch.length c, .int .i64 d, .int .i64 u] 26 (0, 0))) ∧ Aside0 (W.heap[w6.heap.size]? = some (.cells #[.slice A4 r1.length c4, .int .i64 rh] 29 (0, 0))) ∧ Aside0 (Below w.heap.size w W))
    case atStart => exact ⟨0, rfl, by omega, by omega, by simp, H0, K0, K4, BC, BG, HB⟩
    case round =>
      clear H0 K0 K4 BC BG HB
      obtain ⟨i, rfl, i0, i1, hki, H0, K0, K4, BC, BG, HB⟩ := hrel
      have x1 := (blk_cell BC.out 1).trans rfl
      by_cases hi : i < d
      · obtain ⟨k1, rfl⟩ : ∃ k, gk = k + 1 := ⟨gk - 1, by omega⟩
        go_upto_region 15 with fail
        clear x1
        go_region_held3 (fun w' => w'.cell? ⟨w6.heap.size, 0, none⟩ = some (.slice A4 r1.length c4) ∧ w'.cell? ⟨w6.heap.size, 1, none⟩ = some (.int .i64 rh)) ((first | exact ⟨(blk_cell (by repeat (with_reducible first | exact BG.out | refine blk_drewN ?_ _ | refine blk_drew ?_)) 0).trans rfl, (blk_cell (by repeat (with_reducible first | exact BG.out | refine blk_drewN ?_ _ | refine blk_drew ?_)) 1).trans rfl⟩ | go_keep))
          ((first | (go_at_call 23; refine (laws_at.calls A0 c0 l0 0 ra _ (by repeat (with_reducible first | exact H0.out | apply Kd.C_drewN | apply Kd.C_drew)) hc0 hra).mono ?_; rintro x wA ⟨rfl, hd⟩; have hb := hd.below; replace H0 := Aside0.mk (Kd.C_below (by repeat (with_reducible first | exact H0.out | apply Kd.C_drewN | apply Kd.C_drew)) hb); replace K0 := Aside0.mk (Kd.C_below (by repeat (with_reducible first | exact K0.out | apply Kd.C_drewN | apply Kd.C_drew)) hb); replace K4 := Aside0.mk (Kd.C_below (by repeat (with_reducible first | exact K4.out | apply Kd.C_drewN | apply Kd.C_drew)) hb); replace BC := Aside0.mk (blk_below (g := w2.heap.size) (o := .cells #[.slice A ch.length c, .int .i64 d, .int .i64 u] 26 (0, 0)) (by repeat (with_reducible first | exact BC.out | refine blk_drewN ?_ _ | refine blk_drew ?_)) hb); replace BG := Aside0.mk (blk_below (g := w6.heap.size) (o := .cells #[.slice A4 r1.length c4, .int .i64 rh] 29 (0, 0)) (by repeat (with_reducible first | exact BG.out | refine blk_drewN ?_ _ | refine blk_drew ?_)) hb); replace HB := Aside0.mk (below_into (w := w) hb (by repeat (with_reducible first | exact HB.out | refine pw_below_drewN ?_ _ | refine below_drew ?_))); clear hb hd) | (go_at_call 19; refine (impl_Balance.to A4 c4 r1 rh (-1) i (-1) 0 _ _ (by repeat (with_reducible first | exact K4.out | apply Kd.C_drewN | apply Kd.C_drew)) hn4 HF.out).mono ?_; rintro x wB ⟨rfl, hb⟩; rw [dims_even HQ.out i0]; replace H0 := Aside0.mk (Kd.C_below (by repeat (with_reducible first | exact H0.out | apply Kd.C_drewN | apply Kd.C_drew)) hb); replace K0 := Aside0.mk (Kd.C_below (by repeat (with_reducible first | exact K0.out | apply Kd.C_drewN | apply Kd.C_drew)) hb); replace K4 := Aside0.mk (Kd.C_below (by repeat (with_reducible first | exact K4.out | apply Kd.C_drewN | apply Kd.C_drew)) hb); replace BC := Aside0.mk (blk_below (g := w2.heap.size) (o := .cells #[.slice A ch.length c, .int .i64 d, .int .i64 u] 26 (0, 0)) (by repeat (with_reducible first | exact BC.out | refine blk_drewN ?_ _ | refine blk_drew ?_)) hb); replace BG := Aside0.mk (blk_below (g := w6.heap.size) (o := .cells #[.slice A4 r1.length c4, .int .i64 rh] 29 (0, 0)) (by repeat (with_reducible first | exact BG.out | refine blk_drewN ?_ _ | refine blk_drew ?_)) hb); replace HB := Aside0.mk (below_into (w := w) hb (by repeat (with_reducible first | exact HB.out | refine pw_below_drewN ?_ _ | refine below_drew ?_))); clear hb)))
        all_goals (try go_wp2_with fail)
        all_goals go_roundg k1
        all_goals first
          | (case rel => exact ⟨i + 1, by go_num, by omega, by omega, by omega, ⟨(by repeat (with_reducible first | exact H0.out | apply Kd.C_drewN | apply Kd.C_drew))⟩, ⟨(by repeat (with_reducible first | exact K0.out | apply Kd.C_drewN | apply Kd.C_drew))⟩, ⟨(by repeat (with_reducible first | exact K4.out | apply Kd.C_drewN | apply Kd.C_drew))⟩, ⟨(by repeat (with_reducible first | exact BC.out | refine blk_drewN ?_ _ | refine blk_drew ?_))⟩, ⟨(by repeat (with_reducible first | exact BG.out | refine blk_drewN ?_ _ | refine blk_drew ?_))⟩, ⟨(by repeat (with_reducible first | exact HB.out | refine pw_below_drewN ?_ _ | refine below_drew ?_))⟩⟩)
          | omega
      · skip
        go_wp2_with fail
        go_loopg [13] u.toNat (fun kq v13 W => ∃ i : Int, v13 = .int .i64 i ∧ 0 ≤ i ∧ i ≤ u ∧ kq + i.toNat = u.toNat ∧ Aside0 (Kd.C (Kd.int .u8) W A0 l0.length l0) ∧ Aside0 (Kd.C k131 W A ch.length ch) ∧ Aside0 (Kd.C k34 W A4 r1.length r1) ∧ Aside0 (W.heap[w2.heap.size]? = some (.cells #[.slice A ch.length c, .int .i64 d, .int .i64 u] 26 (0, 0))) ∧ Aside0 (W.heap[w6.heap.size]? = some (.cells #[.slice A4 r1.length c4, .int .i64 rh] 29 (0, 0))) ∧ Aside0 (Below w.heap.size w W))
        case atStart => exact ⟨0, rfl, by omega, by omega, by simp, H0, K0, K4, BC, BG, HB⟩
        case round =>
          clear H0 K0 K4 BC BG HB
          obtain ⟨i, rfl, i0, i1, hki, H0, K0, K4, BC, BG, HB⟩ := hrel
          have x2 := (blk_cell BC.out 2).trans rfl
          by_cases hi : i < u
          · obtain ⟨k1, rfl⟩ : ∃ k, gk = k + 1 := ⟨gk - 1, by omega⟩
            go_upto_region 21 with fail
            clear x2
            go_region_held3 (fun w' => w'.cell? ⟨w6.heap.size, 0, none⟩ = some (.slice A4 r1.length c4) ∧ w'.cell? ⟨w6.heap.size, 1, none⟩ = some (.int .i64 rh)) ((first | exact ⟨(blk_cell (by repeat (with_reducible first | exact BG.out | refine blk_drewN ?_ _ | refine blk_drew ?_)) 0).trans rfl, (blk_cell (by repeat (with_reducible first | exact BG.out | refine blk_drewN ?_ _ | refine blk_drew ?_)) 1).trans rfl⟩ | go_keep))
              ((first | (go_at_call 23; refine (laws_at.calls A0 c0 l0 1 rb _ (by repeat (with_reducible first | exact H0.out | apply Kd.C_drewN | apply Kd.C_drew)) hc0 hrb).mono ?_; rintro x wA ⟨rfl, hd⟩; have hb := hd.below; replace H0 := Aside0.mk (Kd.C_below (by repeat (with_reducible first | exact H0.out | apply Kd.C_drewN | apply Kd.C_drew)) hb); replace K0 := Aside0.mk (Kd.C_below (by repeat (with_reducible first | exact K0.out | apply Kd.C_drewN | apply Kd.C_drew)) hb); replace K4 := Aside0.mk (Kd.C_below (by repeat (with_reducible first | exact K4.out | apply Kd.C_drewN | apply Kd.C_drew)) hb); replace BC := Aside0.mk (blk_below (g := w2.heap.size) (o := .cells #[.slice A ch.length c, .int .i64 d, .int .i64 u] 26 (0, 0)) (by repeat (with_reducible first | exact BC.out | refine blk_drewN ?_ _ | refine blk_drew ?_)) hb); replace BG := Aside0.mk (blk_below (g := w6.heap.size) (o := .cells #[.slice A4 r1.length c4, .int .i64 rh] 29 (0, 0)) (by repeat (with_reducible first | exact BG.out | refine blk_drewN ?_ _ | refine blk_drew ?_)) hb); replace HB := Aside0.mk (below_into (w := w) hb (by repeat (with_reducible first | exact HB.out | refine pw_below_drewN ?_ _ | refine below_drew ?_))); clear hb hd) | (go_at_call 19; refine (impl_Balance.to A4 c4 r1 rh (-1) (-1) i _ 40000 _ (by repeat (with_reducible first | exact K4.out | apply Kd.C_drewN | apply Kd.C_drew)) hn4 HF.out).mono ?_; rintro x wB ⟨rfl, hb⟩; rw [curs_even HQ.out i0]; replace H0 := Aside0.mk (Kd.C_below (by repeat (with_reducible first | exact H0.out | apply Kd.C_drewN | apply Kd.C_drew)) hb); replace K0 := Aside0.mk (Kd.C_below (by repeat (with_reducible first | exact K0.out | apply Kd.C_drewN | apply Kd.C_drew)) hb); replace K4 := Aside0.mk (Kd.C_below (by repeat (with_reducible first | exact K4.out | apply Kd.C_drewN | apply Kd.C_drew)) hb); replace BC := Aside0.mk (blk_below (g := w2.heap.size) (o := .cells #[.slice A ch.length c, .int .i64 d, .int .i64 u] 26 (0, 0)) (by repeat (with_reducible first | exact BC.out | refine blk_drewN ?_ _ | refine blk_drew ?_)) hb); replace BG := Aside0.mk (blk_below (g := w6.heap.size) (o := .cells #[.slice A4 r1.length c4, .int .i64 rh] 29 (0, 0)) (by repeat (with_reducible first | exact BG.out | refine blk_drewN ?_ _ | refine blk_drew ?_)) hb); replace HB := Aside0.mk (below_into (w := w) hb (by repeat (with_reducible first | exact HB.out | refine pw_below_drewN ?_ _ | refine below_drew ?_))); clear hb)))
            all_goals (try go_wp2_with fail)
            all_goals go_roundg k1
            all_goals first
              | (case rel => exact ⟨i + 1, by go_num, by omega, by omega, by omega, ⟨(by repeat (with_reducible first | exact H0.out | apply Kd.C_drewN | apply Kd.C_drew))⟩, ⟨(by repeat (with_reducible first | exact K0.out | apply Kd.C_drewN | apply Kd.C_drew))⟩, ⟨(by repeat (with_reducible first | exact K4.out | apply Kd.C_drewN | apply Kd.C_drew))⟩, ⟨(by repeat (with_reducible first | exact BC.out | refine blk_drewN ?_ _ | refine blk_drew ?_))⟩, ⟨(by repeat (with_reducible first | exact BG.out | refine blk_drewN ?_ _ | refine blk_drew ?_))⟩, ⟨(by repeat (with_reducible first | exact HB.out | refine pw_below_drewN ?_ _ | refine below_drew ?_))⟩⟩)
              | omega
          · clear x2 hki
            have yBC0 := (blk_cell BC.out 0).trans rfl
            have yBC1 := (blk_cell BC.out 1).trans rfl
            have yBC2 := (blk_cell BC.out 2).trans rfl
            have yBG0 := (blk_cell BG.out 0).trans rfl
            have yBG1 := (blk_cell BG.out 1).trans rfl
            go_wp2_with fail
            refine (impl_Trial.calls A c ch d u A4 c4 r1 rh 40000 (trialR ch d u r1 rh 40000) _ K0.out n0 K4.out n4 (impl_Trial_is ch d u r1 rh 40000 HS.out HM4.out)).mono ?_
            rintro x w20 ⟨v5, rfl, hR5, hb⟩
            obtain ⟨A5, c5, rfl, n5, hC5⟩ := Kd.R_reads hR5
            replace HB := Aside0.mk (below_into (w := w) hb HB.out)
            have HSU := Aside0.mk (sum_none HQ.out 40000)
            generalize trialR ch d u r1 rh 40000 = tr at n5 hC5 HSU
            clear hR5 hb yBC0 yBC1 yBC2 yBG0 yBG1 K0 K4 H0 BC BG
            have K5 := Aside0.mk hC5
            clear hC5
            go_wp2_with fail
            refine (laws_sum.calls 2000000 A5 c5 tr 0 _ K5.out n5 HSU.out).mono ?_
            rintro x w21 ⟨rfl, hd⟩
            replace HB := Aside0.mk (below_into (w := w) hd.below HB.out)
            clear hd
            go_wp2_with fail
            go_ret
            exact ⟨rfl, HB.out⟩
  · subst e1 e2
    have hk0 : (rk == 0) = false := by rcases hk with rfl | rfl <;> rfl
    have hk0' : (rk != 0) = true := by rcases hk with rfl | rfl <;> rfl
    have hne1 : ((r1.length : Int) != (r1.length : Int)) = false := by simp
    have hne2 : (rh != rh) = false := by simp
    have yBG0 := (blk_cell BG.out 0).trans rfl
    have yBG1 := (blk_cell BG.out 1).trans rfl
    have yBM0 := (blk_cell BM.out 0).trans rfl
    have yBM1 := (blk_cell BM.out 1).trans rfl
    go_upto_region 12 with fail
    clear yBG0 yBG1
    clear yBM0 yBM1
    clear hne1 hne2 BM
    go_wp2_with fail
    go_loopg [10] d.toNat (fun kq v10 W => ∃ i : Int, v10 = .int .i64 i ∧ 0 ≤ i ∧ i ≤ d ∧ kq + i.toNat = d.toNat ∧ Aside0 (Kd.C (Kd.int .u8) W A0 l0.length l0) ∧ Aside0 (Kd.C k131 W A ch.length ch) ∧ Aside0 (Kd.C k34 W A4 r1.length r1) ∧ Aside0 (W.heap[w2.heap.size]? = some (.cells #[.slice A ch.length c, .int .i64 d, .int .i64 u] 26 (0, 0))) ∧ Aside0 (W.heap[w6.heap.size]? = some (.cells #[.slice A4 r1.length c4, .int .i64 rh] 29 (0, 0))) ∧ Aside0 (Below w.heap.size w W))
    case atStart => exact ⟨0, rfl, by omega, by omega, by simp, H0, K0, K4, BC, BG, HB⟩
    case round =>
      clear H0 K0 K4 BC BG HB
      obtain ⟨i, rfl, i0, i1, hki, H0, K0, K4, BC, BG, HB⟩ := hrel
      have x1 := (blk_cell BC.out 1).trans rfl
      by_cases hi : i < d
      · obtain ⟨k1, rfl⟩ : ∃ k, gk = k + 1 := ⟨gk - 1, by omega⟩
        go_upto_region 15 with fail
        clear x1
        go_region_held3 (fun w' => w'.cell? ⟨w6.heap.size, 0, none⟩ = some (.slice A4 r1.length c4) ∧ w'.cell? ⟨w6.heap.size, 1, none⟩ = some (.int .i64 rh)) ((first | exact ⟨(blk_cell (by repeat (with_reducible first | exact BG.out | refine blk_drewN ?_ _ | refine blk_drew ?_)) 0).trans rfl, (blk_cell (by repeat (with_reducible first | exact BG.out | refine blk_drewN ?_ _ | refine blk_drew ?_)) 1).trans rfl⟩ | go_keep))
          ((first | (go_at_call 23; refine (laws_at.calls A0 c0 l0 0 ra _ (by repeat (with_reducible first | exact H0.out | apply Kd.C_drewN | apply Kd.C_drew)) hc0 hra).mono ?_; rintro x wA ⟨rfl, hd⟩; have hb := hd.below; replace H0 := Aside0.mk (Kd.C_below (by repeat (with_reducible first | exact H0.out | apply Kd.C_drewN | apply Kd.C_drew)) hb); replace K0 := Aside0.mk (Kd.C_below (by repeat (with_reducible first | exact K0.out | apply Kd.C_drewN | apply Kd.C_drew)) hb); replace K4 := Aside0.mk (Kd.C_below (by repeat (with_reducible first | exact K4.out | apply Kd.C_drewN | apply Kd.C_drew)) hb); replace BC := Aside0.mk (blk_below (g := w2.heap.size) (o := .cells #[.slice A ch.length c, .int .i64 d, .int .i64 u] 26 (0, 0)) (by repeat (with_reducible first | exact BC.out | refine blk_drewN ?_ _ | refine blk_drew ?_)) hb); replace BG := Aside0.mk (blk_below (g := w6.heap.size) (o := .cells #[.slice A4 r1.length c4, .int .i64 rh] 29 (0, 0)) (by repeat (with_reducible first | exact BG.out | refine blk_drewN ?_ _ | refine blk_drew ?_)) hb); replace HB := Aside0.mk (below_into (w := w) hb (by repeat (with_reducible first | exact HB.out | refine pw_below_drewN ?_ _ | refine below_drew ?_))); clear hb hd) | (go_at_call 19; refine (impl_Balance.to A4 c4 r1 rh (-1) i (-1) 0 _ _ (by repeat (with_reducible first | exact K4.out | apply Kd.C_drewN | apply Kd.C_drew)) hn4 HF.out).mono ?_; rintro x wB ⟨rfl, hb⟩; rw [dims_even HQ.out i0]; replace H0 := Aside0.mk (Kd.C_below (by repeat (with_reducible first | exact H0.out | apply Kd.C_drewN | apply Kd.C_drew)) hb); replace K0 := Aside0.mk (Kd.C_below (by repeat (with_reducible first | exact K0.out | apply Kd.C_drewN | apply Kd.C_drew)) hb); replace K4 := Aside0.mk (Kd.C_below (by repeat (with_reducible first | exact K4.out | apply Kd.C_drewN | apply Kd.C_drew)) hb); replace BC := Aside0.mk (blk_below (g := w2.heap.size) (o := .cells #[.slice A ch.length c, .int .i64 d, .int .i64 u] 26 (0, 0)) (by repeat (with_reducible first | exact BC.out | refine blk_drewN ?_ _ | refine blk_drew ?_)) hb); replace BG := Aside0.mk (blk_below (g := w6.heap.size) (o := .cells #[.slice A4 r1.length c4, .int .i64 rh] 29 (0, 0)) (by repeat (with_reducible first | exact BG.out | refine blk_drewN ?_ _ | refine blk_drew ?_)) hb); replace HB := Aside0.mk (below_into (w := w) hb (by repeat (with_reducible first | exact HB.out | refine pw_below_drewN ?_ _ | refine below_drew ?_))); clear hb)))
        all_goals (try go_wp2_with fail)
        all_goals go_roundg k1
        all_goals first
          | (case rel => exact ⟨i + 1, by go_num, by omega, by omega, by omega, ⟨(by repeat (with_reducible first | exact H0.out | apply Kd.C_drewN | apply Kd.C_drew))⟩, ⟨(by repeat (with_reducible first | exact K0.out | apply Kd.C_drewN | apply Kd.C_drew))⟩, ⟨(by repeat (with_reducible first | exact K4.out | apply Kd.C_drewN | apply Kd.C_drew))⟩, ⟨(by repeat (with_reducible first | exact BC.out | refine blk_drewN ?_ _ | refine blk_drew ?_))⟩, ⟨(by repeat (with_reducible first | exact BG.out | refine blk_drewN ?_ _ | refine blk_drew ?_))⟩, ⟨(by repeat (with_reducible first | exact HB.out | refine pw_below_drewN ?_ _ | refine below_drew ?_))⟩⟩)
          | omega
      · skip
        go_wp2_with fail
        go_loopg [13] u.toNat (fun kq v13 W => ∃ i : Int, v13 = .int .i64 i ∧ 0 ≤ i ∧ i ≤ u ∧ kq + i.toNat = u.toNat ∧ Aside0 (Kd.C (Kd.int .u8) W A0 l0.length l0) ∧ Aside0 (Kd.C k131 W A ch.length ch) ∧ Aside0 (Kd.C k34 W A4 r1.length r1) ∧ Aside0 (W.heap[w2.heap.size]? = some (.cells #[.slice A ch.length c, .int .i64 d, .int .i64 u] 26 (0, 0))) ∧ Aside0 (W.heap[w6.heap.size]? = some (.cells #[.slice A4 r1.length c4, .int .i64 rh] 29 (0, 0))) ∧ Aside0 (Below w.heap.size w W))
        case atStart => exact ⟨0, rfl, by omega, by omega, by simp, H0, K0, K4, BC, BG, HB⟩
        case round =>
          clear H0 K0 K4 BC BG HB
          obtain ⟨i, rfl, i0, i1, hki, H0, K0, K4, BC, BG, HB⟩ := hrel
          have x2 := (blk_cell BC.out 2).trans rfl
          by_cases hi : i < u
          · obtain ⟨k1, rfl⟩ : ∃ k, gk = k + 1 := ⟨gk - 1, by omega⟩
            go_upto_region 21 with fail
            clear x2
            go_region_held3 (fun w' => w'.cell? ⟨w6.heap.size, 0, none⟩ = some (.slice A4 r1.length c4) ∧ w'.cell? ⟨w6.heap.size, 1, none⟩ = some (.int .i64 rh)) ((first | exact ⟨(blk_cell (by repeat (with_reducible first | exact BG.out | refine blk_drewN ?_ _ | refine blk_drew ?_)) 0).trans rfl, (blk_cell (by repeat (with_reducible first | exact BG.out | refine blk_drewN ?_ _ | refine blk_drew ?_)) 1).trans rfl⟩ | go_keep))
              ((first | (go_at_call 23; refine (laws_at.calls A0 c0 l0 1 rb _ (by repeat (with_reducible first | exact H0.out | apply Kd.C_drewN | apply Kd.C_drew)) hc0 hrb).mono ?_; rintro x wA ⟨rfl, hd⟩; have hb := hd.below; replace H0 := Aside0.mk (Kd.C_below (by repeat (with_reducible first | exact H0.out | apply Kd.C_drewN | apply Kd.C_drew)) hb); replace K0 := Aside0.mk (Kd.C_below (by repeat (with_reducible first | exact K0.out | apply Kd.C_drewN | apply Kd.C_drew)) hb); replace K4 := Aside0.mk (Kd.C_below (by repeat (with_reducible first | exact K4.out | apply Kd.C_drewN | apply Kd.C_drew)) hb); replace BC := Aside0.mk (blk_below (g := w2.heap.size) (o := .cells #[.slice A ch.length c, .int .i64 d, .int .i64 u] 26 (0, 0)) (by repeat (with_reducible first | exact BC.out | refine blk_drewN ?_ _ | refine blk_drew ?_)) hb); replace BG := Aside0.mk (blk_below (g := w6.heap.size) (o := .cells #[.slice A4 r1.length c4, .int .i64 rh] 29 (0, 0)) (by repeat (with_reducible first | exact BG.out | refine blk_drewN ?_ _ | refine blk_drew ?_)) hb); replace HB := Aside0.mk (below_into (w := w) hb (by repeat (with_reducible first | exact HB.out | refine pw_below_drewN ?_ _ | refine below_drew ?_))); clear hb hd) | (go_at_call 19; refine (impl_Balance.to A4 c4 r1 rh (-1) (-1) i _ 40000 _ (by repeat (with_reducible first | exact K4.out | apply Kd.C_drewN | apply Kd.C_drew)) hn4 HF.out).mono ?_; rintro x wB ⟨rfl, hb⟩; rw [curs_even HQ.out i0]; replace H0 := Aside0.mk (Kd.C_below (by repeat (with_reducible first | exact H0.out | apply Kd.C_drewN | apply Kd.C_drew)) hb); replace K0 := Aside0.mk (Kd.C_below (by repeat (with_reducible first | exact K0.out | apply Kd.C_drewN | apply Kd.C_drew)) hb); replace K4 := Aside0.mk (Kd.C_below (by repeat (with_reducible first | exact K4.out | apply Kd.C_drewN | apply Kd.C_drew)) hb); replace BC := Aside0.mk (blk_below (g := w2.heap.size) (o := .cells #[.slice A ch.length c, .int .i64 d, .int .i64 u] 26 (0, 0)) (by repeat (with_reducible first | exact BC.out | refine blk_drewN ?_ _ | refine blk_drew ?_)) hb); replace BG := Aside0.mk (blk_below (g := w6.heap.size) (o := .cells #[.slice A4 r1.length c4, .int .i64 rh] 29 (0, 0)) (by repeat (with_reducible first | exact BG.out | refine blk_drewN ?_ _ | refine blk_drew ?_)) hb); replace HB := Aside0.mk (below_into (w := w) hb (by repeat (with_reducible first | exact HB.out | refine pw_below_drewN ?_ _ | refine below_drew ?_))); clear hb)))
            all_goals (try go_wp2_with fail)
            all_goals go_roundg k1
            all_goals first
              | (case rel => exact ⟨i + 1, by go_num, by omega, by omega, by omega, ⟨(by repeat (with_reducible first | exact H0.out | apply Kd.C_drewN | apply Kd.C_drew))⟩, ⟨(by repeat (with_reducible first | exact K0.out | apply Kd.C_drewN | apply Kd.C_drew))⟩, ⟨(by repeat (with_reducible first | exact K4.out | apply Kd.C_drewN | apply Kd.C_drew))⟩, ⟨(by repeat (with_reducible first | exact BC.out | refine blk_drewN ?_ _ | refine blk_drew ?_))⟩, ⟨(by repeat (with_reducible first | exact BG.out | refine blk_drewN ?_ _ | refine blk_drew ?_))⟩, ⟨(by repeat (with_reducible first | exact HB.out | refine pw_below_drewN ?_ _ | refine below_drew ?_))⟩⟩)
              | omega
          · clear x2 hki
            have yBC0 := (blk_cell BC.out 0).trans rfl
            have yBC1 := (blk_cell BC.out 1).trans rfl
            have yBC2 := (blk_cell BC.out 2).trans rfl
            have yBG0 := (blk_cell BG.out 0).trans rfl
            have yBG1 := (blk_cell BG.out 1).trans rfl
            go_wp2_with fail
            refine (impl_Trial.calls A c ch d u A4 c4 r1 rh 40000 (trialR ch d u r1 rh 40000) _ K0.out n0 K4.out n4 (impl_Trial_is ch d u r1 rh 40000 HS.out HM4.out)).mono ?_
            rintro x w20 ⟨v5, rfl, hR5, hb⟩
            obtain ⟨A5, c5, rfl, n5, hC5⟩ := Kd.R_reads hR5
            replace HB := Aside0.mk (below_into (w := w) hb HB.out)
            have HSU := Aside0.mk (sum_none HQ.out 40000)
            generalize trialR ch d u r1 rh 40000 = tr at n5 hC5 HSU
            clear hR5 hb yBC0 yBC1 yBC2 yBG0 yBG1 K0 K4 H0 BC BG
            have K5 := Aside0.mk hC5
            clear hC5
            go_wp2_with fail
            refine (laws_sum.calls 2000000 A5 c5 tr 0 _ K5.out n5 HSU.out).mono ?_
            rintro x w21 ⟨rfl, hd⟩
            replace HB := Aside0.mk (below_into (w := w) hd.below HB.out)
            clear hd
            go_wp2_with fail
            go_ret
            exact ⟨rfl, HB.out⟩
end Go.Proofs.Ytphmnkcfjgallaa.Q
