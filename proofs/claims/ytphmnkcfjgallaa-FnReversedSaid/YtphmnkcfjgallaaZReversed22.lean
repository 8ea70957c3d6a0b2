/- Parts of the proof: what functions of the program and of the reference answer.
   No condition. -/
import Derived.Test.YtphmnkcfjgallaaZReversed1
import Derived.Test.YtphmnkcfjgallaaZReversed10
import Derived.Test.YtphmnkcfjgallaaZReversed14
import Derived.Test.YtphmnkcfjgallaaZReversed2
import Derived.Test.YtphmnkcfjgallaaZReversed12
import Derived.Test.YtphmnkcfjgallaaZReversed4
import Derived.Test.YtphmnkcfjgallaaZReversed16
import Derived.Test.YtphmnkcfjgallaaZReversed17
import Derived.Test.YtphmnkcfjgallaaZReversed21
import Derived.Test.YtphmnkcfjgallaaZReversed15
import Derived.Test.YtphmnkcfjgallaaZReversed9
import Derived.Test.YtphmnkcfjgallaaZReversed11
import Derived.Test.YtphmnkcfjgallaaZReversed18
namespace Go.Proofs.Ytphmnkcfjgallaa.Q
open Go.RowKit Go.Proofs.YtphmnkcfjgallaaW.PrintWords Go.Proofs.YtphmnkcfjgallaaW.PrintLast Go.Proofs.YtphmnkcfjgallaaW.PrintMore
set_option linter.unusedVariables false
set_option linter.unusedSimpArgs false
theorem box_grown {W W2 : World} {base : Nat} {v : Value} {xs : List Ent} {g : Nat} (hg : W.grownBy W2 v.ownBlock) (hb : W.heap[g]? = some (.cells #[.slice none 0 0, .int .i64 0] 29 (0, 0))) (hO : k34.R 34 W base (fun _ => True) v xs) : W2.heap[g]? = some (.cells #[.slice none 0 0, .int .i64 0] 29 (0, 0)) := blk_grown hb hg (Kd.R_ne hO hb (by decide))
theorem box_grown1 {W0 W W2 : World} {base : Nat} {v : Value} {xs : List Ent} {g : Nat} (hz : W0.heap[g]? = some (.cells #[.slice none 0 0, .int .i64 0] 29 (0, 0))) (hg : W.grownBy W2 v.ownBlock) (hb : W0.heap[g]? = some (.cells #[.slice none 0 0, .int .i64 0] 29 (0, 0)) → W.heap[g]? = some (.cells #[.slice none 0 0, .int .i64 0] 29 (0, 0))) (hO : k34.R 34 W base (fun _ => True) v xs) : W2.heap[g]? = some (.cells #[.slice none 0 0, .int .i64 0] 29 (0, 0)) := box_grown hg (hb hz) hO
theorem boxL1 {W0 W2 : World} {base : Nat} {v : Value} {xs : List Ent} {g : Nat} (hg : (W0.alloc (.cells #[.slice none 0 0, .int .i64 0] 29)).grownBy W2 v.ownBlock) (hs : g = W0.heap.size) (hO : k34.R 34 (W0.alloc (.cells #[.slice none 0 0, .int .i64 0] 29)) base (fun _ => True) v xs) : W2.heap[g]? = some (.cells #[.slice none 0 0, .int .i64 0] 29 (0, 0)) := by
  subst hs
  exact box_grown hg (blk_new W0 (.cells #[.slice none 0 0, .int .i64 0] 29)) hO
theorem boxL2 {W0 W2 : World} {base : Nat} {v : Value} {xs : List Ent} {g : Nat} {o : Obj} (hg : ((W0.alloc (.cells #[.slice none 0 0, .int .i64 0] 29)).alloc o).grownBy W2 v.ownBlock) (hs : g = W0.heap.size) (hO : k34.R 34 ((W0.alloc (.cells #[.slice none 0 0, .int .i64 0] 29)).alloc o) base (fun _ => True) v xs) : W2.heap[g]? = some (.cells #[.slice none 0 0, .int .i64 0] 29 (0, 0)) := by
  subst hs
  exact box_grown hg (blk_alloc (blk_new W0 (.cells #[.slice none 0 0, .int .i64 0] 29)) o) hO
theorem undrew {W W2 : World} {row : Option Nat} (hg : W.drew.grownBy W2 row) : W.grownBy W2 row := ⟨hg.os, hg.tape, hg.output, hg.size, hg.block⟩
theorem box_lo {W2 : World} {g KQ : Nat} {o : Obj} (_ : W2.heap[g]? = some o) (h : KQ ≤ g) : KQ ≤ g := h
theorem Rows_take {α : Type} {Rr : α → List Value → Prop} {sz : Nat} {W : World} {A : Option Addr} {xs : List α} {m : Nat} (h : ReadsRow Rr sz W A xs.length xs) (hm : m ≤ xs.length) : ReadsRow Rr sz W A m (xs.take m) := by
  have hl : (xs.take m).length = m := by rw [List.length_take]; omega
  refine ⟨hl, by have := h.2.1; omega, fun hp => ?_⟩
  obtain ⟨ad, e, hc⟩ := h.2.2 (by omega)
  refine ⟨ad, e, fun j p hj => hc j p ?_⟩
  rw [List.getElem?_take] at hj
  split at hj
  · exact hj
  · cases hj
theorem Rows_drop {α : Type} {Rr : α → List Value → Prop} {sz : Nat} {W : World} {A : Option Addr} {xs : List α} {m c : Nat} (h : ReadsRow Rr sz W A xs.length xs) (hm : m ≤ xs.length) (hc : xs.length ≤ c) : ReadsRow Rr sz W (if c = m then A else A.map (·.add (m * sz))) (xs.length - m) (xs.drop m) := by
  have hl : (xs.drop m).length = xs.length - m := List.length_drop
  refine ⟨hl, by have := h.2.1; omega, fun hp => ?_⟩
  obtain ⟨ad, rfl, hcell⟩ := h.2.2 (by omega)
  rw [if_neg (by omega)]
  refine ⟨ad.add (m * sz), rfl, fun j p hj => ?_⟩
  rw [List.getElem?_drop] at hj
  obtain ⟨cs, h1, h2, h3⟩ := hcell (m + j) p hj
  refine ⟨cs, h1, h2, fun i u hu => ?_⟩
  rw [add_add, show m * sz + (j * sz + i) = (m + j) * sz + i by rw [Nat.add_mul]; omega]
  exact h3 i u hu
theorem ent_nil (W : World) {base : Nat} (hb : base ≤ W.heap.size) : k34.R 34 (W.alloc (.cells #[] 34)) base (fun _ => True) (.slice (some ⟨W.heap.size, 0, none⟩) 0 0) [] := by
  have h2 := World.ownsRow_lit (base := base) (e := 34) (size := 4) W #[] 0 hb (by simp [maxLen]) (by simp)
  have h3 : (W.alloc (Obj.cells #[] 34)).ownsRow base 34 4 (Value.slice (some { block := W.heap.size, off := 0 }) 0 0) 0 [] := by simpa using h2
  exact ⟨fun _ _ => trivial, [], h3, Reps.none _ _⟩
theorem ent_nil' (W : World) {base g : Nat} (hg : g = W.heap.size) (hb : base ≤ W.heap.size) : k34.R 34 (W.alloc (.cells #[] 34)) base (fun _ => True) (.slice (some ⟨g, 0, none⟩) 0 0) [] := by subst hg; exact ent_nil W hb
theorem rows_of {W : World} {base K : Nat} {A : Option Addr} {c : Nat} {es : List Ent} (h : k34.R 34 W base (fun k => k < K) (.slice A es.length c) es) : ReadsRow (k34.M W base (fun k => k < K)) 4 W A es.length es := by
  obtain ⟨A', c', e, _, hr⟩ := OwnRow.reads h.2
  injection e with e1 e2 e3
  subst e1
  exact ReadsRow.imp_ hr (Below.refl _ _) (fun _ _ hp => Kd.M_mono k34 (fun k hk => hk.1) hp)
set_option maxHeartbeats 8000000 in
set_option maxRecDepth 100000 in
theorem laws_FnReversed.to {Wf : Int → Prop} (A0 : Option Addr) (c0 : Nat) (l0 : List Int) (w : World) (hr0 : Kd.C (Kd.int .u8) w A0 l0.length l0) (hc0 : l0.length ≤ c0) (hw : l0.length ≤ maxLen ∧ ∀ a ∈ l0, Wf a) :
    Calls Try.prog 3 #[.slice A0 l0.length c0] w fun e w' => e = .returned (.bool true) ∧ Below w.heap.size w w' := by
  have H0 := Aside0.mk hr0
  clear hr0 hw
  go_enter Try.func3, Try.ntmps3
  go_wp2_with fail
  refine (laws_big.calls A0 c0 l0 _ _ H0.out hc0 rfl).mono ?_
  rintro x w1 ⟨rfl, hd⟩
  have HB := Aside0.mk hd.below
  by_cases hbig : (l0.length : Int) > 1048576
  · have hb' : decide ((l0.length : Int) > 1048576) = true := decide_eq_true hbig
    clear hd
    go_wp2_with fail
    go_ret
    exact ⟨rfl, HB.out⟩
  have hb' : decide ((l0.length : Int) > 1048576) = false := decide_eq_false hbig
  replace H0 := Aside0.mk (Kd.C_below H0.out HB.out)
  clear hd
  go_wp2_with fail
  refine (spec_DrawReverse.e _ A0 c0 l0 H0.out hc0 (by omega)).mono ?_
  rintro x w2 ⟨v0, v1, ch, d, u, es, h, ix, at1, rfl, hR0, hS1, ⟨⟨hg, _⟩, hdd, huu, hge⟩, hb⟩
  obtain ⟨A, c, rfl, n0, hC⟩ := Kd.R_reads hR0
  obtain ⟨A1, c1, rfl, n1, hC1⟩ := Kd.S_reads hS1
  have RE := Aside0.mk (Kd.S_R hS1)
  have HS := Aside0.mk (show ∀ x ∈ ch, x.f0.size ≤ maxLen from fun x hx => Nat.le_trans (hg.2.1 x hx) (by unfold maxLen; omega))
  have HM := Aside0.mk (show ∀ e ∈ es, e.f2.size ≤ maxLen from fun x hx => Nat.le_trans (hge.2 x hx).1 (by unfold maxLen; omega))
  have HL := Aside0.mk (show ∀ e ∈ es, e.f3.length ≤ 1048576 from fun x hx => Nat.le_trans (hge.2 x hx).2 (by omega))
  have hes := hge.1
  have hch := hg.1
  have HW12 := Aside0.mk hb.size
  replace HB := Aside0.mk (below_into (w := w) hb HB.out)
  have K0 := Aside0.mk hC
  have K1 := Aside0.mk hC1
  clear hR0 hS1 hC hC1 hb hg hb' hge H0
  go_upto_region 4 with fail
  have BC := Aside0.mk (blk_alloc (blk_new w2 (Obj.cells #[.slice A ch.length c, .int .i64 d, .int .i64 u] 26)) (Obj.cells #[.slice A1 es.length c1, .int .i64 h] 29))
  have BM := Aside0.mk (show ((w2.alloc (Obj.cells #[.slice A ch.length c, .int .i64 d, .int .i64 u] 26)).alloc (Obj.cells #[.slice A1 es.length c1, .int .i64 h] 29)).heap[w2.heap.size + 1]? = some (Obj.cells #[.slice A1 es.length c1, .int .i64 h] 29) from by have := blk_new (w2.alloc (Obj.cells #[.slice A ch.length c, .int .i64 d, .int .i64 u] 26)) (Obj.cells #[.slice A1 es.length c1, .int .i64 h] 29); simpa using this)
  have hb := below_alloc (below_alloc (Below.refl w2.heap.size w2) (Obj.cells #[.slice A ch.length c, .int .i64 d, .int .i64 u] 26)) (Obj.cells #[.slice A1 es.length c1, .int .i64 h] 29)
  replace K0 := Aside0.mk (Kd.C_below K0.out hb)
  replace K1 := Aside0.mk (Kd.C_below K1.out hb)
  replace RE := Aside0.mk (Kd.R_below RE.out hb)
  replace HB := Aside0.mk (below_into (w := w) hb HB.out)
  clear hb
  generalize ((w2.alloc (Obj.cells #[.slice A ch.length c, .int .i64 d, .int .i64 u] 26)).alloc (Obj.cells #[.slice A1 es.length c1, .int .i64 h] 29)) = w3 at *
  have yBC0 := (blk_cell BC.out 0).trans rfl
  have yBC1 := (blk_cell BC.out 1).trans rfl
  have yBC2 := (blk_cell BC.out 2).trans rfl
  have yBM0 := (blk_cell BM.out 0).trans rfl
  have yBM1 := (blk_cell BM.out 1).trans rfl
  obtain ⟨⟨r1, r2, r3, r4, r5⟩, hR⟩ : ∃ R, R = revR ch d u es h ix at1 := ⟨_, rfl⟩
  have hRL := revR_len hR.symm
  have HRI := Aside0.mk ((impl_Reverse_is ch d u es h ix at1 HS.out HM.out 300 (by omega)).trans (congrArg some hR.symm))
  have HRS := Aside0.mk ((spec_Reverse_is ch d u es h ix at1 HS.out HM.out (by omega) 300 (by omega)).trans (congrArg some hR.symm))
  have HRR := Aside0.mk hR
  clear hR
  go_wp2_with fail
  refine (impl_Reverse.calls 300 A c ch d u A1 c1 es h ix at1 r1 r2 r3 r4 r5 _ K0.out n0 K1.out n1 HRI.out).mono ?_
  rintro x w4 ⟨v3, rfl, hR3, hb⟩
  obtain ⟨A3, c3, rfl, n3, hC3⟩ := Kd.R_reads hR3
  clear hR3 HRI
  clear yBC0 yBC1 yBC2
  clear yBM0 yBM1
  replace K0 := Aside0.mk (Kd.C_below K0.out hb)
  replace K1 := Aside0.mk (Kd.C_below K1.out hb)
  replace RE := Aside0.mk (Kd.R_below RE.out hb)
  replace BC := Aside0.mk (blk_below BC.out hb)
  replace BM := Aside0.mk (blk_below BM.out hb)
  replace HB := Aside0.mk (below_into (w := w) hb HB.out)
  clear hb
  have K3 := Aside0.mk hC3
  clear hC3
  go_upto_region 5 with fail
  have hb := below_alloc (Below.refl w4.heap.size w4) (Obj.cells #[.int .i64 r1, .int .i64 r2, .string r3, .slice A3 r4.length c3] 34)
  have BE := Aside0.mk (blk_new w4 (Obj.cells #[.int .i64 r1, .int .i64 r2, .string r3, .slice A3 r4.length c3] 34))
  replace K0 := Aside0.mk (Kd.C_below K0.out hb)
  replace K1 := Aside0.mk (Kd.C_below K1.out hb)
  replace K3 := Aside0.mk (Kd.C_below K3.out hb)
  replace RE := Aside0.mk (Kd.R_below RE.out hb)
  replace BC := Aside0.mk (blk_below BC.out hb)
  replace BM := Aside0.mk (blk_below BM.out hb)
  replace HB := Aside0.mk (below_into (w := w) hb HB.out)
  clear hb
  generalize w4.alloc (Obj.cells #[.int .i64 r1, .int .i64 r2, .string r3, .slice A3 r4.length c3] 34) = w5 at *
  have yBC0 := (blk_cell BC.out 0).trans rfl
  have yBC1 := (blk_cell BC.out 1).trans rfl
  have yBC2 := (blk_cell BC.out 2).trans rfl
  have yBM0 := (blk_cell BM.out 0).trans rfl
  have yBM1 := (blk_cell BM.out 1).trans rfl
  go_wp2_with fail
  refine (spec_Reverse.calls 300 A c ch d u A1 c1 es h ix at1 r1 r2 r3 r4 r5 _ K0.out n0 K1.out n1 HRS.out).mono ?_
  rintro x w6 ⟨v4, rfl, hR4, hb⟩
  obtain ⟨A4, c4, rfl⟩ := Kd.R_slice hR4
  clear hR4 HRS
  clear yBC0 yBC1 yBC2
  clear yBM0 yBM1
  replace K0 := Aside0.mk (Kd.C_below K0.out hb)
  replace K1 := Aside0.mk (Kd.C_below K1.out hb)
  replace K3 := Aside0.mk (Kd.C_below K3.out hb)
  replace RE := Aside0.mk (Kd.R_below RE.out hb)
  replace BC := Aside0.mk (blk_below BC.out hb)
  replace BM := Aside0.mk (blk_below BM.out hb)
  replace BE := Aside0.mk (blk_below BE.out hb)
  replace HB := Aside0.mk (below_into (w := w) hb HB.out)
  clear hb
  go_upto_region 6 with fail
  have hb := below_alloc (Below.refl w6.heap.size w6) (Obj.cells #[.int .i64 r1, .int .i64 r2, .string r3, .slice A4 r4.length c4] 34)
  replace K0 := Aside0.mk (Kd.C_below K0.out hb)
  replace K1 := Aside0.mk (Kd.C_below K1.out hb)
  replace K3 := Aside0.mk (Kd.C_below K3.out hb)
  replace RE := Aside0.mk (Kd.R_below RE.out hb)
  replace BC := Aside0.mk (blk_below BC.out hb)
  replace BM := Aside0.mk (blk_below BM.out hb)
  replace BE := Aside0.mk (blk_below BE.out hb)
  replace HB := Aside0.mk (below_into (w := w) hb HB.out)
  clear hb
  generalize w6.alloc (Obj.cells #[.int .i64 r1, .int .i64 r2, .string r3, .slice A4 r4.length c4] 34) = w7 at *
  have hne : (r5 != r5) = false := by simp
  have heq : (r5 == r5) = true := by simp
  cases r5
  · go_wp2_with fail
    go_ret
    exact ⟨rfl, HB.out⟩
  clear hne heq
  obtain ⟨⟨p1, ph, pk⟩, hP⟩ : ∃ R, R = postR ch d u es h ⟨r1, r2, r3, r4⟩ := ⟨_, rfl⟩
  have hway := rev_posted HRR.out.symm rfl hP.symm
  have hIX := (rev_ways HRR.out.symm).resolve_left (by simp)
  have hi0 := hIX.2.2.1.1
  have hi1 := hIX.2.2.1.2
  have hr3 : r3.size ≤ maxLen := by rw [hIX.2.2.2.2.2.2.1]; have := (goodT_rev hi0 (by omega)).1; unfold maxLen; omega
  have HEF := Aside0.mk ((ledger_fine (ledgerB_true.2 hIX.2.1)).2.2.1)
  clear hIX
  have HPI := Aside0.mk (show ((∀ x ∈ ch, x.f0.size ≤ maxLen) ∧ (∀ e ∈ es, e.f2.size ≤ maxLen) ∧ r3.size ≤ maxLen ∧ es.length ≤ 1048576 ∧ (∀ y ∈ es, y.f3.length ≤ 1048576) ∧ r4.length ≤ 1048576) ∧ postR ch d u es h ⟨r1, r2, r3, r4⟩ = (p1, ph, pk) from ⟨⟨HS.out, HM.out, hr3, by omega, HL.out, hRL⟩, hP.symm⟩)
  clear hP hr3
  have yBC0 := (blk_cell BC.out 0).trans rfl
  have yBC1 := (blk_cell BC.out 1).trans rfl
  have yBC2 := (blk_cell BC.out 2).trans rfl
  have yBM0 := (blk_cell BM.out 0).trans rfl
  have yBM1 := (blk_cell BM.out 1).trans rfl
  have yBE0 := (blk_cell BE.out 0).trans rfl
  have yBE1 := (blk_cell BE.out 1).trans rfl
  have yBE2 := (blk_cell BE.out 2).trans rfl
  have yBE3 := (blk_cell BE.out 3).trans rfl
  go_wp2_with fail
  refine (impl_Post.at A c ch d u A1 c1 es h r1 r2 r3 A3 c3 r4 p1 ph pk _ K0.out n0 K1.out n1 K3.out n3 HPI.out).mono ?_
  rintro x w8 ⟨v5, rfl, hS5, hb⟩
  obtain ⟨A5, c5, rfl, n5, hC5⟩ := Kd.S_reads hS5
  clear hS5 HPI
  clear yBC0 yBC1 yBC2
  clear yBM0 yBM1
  clear yBE0 yBE1 yBE2 yBE3
  replace K0 := Aside0.mk (Kd.C_below K0.out hb)
  replace K1 := Aside0.mk (Kd.C_below K1.out hb)
  replace K3 := Aside0.mk (Kd.C_below K3.out hb)
  replace RE := Aside0.mk (Kd.R_below RE.out hb)
  replace BC := Aside0.mk (blk_below BC.out hb)
  replace BM := Aside0.mk (blk_below BM.out hb)
  replace BE := Aside0.mk (blk_below BE.out hb)
  replace HB := Aside0.mk (below_into (w := w) hb HB.out)
  clear hb
  have K5 := Aside0.mk hC5
  clear hC5 K3 BE HL
  go_upto_region 9 with fail
  have hb := below_alloc (Below.refl w8.heap.size w8) (Obj.cells #[.slice A5 p1.length c5, .int .i64 ph] 29)
  have BN := Aside0.mk (blk_new w8 (Obj.cells #[.slice A5 p1.length c5, .int .i64 ph] 29))
  replace K0 := Aside0.mk (Kd.C_below K0.out hb)
  replace K1 := Aside0.mk (Kd.C_below K1.out hb)
  replace K5 := Aside0.mk (Kd.C_below K5.out hb)
  replace RE := Aside0.mk (Kd.R_below RE.out hb)
  replace BC := Aside0.mk (blk_below BC.out hb)
  replace BM := Aside0.mk (blk_below BM.out hb)
  replace HB := Aside0.mk (below_into (w := w) hb HB.out)
  clear hb
  generalize w8.alloc (Obj.cells #[.slice A5 p1.length c5, .int .i64 ph] 29) = w9 at *
  rcases hway with rfl | ⟨rfl, hpl, hpf, hpe⟩
  · go_wp2_with fail
    go_ret
    exact ⟨rfl, HB.out⟩
  have HF := Aside0.mk hpf
  have HE := Aside0.mk hpe
  clear hpf hpe
  go_upto_region 11 with fail
  clear K1
  go_wp2_with fail
  go_loopg [13] ch.length (fun kq v13 W => ∃ a : Int, v13 = .int .i64 a ∧ 0 ≤ a ∧ a ≤ (ch.length : Int) ∧ kq + a.toNat = ch.length ∧ Aside0 (Kd.C k131 W A ch.length ch) ∧ Aside0 (Kd.C k34 W A5 p1.length p1) ∧ Aside0 (Kd.R k34 34 W w1.heap.size (fun _ => True) (.slice A1 es.length c1) es) ∧ Aside0 (W.heap[w2.heap.size]? = some (.cells #[.slice A ch.length c, .int .i64 d, .int .i64 u] 26 (0, 0))) ∧ Aside0 (W.heap[w2.heap.size + 1]? = some (.cells #[.slice A1 es.length c1, .int .i64 h] 29 (0, 0))) ∧ Aside0 (W.heap[w8.heap.size]? = some (.cells #[.slice A5 p1.length c5, .int .i64 ph] 29 (0, 0))) ∧ Aside0 (Below w.heap.size w W))
  case atStart => exact ⟨0, rfl, by omega, by omega, by simp, K0, K5, RE, BC, BM, BN, HB⟩
  case round =>
    clear K0 K5 RE BC BM BN HB
    obtain ⟨a, rfl, a0, a1, hka, K0, K5, RE, BC, BM, BN, HB⟩ := hrel
    have x0 := (blk_cell BC.out 0).trans rfl
    by_cases ha : a < (ch.length : Int)
    · obtain ⟨k1, rfl⟩ : ∃ k, gk = k + 1 := ⟨gk - 1, by omega⟩
      go_wp2_with fail
      clear x0
      go_loopg [14] (u + 1).toNat (fun kq v14 W => ∃ x : Int, v14 = .int .i64 x ∧ -1 ≤ x ∧ x ≤ u ∧ kq + (x + 1).toNat = (u + 1).toNat ∧ Aside0 (Kd.C k131 W A ch.length ch) ∧ Aside0 (Kd.C k34 W A5 p1.length p1) ∧ Aside0 (Kd.R k34 34 W w1.heap.size (fun _ => True) (.slice A1 es.length c1) es) ∧ Aside0 (W.heap[w2.heap.size]? = some (.cells #[.slice A ch.length c, .int .i64 d, .int .i64 u] 26 (0, 0))) ∧ Aside0 (W.heap[w2.heap.size + 1]? = some (.cells #[.slice A1 es.length c1, .int .i64 h] 29 (0, 0))) ∧ Aside0 (W.heap[w8.heap.size]? = some (.cells #[.slice A5 p1.length c5, .int .i64 ph] 29 (0, 0))) ∧ Aside0 (Below w.heap.size w W))
      case atStart => exact ⟨-1, rfl, by omega, by omega, by simp, K0, K5, RE, BC, BM, BN, HB⟩
      case round =>
        clear K0 K5 RE BC BM BN HB
        obtain ⟨x, rfl, x0, x1, hkx, K0, K5, RE, BC, BM, BN, HB⟩ := hrel
        have z2 := (blk_cell BC.out 2).trans rfl
        by_cases hx : x < u
        · obtain ⟨k2, rfl⟩ : ∃ k, gk = k + 1 := ⟨gk - 1, by omega⟩
          have zn0 := (blk_cell BN.out 0).trans rfl
          have zn1 := (blk_cell BN.out 1).trans rfl
          go_wp2_with fail
          refine (impl_Balance.to A5 c5 p1 ph a (-1) x 0 40000 _ K5.out hpl HF.out).mono ?_
          rintro xx w10 ⟨rfl, hb⟩
          replace K0 := Aside0.mk (Kd.C_below K0.out hb)
          replace K5 := Aside0.mk (Kd.C_below K5.out hb)
          replace RE := Aside0.mk (Kd.R_below RE.out hb)
          replace BC := Aside0.mk (blk_below BC.out hb)
          replace BM := Aside0.mk (blk_below BM.out hb)
          replace BN := Aside0.mk (blk_below BN.out hb)
          replace HB := Aside0.mk (below_into (w := w) hb HB.out)
          clear hb z2 zn0 zn1
          rw [(HE.out a x).1, (HE.out a x).2]
          obtain ⟨GM, hGM⟩ : ∃ z_, z_ = es.take ix.toNat ++ es.drop (ix.toNat + 1) := ⟨_, rfl⟩
          have HGMX := Aside0.mk hGM
          rw [← hGM]
          have hGL : GM.length ≤ 1000 := by rw [hGM]; simp; omega
          have HGF := Aside0.mk (show ∀ e ∈ GM, entFine e from fun e he => by
            rw [hGM] at he
            rcases List.mem_append.1 he with he | he
            · exact HEF.out e (List.mem_of_mem_take he)
            · exact HEF.out e (List.mem_of_mem_drop he))
          clear hGM
          go_upto_region 18 with fail
          go_cut [17] (fun s17_ wx => ∃ (b_ : Nat) (A_ : Option Addr) (c_ : Nat), s17_ = .pointer (some ⟨b_, 0, none⟩) ∧ Aside0 (wx.heap[b_]? = some (.cells #[.slice A_ GM.length c_, .int .i64 0] 29 (0, 0))) ∧ Aside0 (Kd.C k34 wx A_ GM.length GM) ∧ Aside0 (Below w10.heap.size w10 wx))
          case first =>
            obtain ⟨i34, hi34, hs34⟩ : ∃ i, Try.prog.info? 34 = some i ∧ i.size = 4 := by
              obtain ⟨i, e1, e2⟩ := Option.map_eq_some_iff.1 info34
              simp only [Prod.mk.injEq] at e2
              exact ⟨i, e1, e2.2.1⟩
            have hct := cut_to (P := Try.prog) 27 34 .i64 Try.underlying27 hi34 A1 es.length c1 ix hi0 (by omega) n1
            have hcf := cut_from (P := Try.prog) 27 34 .i64 Try.underlying27 hi34 4 hs34 A1 es.length c1 (ix + 1) (by omega) (by omega)
            have hwi : IntKind.i64.wrap (ix + 1) = ix + 1 := by rw [IntKind.wrap_i64]; omega
            have hj0 : (0 : Int) ≤ ix + 1 := by omega
            have hj1 : ix + 1 ≤ (es.length : Int) := by omega
            have hj2 : ix ≤ (c1 : Int) := by omega
            have hj3 : ix ≤ (es.length : Int) := by omega
            obtain ⟨KQ, hKQ⟩ : ∃ n, n = w10.heap.size := ⟨_, rfl⟩
            have RM10 := Aside0.mk (Kd.R_mono (Kd.R_bound RE.out) (ok' := fun k => k < KQ) (fun k hk => by have := hk.2.2.1; omega))
            have HRD := Aside0.mk (fun (W : World) (h : ReadsRow (k34.M W w1.heap.size (fun k => k < KQ)) 4 W A1 es.length es) => Rows_drop (m := (ix + 1).toNat) (c := c1) h (by omega) (by omega))
            obtain ⟨A2, hA2⟩ : ∃ z_, z_ = (if c1 = (ix + 1).toNat then A1 else A1.map (·.add ((ix + 1).toNat * 4))) := ⟨_, rfl⟩
            rw [← hA2] at HRD hcf
            clear hA2
            have HX := Aside0.mk (Below.refl w10.heap.size w10)
            have BM10 := BM
            have hBK := Aside0.mk (show w2.heap.size + 1 < w10.heap.size from blk_lt BM10.out)
            have hwK : w1.heap.size ≤ w10.heap.size := by have h1 := blk_lt BC.out; have h2 := HW12.out; omega
            go_region_held3 (fun w' => w'.cell? ⟨w2.heap.size + 1, 0, none⟩ = some (.slice A1 es.length c1)) ((first | exact (blk_cell (by repeat (with_reducible first | exact BM.out | refine blk_alloc ?_ _ | refine blk_drewN ?_ _ | refine blk_drew ?_)) 0).trans rfl | ((repeat (with_reducible refine cell_off ?_ _ ?_; (· (have h2 := hBK.out; first | (have h1 := HZ.out; dsimp only; omega) | (have h1 := HX.out.size; dsimp only; first | omega | (simp; omega)))))); first | assumption | exact (blk_cell (by repeat (with_reducible first | exact BM.out | refine blk_alloc ?_ _ | refine blk_drewN ?_ _ | refine blk_drew ?_)) 0).trans rfl) | go_keep))
              ((first | (refine Kd.R_append_rows_step k34 w1.heap.size (by rfl) (.tmp 86) (.tmp 90) 27 34 (.agg #[(.int .i64 0), (.int .i64 0), (.string ⟨#[]⟩), (.slice none 0 0)]) 56 rfl Try.underlying27 info34 rfl (by decide) (by omega) (.slice (some ⟨_, 0, none⟩) 0 0) ([]) (es.take ix.toNat) (A1) (ix.toNat) (c1) (fun _ => True) (fun k => k < KQ) rfl rfl ?aO ?aR (fun _ _ h => h) ?aK ?aF (Below.refl _ _) ?aS ?aL ?_; (case aO => exact (by repeat (with_reducible first | exact ent_nil' _ (by first | rfl | simp) (by first | omega | (simp; omega)) | apply Kd.R_alloc | apply Kd.R_drewN | apply Kd.R_drew))); (case aR => exact Rows_take (rows_of (c := c1) (by repeat (with_reducible first | exact Kd.R_below RM10.out HX.out | apply Kd.R_alloc | apply Kd.R_drewN | apply Kd.R_drew))) (by omega)); (case aK => exact fun k hk => ⟨trivial, fun e => by have := (fun k hk => by simp [Value.ownBlock] at hk <;> omega) k e.symm; omega⟩); (case aF => exact fun _ _ => trivial); (case aS => exact (by have h1 := HX.out.size; first | omega | (simp; done) | (simp; omega))); (case aL => first | omega | (simp; omega)); intro v7 w12 ho hb hg hat; (first | (have _h := BZ; replace BZ := Aside0.mk (box_grown1 (base := w1.heap.size) BZ.out hg (fun hz => (by repeat (with_reducible first | exact hz | refine blk_alloc ?_ _ | refine blk_drewN ?_ _ | refine blk_drew ?_))) (by repeat (with_reducible first | exact ent_nil' _ (by first | rfl | simp) (by first | omega | (simp; omega)) | apply Kd.R_alloc | apply Kd.R_drewN | apply Kd.R_drew)))) | (have BZ := Aside0.mk (boxL1 (base := w1.heap.size) (g := w10.heap.size + 1) hg (by first | rfl | (simp; done)) (by repeat (with_reducible first | exact ent_nil' _ (by first | rfl | simp) (by first | omega | (simp; omega)) | apply Kd.R_alloc | apply Kd.R_drewN | apply Kd.R_drew))); have HZ := Aside0.mk (box_lo BZ.out (show KQ ≤ _ from (by have h1 := HX.out.size; first | omega | (simp; omega))))) | (have BZ := Aside0.mk (boxL1 (base := w1.heap.size) (g := w10.heap.size + 1) (undrew hg) (by first | rfl | (simp; done)) (by repeat (with_reducible first | exact ent_nil' _ (by first | rfl | simp) (by first | omega | (simp; omega)) | apply Kd.R_alloc | apply Kd.R_drewN | apply Kd.R_drew))); have HZ := Aside0.mk (box_lo BZ.out (show KQ ≤ _ from (by have h1 := HX.out.size; first | omega | (simp; omega))))) | (have BZ := Aside0.mk (boxL1 (base := w1.heap.size) (g := w10.heap.size) hg (by first | rfl | (simp; done)) (by repeat (with_reducible first | exact ent_nil' _ (by first | rfl | simp) (by first | omega | (simp; omega)) | apply Kd.R_alloc | apply Kd.R_drewN | apply Kd.R_drew))); have HZ := Aside0.mk (box_lo BZ.out (show KQ ≤ _ from (by have h1 := HX.out.size; first | omega | (simp; omega))))) | (have BZ := Aside0.mk (boxL1 (base := w1.heap.size) (g := w10.heap.size) (undrew hg) (by first | rfl | (simp; done)) (by repeat (with_reducible first | exact ent_nil' _ (by first | rfl | simp) (by first | omega | (simp; omega)) | apply Kd.R_alloc | apply Kd.R_drewN | apply Kd.R_drew))); have HZ := Aside0.mk (box_lo BZ.out (show KQ ≤ _ from (by have h1 := HX.out.size; first | omega | (simp; omega))))) | (have BZ := Aside0.mk (boxL2 (base := w1.heap.size) (g := w10.heap.size) hg (by first | rfl | (simp; done)) (by repeat (with_reducible first | exact ent_nil' _ (by first | rfl | simp) (by first | omega | (simp; omega)) | apply Kd.R_alloc | apply Kd.R_drewN | apply Kd.R_drew))); have HZ := Aside0.mk (box_lo BZ.out (show KQ ≤ _ from (by have h1 := HX.out.size; first | omega | (simp; omega))))) | (have BZ := Aside0.mk (boxL2 (base := w1.heap.size) (g := w10.heap.size) (undrew hg) (by first | rfl | (simp; done)) (by repeat (with_reducible first | exact ent_nil' _ (by first | rfl | simp) (by first | omega | (simp; omega)) | apply Kd.R_alloc | apply Kd.R_drewN | apply Kd.R_drew))); have HZ := Aside0.mk (box_lo BZ.out (show KQ ≤ _ from (by have h1 := HX.out.size; first | omega | (simp; omega))))) | (have BZ := Aside0.mk (boxL1 (base := w1.heap.size) hg rfl (by repeat (with_reducible first | exact ent_nil' _ (by first | rfl | simp) (by first | omega | (simp; omega)) | apply Kd.R_alloc | apply Kd.R_drewN | apply Kd.R_drew))); have HZ := Aside0.mk (box_lo BZ.out (show KQ ≤ _ from (by have h1 := HX.out.size; first | omega | (simp; omega))))) | (have BZ := Aside0.mk (boxL1 (base := w1.heap.size) (undrew hg) rfl (by repeat (with_reducible first | exact ent_nil' _ (by first | rfl | simp) (by first | omega | (simp; omega)) | apply Kd.R_alloc | apply Kd.R_drewN | apply Kd.R_drew))); have HZ := Aside0.mk (box_lo BZ.out (show KQ ≤ _ from (by have h1 := HX.out.size; first | omega | (simp; omega))))) | skip); have HX1 := Aside0.mk (pw_below_grown (B := w10.heap.size) (w := w10) (by repeat (with_reducible first | exact HX.out | refine below_alloc ?_ _ | refine pw_below_drewN ?_ _ | refine below_drew ?_)) _ (by have h1 := HX.out.size; first | omega | (simp; done) | (simp; omega)) hg (fun k hk => by simp [Value.ownBlock] at hk <;> omega)); have NB1 := Aside0.mk (show ∀ k, v7.ownBlock = some k → w10.heap.size ≤ k from fun k hk => by rcases hat with e1 | ⟨b, e1, e2⟩; exact (fun k hk => by simp [Value.ownBlock] at hk <;> omega) k (e1 ▸ hk); rw [hk] at e1; injection e1 with e1; rw [e1]; refine Nat.le_trans ?_ e2; exact (by have h1 := HX.out.size; first | omega | (simp; done) | (simp; omega))); (try clear NB); have NB := NB1; clear NB1; obtain ⟨gl, hgl⟩ : ∃ z_, z_ = ([] : List Ent) ++ es.take ix.toNat := ⟨_, rfl⟩; rw [← hgl] at ho; have hgn : gl.length ≤ ix.toNat := (by rw [hgl]; simp; omega); have HGL := Aside0.mk hgl; clear hgl; obtain ⟨AH, cH, eG⟩ := Kd.R_slice ho; subst eG; (try clear RG); have RG := Aside0.mk ho; clear HX; have HX := HX1; clear HX1; replace BM := Aside0.mk (blk_below (g := w2.heap.size + 1) (o := .cells #[.slice A1 es.length c1, .int .i64 h] 29 (0, 0)) BM10.out HX.out); clear ho hb hg hat; skip) | (refine Kd.R_append_rows_step k34 w1.heap.size (by rfl) (.tmp 91) (.tmp 96) 27 34 (.agg #[(.int .i64 0), (.int .i64 0), (.string ⟨#[]⟩), (.slice none 0 0)]) 56 rfl Try.underlying27 info34 rfl (by decide) (by omega) (.slice AH gl.length cH) (gl) (es.drop (ix + 1).toNat) (A2) (es.length - (ix + 1).toNat) (c1 - (ix + 1).toNat) (fun _ => True) (fun k => k < KQ) rfl rfl ?aO ?aR (fun _ _ h => h) ?aK ?aF (Below.refl _ _) ?aS ?aL ?_; (case aO => exact (by repeat (with_reducible first | exact RG.out | apply Kd.R_alloc | apply Kd.R_drewN | apply Kd.R_drew))); (case aR => exact HRD.out _ (rows_of (c := c1) (by repeat (with_reducible first | exact Kd.R_below RM10.out HX.out | apply Kd.R_alloc | apply Kd.R_drewN | apply Kd.R_drew)))); (case aK => exact fun k hk => ⟨trivial, fun e => by have := NB.out k e.symm; omega⟩); (case aF => exact fun _ _ => trivial); (case aS => exact (by have h1 := HX.out.size; first | omega | (simp; done) | (simp; omega))); (case aL => first | omega | (simp; omega)); intro v7 w12 ho hb hg hat; (first | (have _h := BZ; replace BZ := Aside0.mk (box_grown1 (base := w1.heap.size) BZ.out hg (fun hz => (by repeat (with_reducible first | exact hz | refine blk_alloc ?_ _ | refine blk_drewN ?_ _ | refine blk_drew ?_))) (by repeat (with_reducible first | exact RG.out | apply Kd.R_alloc | apply Kd.R_drewN | apply Kd.R_drew)))) | (have BZ := Aside0.mk (boxL1 (base := w1.heap.size) (g := w10.heap.size + 1) hg (by first | rfl | (simp; done)) (by repeat (with_reducible first | exact RG.out | apply Kd.R_alloc | apply Kd.R_drewN | apply Kd.R_drew))); have HZ := Aside0.mk (box_lo BZ.out (show KQ ≤ _ from (by have h1 := HX.out.size; first | omega | (simp; omega))))) | (have BZ := Aside0.mk (boxL1 (base := w1.heap.size) (g := w10.heap.size + 1) (undrew hg) (by first | rfl | (simp; done)) (by repeat (with_reducible first | exact RG.out | apply Kd.R_alloc | apply Kd.R_drewN | apply Kd.R_drew))); have HZ := Aside0.mk (box_lo BZ.out (show KQ ≤ _ from (by have h1 := HX.out.size; first | omega | (simp; omega))))) | (have BZ := Aside0.mk (boxL1 (base := w1.heap.size) (g := w10.heap.size) hg (by first | rfl | (simp; done)) (by repeat (with_reducible first | exact RG.out | apply Kd.R_alloc | apply Kd.R_drewN | apply Kd.R_drew))); have HZ := Aside0.mk (box_lo BZ.out (show KQ ≤ _ from (by have h1 := HX.out.size; first | omega | (simp; omega))))) | (have BZ := Aside0.mk (boxL1 (base := w1.heap.size) (g := w10.heap.size) (undrew hg) (by first | rfl | (simp; done)) (by repeat (with_reducible first | exact RG.out | apply Kd.R_alloc | apply Kd.R_drewN | apply Kd.R_drew))); have HZ := Aside0.mk (box_lo BZ.out (show KQ ≤ _ from (by have h1 := HX.out.size; first | omega | (simp; omega))))) | (have BZ := Aside0.mk (boxL2 (base := w1.heap.size) (g := w10.heap.size) hg (by first | rfl | (simp; done)) (by repeat (with_reducible first | exact RG.out | apply Kd.R_alloc | apply Kd.R_drewN | apply Kd.R_drew))); have HZ := Aside0.mk (box_lo BZ.out (show KQ ≤ _ from (by have h1 := HX.out.size; first | omega | (simp; omega))))) | (have BZ := Aside0.mk (boxL2 (base := w1.heap.size) (g := w10.heap.size) (undrew hg) (by first | rfl | (simp; done)) (by repeat (with_reducible first | exact RG.out | apply Kd.R_alloc | apply Kd.R_drewN | apply Kd.R_drew))); have HZ := Aside0.mk (box_lo BZ.out (show KQ ≤ _ from (by have h1 := HX.out.size; first | omega | (simp; omega))))) | (have BZ := Aside0.mk (boxL1 (base := w1.heap.size) hg rfl (by repeat (with_reducible first | exact RG.out | apply Kd.R_alloc | apply Kd.R_drewN | apply Kd.R_drew))); have HZ := Aside0.mk (box_lo BZ.out (show KQ ≤ _ from (by have h1 := HX.out.size; first | omega | (simp; omega))))) | (have BZ := Aside0.mk (boxL1 (base := w1.heap.size) (undrew hg) rfl (by repeat (with_reducible first | exact RG.out | apply Kd.R_alloc | apply Kd.R_drewN | apply Kd.R_drew))); have HZ := Aside0.mk (box_lo BZ.out (show KQ ≤ _ from (by have h1 := HX.out.size; first | omega | (simp; omega))))) | skip); have HX1 := Aside0.mk (pw_below_grown (B := w10.heap.size) (w := w10) (by repeat (with_reducible first | exact HX.out | refine below_alloc ?_ _ | refine pw_below_drewN ?_ _ | refine below_drew ?_)) _ (by have h1 := HX.out.size; first | omega | (simp; done) | (simp; omega)) hg NB.out); have NB1 := Aside0.mk (show ∀ k, v7.ownBlock = some k → w10.heap.size ≤ k from fun k hk => by rcases hat with e1 | ⟨b, e1, e2⟩; exact NB.out k (e1 ▸ hk); rw [hk] at e1; injection e1 with e1; rw [e1]; refine Nat.le_trans ?_ e2; exact (by have h1 := HX.out.size; first | omega | (simp; done) | (simp; omega))); (try clear NB); have NB := NB1; clear NB1; obtain ⟨gm, hgm⟩ : ∃ z_, z_ = gl ++ es.drop (ix + 1).toNat := ⟨_, rfl⟩; rw [← hgm] at ho; have HGM := Aside0.mk hgm; have hgmn : gm.length ≤ ix.toNat + es.length := (by rw [hgm]; simp; omega); clear hgm; obtain ⟨AI, cI, eG⟩ := Kd.R_slice ho; subst eG; (try clear RG); have RG := Aside0.mk ho; clear HX; have HX := HX1; clear HX1; replace BM := Aside0.mk (blk_below (g := w2.heap.size + 1) (o := .cells #[.slice A1 es.length c1, .int .i64 h] 29 (0, 0)) BM10.out HX.out); clear ho hb hg hat; (try (have zb0 := (blk_cell BZ.out 0).trans rfl; have zbz0 := blk_frozen BZ.out 0; have zb1 := (blk_cell BZ.out 1).trans rfl; have zbz1 := blk_frozen BZ.out 1)))))
            all_goals (try go_wp2_with fail)
            all_goals go_meet
            all_goals (
              have hgg : GM = gm := by rw [HGMX.out, HGM.out, HGL.out, List.nil_append, show (ix + 1).toNat = ix.toNat + 1 by omega]
              subst hgg
              refine ⟨_, AI, cI, rfl, ⟨?_⟩, ⟨?_⟩, ⟨?_⟩⟩
              · (with_reducible repeat (first | refine blk_drewN ?_ _ | refine blk_drew ?_)); first | exact blk2 BZ.out _ _ | exact blk_new _ _
              · (with_reducible repeat (first | refine Kd.C_drewN ?_ _ | refine Kd.C_drew ?_)); first | exact (Kd.R_reads' (R_put2 RG.out BZ.out (by decide) _ _)).2.2 | exact (Kd.R_reads' (Kd.R_alloc RG.out _)).2.2
              · (with_reducible repeat (first | refine pw_below_drewN ?_ _ | refine below_drew ?_)); first | exact below_put2 HX.out (by have h1 := HZ.out; omega) _ _ | exact below_alloc HX.out _)
          obtain ⟨bz, AZ, cZ, rfl, BZ, KZ, HXZ⟩ := hcut
          obtain ⟨w11, rfl⟩ : ∃ W_ : World, W_ = wc := ⟨_, rfl⟩
          have hb := HXZ.out
          replace K0 := Aside0.mk (Kd.C_below K0.out hb)
          replace K5 := Aside0.mk (Kd.C_below K5.out hb)
          replace RE := Aside0.mk (Kd.R_below RE.out hb)
          replace BC := Aside0.mk (blk_below BC.out hb)
          replace BM := Aside0.mk (blk_below BM.out hb)
          replace BN := Aside0.mk (blk_below BN.out hb)
          replace HB := Aside0.mk (below_into (w := w) hb HB.out)
          clear hb HXZ
          have zb0 := (blk_cell BZ.out 0).trans rfl
          have zb1 := (blk_cell BZ.out 1).trans rfl
          go_wp2_with fail
          refine (impl_Balance.to AZ cZ GM 0 a (-1) x 0 40000 _ KZ.out hGL HGF.out).mono ?_
          rintro xx w12 ⟨rfl, hb⟩
          replace K0 := Aside0.mk (Kd.C_below K0.out hb)
          replace K5 := Aside0.mk (Kd.C_below K5.out hb)
          replace RE := Aside0.mk (Kd.R_below RE.out hb)
          replace BC := Aside0.mk (blk_below BC.out hb)
          replace BM := Aside0.mk (blk_below BM.out hb)
          replace BN := Aside0.mk (blk_below BN.out hb)
          replace HB := Aside0.mk (below_into (w := w) hb HB.out)
          clear hb zb0 zb1 KZ BZ
          generalize amtV a (-1) x 0 40000 GM = V1
          generalize basV a (-1) x 0 40000 GM = V2
          have hn1 : (V1 != V1) = false := by simp
          have hn2 : (V2 != V2) = false := by simp
          go_wp2_with fail
          go_roundg k2
          case rel => exact ⟨x + 1, by go_num, by omega, by omega, by omega, K0, K5, RE, BC, BM, BN, HB⟩
          case measure => omega
        · go_wp2_with fail
          go_roundg k1
          case rel => exact ⟨a + 1, by go_num, by omega, by omega, by omega, K0, K5, RE, BC, BM, BN, HB⟩
          case measure => omega
    · go_wp2_with fail
      go_ret
      exact ⟨rfl, HB.out⟩
end Go.Proofs.Ytphmnkcfjgallaa.Q
