/- Parts of the proof: what functions of the program and of the reference answer.
   No condition. -/
import Derived.Test.YtphmnkcfjgallaaZShut1
import Derived.Test.YtphmnkcfjgallaaZShut2
import Derived.Test.YtphmnkcfjgallaaZShut9
import Derived.Test.YtphmnkcfjgallaaZShut10
import Derived.Test.YtphmnkcfjgallaaZShut11
import Derived.Test.YtphmnkcfjgallaaZShut13
namespace Go.Proofs.Ytphmnkcfjgallaa.Q
open Go.RowKit Go.Proofs.YtphmnkcfjgallaaW.PrintWords Go.Proofs.YtphmnkcfjgallaaW.PrintLast Go.Proofs.YtphmnkcfjgallaaW.PrintMore
set_option linter.unusedVariables false
set_option linter.unusedSimpArgs false
theorem laws_heldPeriodS_is (l : List Per) (k : Nat) (a : Int) (hk : l.length < k) (hl : l.length ≤ 1048576) (h0 : 0 ≤ a) (h1 : a ≤ 1000000000000000) : laws_heldPeriodS.f k (mAll mPer nPer a l) a = some (nAll nPer a l) := by
  have := held_loop laws_heldPeriodS.l0 mPer nPer z133 0 2 4611686018427387000 (by omega) (fun _ => True) (fun x _ b => by unfold nPer; omega) (fun k y x a i _ hi hi2 hl h0 hB _ hy => by
    have hy' : rd_T133 y i = mPer a x := hy
    simp only [laws_heldPeriodS.l0]
    rw [if_pos hi2, if_pos hi, hy', wr1 h0 (by omega), wr1 (a := a + 1) (by omega) (by omega), wr1 hi (by omega)]
    simp only [mPer, if_true]
    rfl) (fun k x a i h => by simp only [laws_heldPeriodS.l0]; rw [if_neg (by omega)]) l [] k a (by omega) (by simpa using hl) h0 (by omega) (fun _ _ => trivial)
  exact this
theorem laws_heldAccountS_is (l : List Acc) (k : Nat) (a : Int) (hk : l.length + 100 < k) (hl : l.length ≤ 1048576) (h0 : 0 ≤ a) (h1 : a ≤ 1000000000000000) : laws_heldAccountS.f k (mAll mAcc nAcc a l) a = some (nAll nAcc a l) := by
  have := held_loop laws_heldAccountS.l0 mAcc nAcc z131 100 3 4611686018427387000 (by omega) (fun _ => True) (fun x _ b => by unfold nAcc; omega) (fun k y x a i hD hi hi2 hl h0 hB _ hy => by
    have hy' : rd_T131 y i = mAcc a x := hy
    simp only [laws_heldAccountS.l0]
    rw [if_pos hi2, if_pos hi, laws_markText_is h0 (by omega) hD]
    simp only [Option.bind_some]
    rw [hy', wr1 h0 (by omega), wr1 (a := a + 1) (by omega) (by omega), wr1 (a := a + 1 + 1) (by omega) (by omega), wr1 hi (by omega)]
    simp only [mAcc, if_true]
    rfl) (fun k x a i h => by simp only [laws_heldAccountS.l0]; rw [if_neg (by omega)]) l [] k a (by omega) (by simpa using hl) h0 (by omega) (fun _ _ => trivial)
  exact this
theorem laws_heldFrame_is (l : List Acc) (d c : Int) (k : Nat) (a : Int) (hk : l.length + 100 < k) (hl : l.length ≤ 1048576) (h0 : 0 ≤ a) (h1 : a ≤ 1000000000000000) : laws_heldFrame.f k (mAll mAcc nAcc a l) d c a = some (nAll nAcc a l) := by
  unfold laws_heldFrame.f
  rw [laws_heldAccountS_is l k a hk hl h0 h1]
  have := (nAcc_b l a).1
  simp only [Option.bind_some]
  rw [if_neg (by omega)]
set_option maxHeartbeats 16000000 in
set_option maxRecDepth 100000 in
theorem laws_heldLedger.to (A : Option Addr) (c : Nat) (l : List Ent) (h a1 : Int) (w : World) (hr : Kd.C k34 w A l.length (mAll mEnt nEnt a1 l)) (h0 : 0 ≤ a1) (h1 : a1 ≤ 100000000000000) (hl : l.length ≤ 1048576) (hs : ∀ x ∈ l, x.f3.length ≤ 1048576) :
    Calls Try.prog 60 #[.agg #[.slice A l.length c, .int .i64 h], .int .i64 a1] w fun e w' => e = .returned (.int .i64 (nAll nEnt a1 l)) ∧ Below w.heap.size w w' := by
  have HB := Aside0.mk (below_alloc (Below.refl w.heap.size w) (.cells #[.slice A l.length c, .int .i64 h] 29))
  have HR := Aside0.mk hr
  have hn := nEnt_b l hs a1
  have HE := Aside0.mk (fun (W : World) (hC : Kd.C k34 W A l.length (mAll mEnt nEnt a1 l)) => laws_heldEntryS.to A c l a1 W hC h0 h1 hl hs)
  clear hr
  generalize mAll mEnt nEnt a1 l = M at *
  generalize nAll nEnt a1 l = K at *
  go_enter Try.func60, Try.ntmps60
  go_wp2_with fail
  refine (HE.out _ (Kd.C_below HR.out HB.out)).mono ?_
  rintro e w2 ⟨rfl, hb⟩
  have HB2 := Aside0.mk (below_into (w := w) hb HB.out)
  clear hb
  have hq : ¬ K < 0 := by omega
  have hq2 : decide (K < 0) = false := decide_eq_false hq
  go_wp2_with fail
  go_ret
  exact ⟨rfl, HB2.out⟩
noncomputable def mkB (k : Int) (m0 : List Acc) (m1 : List Ent) (m2 : List Per) : Int := nAll nPer (nAll nEnt (nAll nAcc k m0) m1) m2
def smallB (m0 : List Acc) (m1 : List Ent) (m2 : List Per) : Prop := m0.length ≤ 1048576 ∧ (m1.length ≤ 1048576 ∧ ∀ x ∈ m1, x.f3.length ≤ 1048576) ∧ m2.length ≤ 1048576
theorem mkB_b {k : Int} {m0 : List Acc} {m1 : List Ent} {m2 : List Per} (h : smallB m0 m1 m2) : (k ≤ nAll nAcc k m0 ∧ nAll nAcc k m0 ≤ k + 3 * 1048576) ∧ (k ≤ nAll nEnt (nAll nAcc k m0) m1 ∧ nAll nEnt (nAll nAcc k m0) m1 ≤ k + 3 * 1048576 + 5242883 * 1048576) ∧ k ≤ mkB k m0 m1 m2 ∧ mkB k m0 m1 m2 ≤ k + 3 * 1048576 + 5242883 * 1048576 + 2 * 1048576 := by
  obtain ⟨h0, ⟨h1, h2⟩, h3⟩ := h
  have b0 := nAcc_b m0 k
  have b1 := nEnt_b m1 h2 (nAll nAcc k m0)
  have b2 := nPer_b m2 (nAll nEnt (nAll nAcc k m0) m1)
  unfold mkB
  omega
set_option maxHeartbeats 16000000 in
set_option maxRecDepth 100000 in
theorem laws_heldBooks.to (X0 : Option Addr) (e0 : Nat) (m0 : List Acc) (d c : Int) (X1 : Option Addr) (e1 : Nat) (m1 : List Ent) (h : Int) (X2 : Option Addr) (e2 : Nat) (m2 : List Per) (p q k : Int) (w : World)
    (hR0 : Kd.C k131 w X0 m0.length (mAll mAcc nAcc k m0)) (hS1 : Kd.C k34 w X1 m1.length (mAll mEnt nEnt (nAll nAcc k m0) m1)) (hR2 : Kd.C k133 w X2 m2.length (mAll mPer nPer (nAll nEnt (nAll nAcc k m0) m1) m2))
    (hc0 : m0.length ≤ e0) (hc2 : m2.length ≤ e2) (h0 : 0 ≤ k) (h1 : k ≤ 10000000) (hs : smallB m0 m1 m2) :
    Calls Try.prog 67 #[.agg #[.slice X0 m0.length e0, .int .i64 d, .int .i64 c, .slice X1 m1.length e1, .int .i64 h, .slice X2 m2.length e2, .int .i64 p, .int .i64 q], .int .i64 k] w fun e w' => e = .returned (.int .i64 (mkB k m0 m1 m2)) ∧ Below w.heap.size w w' := by
  have HB := Aside0.mk (below_alloc (Below.refl w.heap.size w) (.cells #[.slice X0 m0.length e0, .int .i64 d, .int .i64 c, .slice X1 m1.length e1, .int .i64 h, .slice X2 m2.length e2, .int .i64 p, .int .i64 q] 50))
  have C0 := Aside0.mk hR0
  have C1 := Aside0.mk hS1
  have C2 := Aside0.mk hR2
  have E0 := Aside0.mk hc0
  have E2 := Aside0.mk hc2
  obtain ⟨b0, b1, b2⟩ := mkB_b (k := k) hs
  have HS := Aside0.mk hs
  have F0 := Aside0.mk (laws_heldFrame_is m0 d c (m0.length + 101) k (by omega) HS.out.1 h0 (by omega))
  have F2 := Aside0.mk (laws_heldPeriodS_is m2 (m2.length + 1) (nAll nEnt (nAll nAcc k m0) m1) (by omega) HS.out.2.2 (by omega) (by omega))
  clear hR0 hS1 hR2 hc0 hc2 hs
  have HF := Aside0.mk (fun (W : World) (hC : Kd.C k131 W X0 m0.length (mAll mAcc nAcc k m0)) => by
    have := laws_heldFrame.calls (m0.length + 101) X0 e0 (mAll mAcc nAcc k m0) d c k _ W (by rw [mAll_length]; exact hC) (by rw [mAll_length]; exact E0.out) F0.out
    rw [mAll_length] at this
    exact this)
  have HP := Aside0.mk (fun (W : World) (hC : Kd.C k133 W X2 m2.length (mAll mPer nPer (nAll nEnt (nAll nAcc k m0) m1) m2)) => by
    have := laws_heldPeriodS.calls (m2.length + 1) X2 e2 (mAll mPer nPer (nAll nEnt (nAll nAcc k m0) m1) m2) (nAll nEnt (nAll nAcc k m0) m1) _ W (by rw [mAll_length]; exact hC) (by rw [mAll_length]; exact E2.out) F2.out
    rw [mAll_length] at this
    exact this)
  have HL := Aside0.mk (fun (W : World) (hC : Kd.C k34 W X1 m1.length (mAll mEnt nEnt (nAll nAcc k m0) m1)) => laws_heldLedger.to X1 e1 m1 h (nAll nAcc k m0) W hC (by omega) (by omega) HS.out.2.1.1 HS.out.2.1.2)
  clear F0 F2
  unfold mkB at b2 ⊢
  generalize mAll mAcc nAcc k m0 = M0 at *
  generalize nAll nAcc k m0 = k1 at *
  generalize mAll mEnt nEnt k1 m1 = M1 at *
  generalize nAll nEnt k1 m1 = k2 at *
  generalize mAll mPer nPer k2 m2 = M2 at *
  generalize nAll nPer k2 m2 = k3 at *
  have q1 : decide (k1 < 0) = false := decide_eq_false (by omega)
  have q2 : decide (k2 < 0) = false := decide_eq_false (by omega)
  have q3 : decide (k3 < 0) = false := decide_eq_false (by omega)
  go_enter Try.func67, Try.ntmps67
  go_wp2_with fail
  refine (HF.out _ (Kd.C_below C0.out HB.out)).mono ?_
  rintro x w1 ⟨rfl, hb⟩
  have f3 : w1.cell? ⟨w.heap.size, 3, none⟩ = some (.slice X1 m1.length e1) := pw_cell_below hb (by go_simp)
  have f4 : w1.cell? ⟨w.heap.size, 4, none⟩ = some (.int .i64 h) := pw_cell_below hb (by go_simp)
  have f5 : w1.cell? ⟨w.heap.size, 5, none⟩ = some (.slice X2 m2.length e2) := pw_cell_below hb (by go_simp)
  have HB1 := Aside0.mk (below_into (w := w) hb HB.out)
  clear hb
  go_wp2_with fail
  refine (HL.out _ (Kd.C_below C1.out HB1.out)).mono ?_
  rintro x w2 ⟨rfl, hb⟩
  replace f5 := pw_cell_below hb f5
  have HB2 := Aside0.mk (below_into (w := w) hb HB1.out)
  clear hb f3 f4
  go_wp2_with fail
  refine (HP.out _ (Kd.C_below C2.out HB2.out)).mono ?_
  rintro x w3 ⟨rfl, hd⟩
  have HB3 := Aside0.mk (below_into (w := w) hd.below HB2.out)
  clear hd
  go_wp2_with fail
  go_ret
  exact ⟨rfl, HB3.out⟩
set_option maxHeartbeats 16000000 in
set_option maxRecDepth 100000 in
theorem laws_markBooks.to2 (a b : Nat) (X0 : Option Addr) (e0 : Nat) (m0 : List Acc) (d c : Int) (X1 : Option Addr) (e1 : Nat) (m1 : List Ent) (h : Int) (X2 : Option Addr) (e2 : Nat) (m2 : List Per) (p q k : Int) (w0 w : World) (hB : Below w0.heap.size w0 w)
    (hR0 : Kd.R k131 131 w w0.heap.size (Iv a b) (.slice X0 m0.length e0) m0) (hS1 : Kd.S k34 34 w w0.heap.size (Iv a b) (.slice X1 m1.length e1) m1) (hR2 : Kd.R k133 133 w w0.heap.size (Iv a b) (.slice X2 m2.length e2) m2)
    (hbw : b ≤ w.heap.size) (h0 : 0 ≤ k) (h1 : k ≤ 10000000) (hs : smallB m0 m1 m2) :
    Calls Try.prog 62 #[.agg #[.slice X0 m0.length e0, .int .i64 d, .int .i64 c, .slice X1 m1.length e1, .int .i64 h, .slice X2 m2.length e2, .int .i64 p, .int .i64 q], .int .i64 k] w fun e w' => e = .returned (.int .i64 (mkB k m0 m1 m2)) ∧ Below w0.heap.size w0 w' ∧ Kept w w' (Iv a b) ∧
      Kd.R k131 131 w' w0.heap.size (Iv a b) (.slice X0 m0.length e0) (mAll mAcc nAcc k m0) ∧ Kd.S k34 34 w' w0.heap.size (Iv a b) (.slice X1 m1.length e1) (mAll mEnt nEnt (nAll nAcc k m0) m1) ∧ Kd.R k133 133 w' w0.heap.size (Iv a b) (.slice X2 m2.length e2) (mAll mPer nPer (nAll nEnt (nAll nAcc k m0) m1) m2) := by
  have hab := below_alloc (Below.refl w.heap.size w) (.cells #[.slice X0 m0.length e0, .int .i64 d, .int .i64 c, .slice X1 m1.length e1, .int .i64 h, .slice X2 m2.length e2, .int .i64 p, .int .i64 q] 50)
  have HB := Aside0.mk (below_into (w := w0) hab hB)
  have t0 := Kd.R_typed (Kd.R_below hR0 hab)
  have t1 := Kd.S_typed (Kd.S_below hS1 hab)
  have t2 := Kd.R_typed (Kd.R_below hR2 hab)
  have o0 := hR0.1
  have o2 := hR2.1
  have R0 := Aside0.mk (Kd.R_tight rfl (Kd.R_below hR0 hab))
  have S1 := Aside0.mk (Kd.S_apart' (Kd.S_apart' (Kd.S_below hS1 hab) t0 (by decide)) t2 (by decide))
  have R2 := Aside0.mk (Kd.R_tight2 rfl (Kd.R_apart' (Kd.R_below hR2 hab) t0 (by decide)))
  have HK := Aside0.mk (Kept.alloc (Kept.refl w (Iv a b)) (.cells #[.slice X0 m0.length e0, .int .i64 d, .int .i64 c, .slice X1 m1.length e1, .int .i64 h, .slice X2 m2.length e2, .int .i64 p, .int .i64 q] 50))
  have O0 := Aside0.mk o0
  have O2 := Aside0.mk o2
  have z0 : ∀ k, (Value.slice X0 m0.length e0).ownBlock = some k → k < w.heap.size := Kd.R_lt hR0
  have Z0 := Aside0.mk z0
  have NW := Aside0.mk (show ¬ Iv a b w.heap.size from fun hk => by have := hk.2; omega)
  obtain ⟨b0, b1, b2⟩ := mkB_b (k := k) hs
  have HS := Aside0.mk hs
  have BW := Aside0.mk hbw
  have N02 := Aside0.mk (show ∀ k, (Value.slice X2 m2.length e2).ownBlock = some k → some k ≠ (Value.slice X0 m0.length e0).ownBlock from fun k hk => ((Kd.R_apart' (Kd.R_below hR2 hab) t0 (by decide)).1 k hk).2)
  clear hB hR0 hS1 hR2 hab t0 t1 t2 o0 o2 z0 hs hbw
  have ML := Aside0.mk (fun (W : World) (hb : Below w0.heap.size w0 W) (hS : Kd.S k34 34 W w0.heap.size _ (.slice X1 m1.length e1) m1) => laws_markLedger.to (fun k_ => (Iv a b k_ ∧ ¬ (some k_ = (Value.slice X0 m0.length e0).ownBlock)) ∧ ¬ (some k_ = (Value.slice X2 m2.length e2).ownBlock)) X1 e1 m1 h (nAll nAcc k m0) w0 W hb hS (by omega) (by omega) HS.out.2.1.1 HS.out.2.1.2)
  have MP := Aside0.mk (laws_markPeriodS_is m2 (m2.length + 1) (nAll nEnt (nAll nAcc k m0) m1) (by omega) HS.out.2.2 (by omega) (by omega))
  have FR := Aside0.mk (laws_markFrame_is m0 d c (m0.length + 101) k (by omega) HS.out.1 h0 (by omega))
  unfold mkB
  unfold mkB at b2
  generalize mAll mAcc nAcc k m0 = M0l at *
  generalize nAll nAcc k m0 = k1 at *
  generalize mAll mEnt nEnt k1 m1 = M1l at *
  generalize nAll nEnt k1 m1 = k2 at *
  generalize mAll mPer nPer k2 m2 = M2l at *
  generalize nAll nPer k2 m2 = k3 at *
  go_enter Try.func62, Try.ntmps62
  go_wp2_with fail
  refine (laws_markFrame.calls (m0.length + 101) _ (.slice X0 m0.length e0) m0 d c k _ _ w0 _ HB.out R0.out FR.out).mono ?_
  rintro x w1 ⟨rfl, hR, hB1, hK1⟩
  have f3 : w1.cell? ⟨w.heap.size, 3, none⟩ = some (.slice X1 m1.length e1) := cell_kept (by go_simp) hK1 (fun hk => by have := Z0.out _ hk.symm; simp at this)
  have f4 : w1.cell? ⟨w.heap.size, 4, none⟩ = some (.int .i64 h) := cell_kept (by go_simp) hK1 (fun hk => by have := Z0.out _ hk.symm; simp at this)
  have f5 : w1.cell? ⟨w.heap.size, 5, none⟩ = some (.slice X2 m2.length e2) := cell_kept (by go_simp) hK1 (fun hk => by have := Z0.out _ hk.symm; simp at this)
  have S1' := Aside0.mk (Kd.S_kept S1.out hK1 (fun k hk hk2 => hk.1.2 hk2))
  have R2' := Aside0.mk (Kd.R_kept R2.out hK1 (fun k hk hk2 => hk.2.2 hk2))
  have HB1 := Aside0.mk hB1
  have HK1 := Aside0.mk (HK.out.then_ hK1 (fun k hk => .inl (O0.out k hk.symm)))
  have M0 := Aside0.mk (Kd.R_tight rfl hR)
  clear hR hB1 hK1
  go_wp2_with fail
  refine (ML.out _ HB1.out S1'.out).mono ?_
  rintro x w2 ⟨rfl, hS, hB2, hK2⟩
  have f5' : w2.cell? ⟨w.heap.size, 5, none⟩ = some (.slice X2 m2.length e2) := cell_kept f5 hK2 (fun hk => NW.out hk.1.1)
  have R2'' := Aside0.mk (Kd.R_kept R2'.out hK2 (fun k hk hk2 => hk2.2 hk.1))
  have M0' := Aside0.mk (Kd.R_kept M0.out hK2 (fun k hk hk2 => hk2.1.2 hk))
  have M1 := Aside0.mk hS
  have HB2 := Aside0.mk hB2
  have HK2 := Aside0.mk (HK1.out.then_ hK2 (fun k hk => .inl hk.1.1))
  clear hS hB2 hK2 f3 f4 f5 M0
  go_wp2_with fail
  refine (laws_markPeriodS.calls (m2.length + 1) _ (.slice X2 m2.length e2) m2 k2 _ _ w0 _ HB2.out R2''.out MP.out).mono ?_
  rintro x w3 ⟨rfl, hR, hB3, hK3⟩
  have HB3 := Aside0.mk hB3
  have HK3 := Aside0.mk (HK2.out.then_ hK3 (fun k hk => .inl hk.2.1))
  have M0'' := Aside0.mk (Kd.R_mono (Kd.R_kept M0'.out hK3 (fun k hk hk2 => N02.out k hk2.1.symm hk)) (ok' := Iv a b) (fun k hk => O0.out k hk.symm))
  have M1' := Aside0.mk (Kd.S_mono (Kd.S_kept M1.out hK3 (fun k hk hk2 => hk.2 hk2.1)) (ok' := Iv a b) (fun k hk => hk.1.1))
  have M2 := Aside0.mk (Kd.R_mono (Kd.R_tight rfl hR) (ok' := Iv a b) (fun k hk => O2.out k hk.symm))
  clear hR hB3 hK3 M0' M1
  go_wp2_with fail
  go_ret
  exact ⟨rfl, HB3.out, HK3.out, M0''.out, M1'.out, M2.out⟩
end Go.Proofs.Ytphmnkcfjgallaa.Q
