/- Parts of the proof: what functions of the program and of the reference answer.
   No condition. -/
import Derived.Test.YtjkjjfbcakbmnaaGreatDoorZRecord1
import Derived.Test.YtjkjjfbcakbmnaaGreatDoorZRecord23
import Derived.Test.YtjkjjfbcakbmnaaGreatDoorZRecord21
import Derived.Test.YtjkjjfbcakbmnaaGreatDoorZRecord18
import Derived.Test.YtjkjjfbcakbmnaaGreatDoorZRecord22
import Derived.Test.YtjkjjfbcakbmnaaGreatDoorZRecord13
import Derived.Test.YtjkjjfbcakbmnaaGreatDoorZRecord12
import Derived.Test.YtjkjjfbcakbmnaaGreatDoorZRecord17
import Derived.Test.YtjkjjfbcakbmnaaGreatDoorZRecord5
import Derived.Test.YtjkjjfbcakbmnaaGreatDoorZRecord6
import Derived.Test.YtjkjjfbcakbmnaaGreatDoorZRecord25
import Derived.Test.YtjkjjfbcakbmnaaGreatDoorZRecord10
import Derived.Test.YtjkjjfbcakbmnaaGreatDoorZRecord4
import Derived.Test.YtjkjjfbcakbmnaaGreatDoorZRecord19
import Derived.Test.YtjkjjfbcakbmnaaGreatDoorZRecord15
import Derived.Test.YtjkjjfbcakbmnaaGreatDoorZRecord11
namespace Go.Proofs.YtjkjjfbcakbmnaaGreatDoor.Q
open Go.RowKit Go.Proofs.YtjkjjfbcakbmnaaGreatDoorW.PrintWords Go.Proofs.YtjkjjfbcakbmnaaGreatDoorW.PrintLast Go.Proofs.YtjkjjfbcakbmnaaGreatDoorW.PrintMore
attribute [local go_sem] max2_int min2_int max_two min_two max_three min_three max_four min_four   -- for this text's walks alone
set_option linter.unusedVariables false
set_option linter.unusedSimpArgs false
def ledgerP (chart : List Acc) (dims curs : Int) (l : List Ent) (h : Int) : Prop := frameB chart dims curs = true ∧ l.length ≤ 1000 ∧ (∀ e ∈ l, entryP chart dims curs e) ∧ h = headV l
open Classical in
noncomputable def ledgerB (chart : List Acc) (dims curs : Int) (l : List Ent) (h : Int) : Bool := decide (ledgerP chart dims curs l h)
open Classical in
theorem ledgerB_true {chart : List Acc} {dims curs : Int} {l : List Ent} {h : Int} : ledgerB chart dims curs l h = true ↔ ledgerP chart dims curs l h := by unfold ledgerB; rw [decide_eq_true_eq]
theorem ledgerB_not {chart : List Acc} {dims curs : Int} {l : List Ent} {h : Int} (k : ¬ ledgerP chart dims curs l h) : false = ledgerB chart dims curs l h := by
  cases hb : ledgerB chart dims curs l h with
  | false => rfl
  | true => exact absurd (ledgerB_true.1 hb) k
set_option maxHeartbeats 8000000 in
set_option maxRecDepth 100000 in
theorem impl_LedgerOk.to (A0 : Option Addr) (c0 : Nat) (l0 : List Acc) (dims curs : Int) (A1 : Option Addr) (c1 : Nat) (l1 : List Ent) (h : Int) (w : World) (hr0 : Kd.C k48 w A0 l0.length l0) (hs : ∀ x ∈ l0, x.f0.size ≤ maxLen) (hr1 : Kd.C k41 w A1 l1.length l1) (hm : ∀ e ∈ l1, e.f2.size ≤ maxLen) :
    Calls Tryz.prog 36 #[.agg #[.slice A0 l0.length c0, .int .i64 dims, .int .i64 curs], .agg #[.slice A1 l1.length c1, .int .i64 h]] w fun x w' => x = .returned (.bool (ledgerB l0 dims curs l1 h)) ∧ Below w.heap.size w w' := by
  have hl0 := hr0.2.1
  have hl1 := hr1.2.1
  have H0 := Aside0.mk hr0
  have H1 := Aside0.mk hr1
  have HS := Aside0.mk hs
  have HM := Aside0.mk hm
  have H00 := Aside0.mk (Kd.C_below hr0 (below_two w (.cells #[.slice A0 l0.length c0, .int .i64 dims, .int .i64 curs] 26) (.cells #[.slice A1 l1.length c1, .int .i64 h] 29)))
  clear hr0 hr1 hs hm
  go_enter Tryz.func36, Tryz.ntmps36
  go_wp2_with fail
  refine (impl_FrameOk.to A0 c0 l0 dims curs _ H00.out HS.out).mono ?_
  rintro x w1 ⟨rfl, hb⟩
  have HB := Aside0.mk (y10 (w := w) hb (below_two _ _ _))
  have f0 : w1.cell? ⟨w.heap.size, 0, none⟩ = some (.slice A0 l0.length c0) := y00 hb (by go_simp)
  have f1 : w1.cell? ⟨w.heap.size, 1, none⟩ = some (.int .i64 dims) := y00 hb (by go_simp)
  have f2 : w1.cell? ⟨w.heap.size, 2, none⟩ = some (.int .i64 curs) := y00 hb (by go_simp)
  have y0 : w1.cell? ⟨w.heap.size + 1, 0, none⟩ = some (.slice A1 l1.length c1) := y00 hb (by go_simp)
  have y1 : w1.cell? ⟨w.heap.size + 1, 1, none⟩ = some (.int .i64 h) := y00 hb (by go_simp)
  clear hb H00
  cases hfr : frameB l0 dims curs with
  | false =>
    have HN := Aside0.mk (ledgerB_not (fun q => by have := q.1; rw [hfr] at this; cases this) : false = ledgerB l0 dims curs l1 h)
    clear hfr
    go_wp2_with fail
    go_ret
    exact ⟨ret_bool HN.out, HB.out⟩
  | true =>
    have HF := Aside0.mk hfr
    obtain ⟨_, hd, hc⟩ := frame_parts hfr
    have HD := Aside0.mk hd
    have HC := Aside0.mk hc
    clear hfr hd hc
    by_cases hlen : 1000 < l1.length
    · have HN := Aside0.mk (ledgerB_not (fun q => by have := q.2.1; omega) : false = ledgerB l0 dims curs l1 h)
      go_wp2_with fail
      go_ret
      exact ⟨ret_bool HN.out, HB.out⟩
    · have HB1 := Aside0.mk (Below.refl w1.heap.size w1)
      have F0 := Aside0.mk f0
      have F1 := Aside0.mk f1
      have F2 := Aside0.mk f2
      have Y0 := Aside0.mk y0
      have Y1 := Aside0.mk y1
      go_wp2_with fail
      clear f0 f1 f2 y0 y1
      go_loopw [19] (fun v wr => ∃ i : Int, 0 ≤ i ∧ i ≤ (l1.length : Int) ∧ v = .int .i64 i ∧ Aside0 (Below w1.heap.size w1 wr) ∧ Aside0 (∀ e ∈ l1.take i.toNat, entryP l0 dims curs e)) (fun v _ => (l1.length - (intOf v).toNat))
      case atStart => exact ⟨0, by omega, by omega, rfl, HB1, ⟨fun x hx => by cases hx⟩⟩
      case round =>
        clear HB1
        obtain ⟨i, hi0, hi1, rfl, HB1, HO⟩ := hrel
        have f0 := y00 HB1.out F0.out
        have f1 := y00 HB1.out F1.out
        have f2 := y00 HB1.out F2.out
        have y0 := y00 HB1.out Y0.out
        have y1 := y00 HB1.out Y1.out
        have HBW := Aside0.mk (y10 HB1.out HB.out)
        have hz0 := World.block_lt_of_cell? _ _ f0
        have hz1 := World.block_lt_of_cell? _ _ y0
        by_cases hlt : i < (l1.length : Int)
        · obtain ⟨ad, A3, c3, e0, x0, x1, x2, x3, x4, x5⟩ := at_T41 (Kd.C_below H1.out HBW.out) i hi0 hlt
          cases e0
          have X5 := Aside0.mk (Kd.C_below x5 (y01 (Below.refl wr.heap.size wr) (entO (rd_T41 l1 i) A3 c3)))
          have HC0 := Aside0.mk (Kd.C_below H0.out (y01 HBW.out (entO (rd_T41 l1 i) A3 c3)))
          have HMI := Aside0.mk (all_at (z := z41) (p := fun e => e.f2.size ≤ maxLen) hi0 hlt HM.out)
          clear x5
          go_wp2_with fail
          refine (impl_entryIn.to A0 c0 l0 dims curs (rd_T41 l1 i) A3 c3 _ HC0.out X5.out HD.out HC.out HMI.out).mono ?_
          rintro x w2 ⟨rfl, hb⟩
          have HB2 := Aside0.mk (y10 (w := w1) hb (y01 HB1.out _))
          clear hb
          cases hen : entryB l0 dims curs (rd_T41 l1 i) with
          | false =>
            have HN := Aside0.mk (ledgerB_not (fun q => by have := entryB_true.2 (all_at (z := z41) (p := entryP l0 dims curs) hi0 hlt q.2.2.1); rw [show entryB l0 dims curs (l1.getD i.toNat z41) = false from hen] at this; cases this) : false = ledgerB l0 dims curs l1 h)
            have HBF := Aside0.mk (y10 HB2.out HB.out)
            clear hen HB2
            go_wp2_with fail
            go_ret
            exact ⟨ret_bool HN.out, HBF.out⟩
          | true =>
            have HO2 := Aside0.mk (all_step (z := z41) (p := entryP l0 dims curs) hi0 hlt HO.out (entryB_true.1 hen))
            clear hen
            go_wp2_with fail
            go_roundw
            case rel => exact ⟨i + 1, by omega, by omega, rfl, HB2, HO2⟩
            case measure => simp [intOf]; omega
        · have HOK := Aside0.mk (all_end (by omega) HO.out : ∀ e ∈ l1, entryP l0 dims curs e)
          have HC1 := Aside0.mk (Kd.C_below H1.out HBW.out)
          clear HO f0 f1 f2
          go_wp2_with fail
          go_region_held3 (fun w' => w'.cell? ⟨w.heap.size + 1, 0, none⟩ = some (.slice A1 l1.length c1) ∧ w'.cell? ⟨w.heap.size + 1, 1, none⟩ = some (.int .i64 h)) ((first | go_keep | exact ⟨y00 hb (by assumption), y00 hb (by assumption)⟩))
            ((go_at_call 91; refine (impl_HeadOf.to A1 c1 l1 _ (by repeat (first | exact HC1.out | refine Kd.C_drew ?_))).mono ?_; rintro x w2 ⟨rfl, hb⟩))
          have HBF := Aside0.mk (y10 (w := w) hb (below_drew HBW.out))
          clear hb
          by_cases hh : h = headV l1
          · have hhb : (h == headV l1) = true := beq_iff_eq.2 hh
            have HY := Aside0.mk (ledgerB_true.2 (show ledgerP l0 dims curs l1 h from ⟨HF.out, by omega, HOK.out, hh⟩))
            clear hh
            go_wp2_with fail
            go_ret
            exact ⟨ret_bool (by rw [HY.out]; exact hhb), HBF.out⟩
          · have hhb : (h == headV l1) = false := beq_eq_false_iff_ne.2 hh
            have HN := Aside0.mk (ledgerB_not (fun q => hh q.2.2.2) : false = ledgerB l0 dims curs l1 h)
            clear hh
            go_wp2_with fail
            go_ret
            exact ⟨ret_bool (by rw [← HN.out]; exact hhb), HBF.out⟩
end Go.Proofs.YtjkjjfbcakbmnaaGreatDoor.Q
namespace Go.Proofs.YtjkjjfbcakbmnaaGreatDoor.Q
open Go.RowKit Go.Proofs.YtjkjjfbcakbmnaaGreatDoorW.PrintWords Go.Proofs.YtjkjjfbcakbmnaaGreatDoorW.PrintLast Go.Proofs.YtjkjjfbcakbmnaaGreatDoorW.PrintMore
set_option linter.unusedVariables false
set_option linter.unusedSimpArgs false
theorem laws_heldPeriodS_is (l : List Per) (k : Nat) (a : Int) (hk : l.length < k) (hl : l.length ≤ 1048576) (h0 : 0 ≤ a) (h1 : a ≤ 1000000000000000) : laws_heldPeriodS.f k (mAll mPer nPer a l) a = some (nAll nPer a l) := by
  have := held_loop laws_heldPeriodS.l0 mPer nPer z84 0 2 4611686018427387000 (by omega) (fun _ => True) (fun x _ b => by unfold nPer; omega) (fun k y x a i _ hi hi2 hl h0 hB _ hy => by
    have hy' : rd_T84 y i = mPer a x := hy
    simp only [laws_heldPeriodS.l0]
    rw [if_pos hi2, if_pos hi, hy', wr1 h0 (by omega), wr1 (a := a + 1) (by omega) (by omega), wr1 hi (by omega)]
    simp only [mPer, if_true]
    rfl) (fun k x a i h => by simp only [laws_heldPeriodS.l0]; rw [if_neg (by omega)]) l [] k a (by omega) (by simpa using hl) h0 (by omega) (fun _ _ => trivial)
  exact this
theorem laws_heldAccountS_is (l : List Acc) (k : Nat) (a : Int) (hk : l.length + 100 < k) (hl : l.length ≤ 1048576) (h0 : 0 ≤ a) (h1 : a ≤ 1000000000000000) : laws_heldAccountS.f k (mAll mAcc nAcc a l) a = some (nAll nAcc a l) := by
  have := held_loop laws_heldAccountS.l0 mAcc nAcc z48 100 3 4611686018427387000 (by omega) (fun _ => True) (fun x _ b => by unfold nAcc; omega) (fun k y x a i hD hi hi2 hl h0 hB _ hy => by
    have hy' : rd_T48 y i = mAcc a x := hy
    simp only [laws_heldAccountS.l0]
    rw [if_pos hi2, if_pos hi, laws_markText_is h0 (by omega) hD]
    simp only [Option.bind_some]
    rw [hy', wr1 h0 (by omega), wr1 (a := a + 1) (by omega) (by omega), wr1 (a := a + 1 + 1) (by omega) (by omega), wr1 hi (by omega)]
    simp only [mAcc, if_true]
    rfl) (fun k x a i h => by simp only [laws_heldAccountS.l0]; rw [if_neg (by omega)]) l [] k a (by omega) (by simpa using hl) h0 (by omega) (fun _ _ => trivial)
  exact this
theorem laws_heldFrame_is (l : List Acc) (d c : Int) (k : Nat) (a : Int) (hk : l.length + 100 < k) (hl : l.length ≤ 1048576) (h0 : 0 ≤ a) (h1 : a ≤ 1000000000000000) : laws_heldFrame.f k (mAll mAcc nAcc a l) d c a = some (nAll nAcc a l) := by
  unfold laws_heldFrame.f
  rw [laws_heldAccountS_is l k a hk hl h0 h1]
  have := (nAcc_b l a).1
  simp only [Option.bind_some]
  rw [if_neg (by omega)]
set_option maxHeartbeats 16000000 in
set_option maxRecDepth 100000 in
theorem laws_heldLedger.to (A : Option Addr) (c : Nat) (l : List Ent) (h a1 : Int) (w : World) (hr : Kd.C k41 w A l.length (mAll mEnt nEnt a1 l)) (h0 : 0 ≤ a1) (h1 : a1 ≤ 100000000000000) (hl : l.length ≤ 1048576) (hs : ∀ x ∈ l, x.f3.length ≤ 1048576) :
    Calls Tryz.prog 79 #[.agg #[.slice A l.length c, .int .i64 h], .int .i64 a1] w fun e w' => e = .returned (.int .i64 (nAll nEnt a1 l)) ∧ Below w.heap.size w w' := by
  have HB := Aside0.mk (y01 (Below.refl w.heap.size w) (.cells #[.slice A l.length c, .int .i64 h] 29))
  have HR := Aside0.mk hr
  have hn := nEnt_b l hs a1
  have HE := Aside0.mk (fun (W : World) (hC : Kd.C k41 W A l.length (mAll mEnt nEnt a1 l)) => laws_heldEntryS.to A c l a1 W hC h0 h1 hl hs)
  clear hr
  generalize mAll mEnt nEnt a1 l = M at *
  generalize nAll nEnt a1 l = K at *
  go_enter Tryz.func79, Tryz.ntmps79
  go_wp2_with fail
  refine (HE.out _ (Kd.C_below HR.out HB.out)).mono ?_
  rintro e w2 ⟨rfl, hb⟩
  have HB2 := Aside0.mk (y10 (w := w) hb HB.out)
  clear hb
  have hq : ¬ K < 0 := by omega
  have hq2 : decide (K < 0) = false := decide_eq_false hq
  go_wp2_with fail
  go_ret
  exact ⟨rfl, HB2.out⟩
noncomputable def mkB (k : Int) (m0 : List Acc) (m1 : List Ent) (m2 : List Per) : Int := nAll nPer (nAll nEnt (nAll nAcc k m0) m1) m2
def smallB (m0 : List Acc) (m1 : List Ent) (m2 : List Per) : Prop := m0.length ≤ 1048576 ∧ (m1.length ≤ 1048576 ∧ ∀ x ∈ m1, x.f3.length ≤ 1048576) ∧ m2.length ≤ 1048576
theorem mkB_b {k : Int} {m0 : List Acc} {m1 : List Ent} {m2 : List Per} (h : smallB m0 m1 m2) : (k ≤ nAll nAcc k m0 ∧ nAll nAcc k m0 ≤ k + 3 * 1048576) ∧ (k ≤ nAll nEnt (nAll nAcc k m0) m1 ∧ nAll nEnt (nAll nAcc k m0) m1 ≤ k + 3 * 1048576 + 5242883 * 1048576) ∧ k ≤ mkB k m0 m1 m2 ∧ mkB k m0 m1 m2 ≤ k + 3 * 1048576 + 5242883 * 1048576 + 2 * 1048576 := by
  obtain ⟨h0, ⟨h1, h2⟩, h3⟩ := h
  have b0 := nAcc_b m0 k
  have b1 := nEnt_b m1 h2 (nAll nAcc k m0)
  have b2 := nPer_b m2 (nAll nEnt (nAll nAcc k m0) m1)
  unfold mkB
  omega
set_option maxHeartbeats 16000000 in
set_option maxRecDepth 100000 in
theorem laws_heldBooks.to (X0 : Option Addr) (e0 : Nat) (m0 : List Acc) (d c : Int) (X1 : Option Addr) (e1 : Nat) (m1 : List Ent) (h : Int) (X2 : Option Addr) (e2 : Nat) (m2 : List Per) (p q k : Int) (w : World)
    (hR0 : Kd.C k48 w X0 m0.length (mAll mAcc nAcc k m0)) (hS1 : Kd.C k41 w X1 m1.length (mAll mEnt nEnt (nAll nAcc k m0) m1)) (hR2 : Kd.C k84 w X2 m2.length (mAll mPer nPer (nAll nEnt (nAll nAcc k m0) m1) m2))
    (hc0 : m0.length ≤ e0) (hc2 : m2.length ≤ e2) (h0 : 0 ≤ k) (h1 : k ≤ 10000000) (hs : smallB m0 m1 m2) :
    Calls Tryz.prog 27 #[.agg #[.slice X0 m0.length e0, .int .i64 d, .int .i64 c, .slice X1 m1.length e1, .int .i64 h, .slice X2 m2.length e2, .int .i64 p, .int .i64 q], .int .i64 k] w fun e w' => e = .returned (.int .i64 (mkB k m0 m1 m2)) ∧ Below w.heap.size w w' := by
  have HB := Aside0.mk (y01 (Below.refl w.heap.size w) (.cells #[.slice X0 m0.length e0, .int .i64 d, .int .i64 c, .slice X1 m1.length e1, .int .i64 h, .slice X2 m2.length e2, .int .i64 p, .int .i64 q] 32))
  have C0 := Aside0.mk hR0
  have C1 := Aside0.mk hS1
  have C2 := Aside0.mk hR2
  have E0 := Aside0.mk hc0
  have E2 := Aside0.mk hc2
  obtain ⟨b0, b1, b2⟩ := mkB_b (k := k) hs
  have HS := Aside0.mk hs
  have F0 := Aside0.mk (laws_heldFrame_is m0 d c (m0.length + 101) k (by omega) HS.out.1 h0 (by omega))
  have F2 := Aside0.mk (laws_heldPeriodS_is m2 (m2.length + 1) (nAll nEnt (nAll nAcc k m0) m1) (by omega) HS.out.2.2 (by omega) (by omega))
  clear hR0 hS1 hR2 hc0 hc2 hs
  have HF := Aside0.mk (fun (W : World) (hC : Kd.C k48 W X0 m0.length (mAll mAcc nAcc k m0)) => by
    have := laws_heldFrame.calls (m0.length + 101) X0 e0 (mAll mAcc nAcc k m0) d c k _ W (by rw [mAll_length]; exact hC) (by rw [mAll_length]; exact E0.out) F0.out
    rw [mAll_length] at this
    exact this)
  have HP := Aside0.mk (fun (W : World) (hC : Kd.C k84 W X2 m2.length (mAll mPer nPer (nAll nEnt (nAll nAcc k m0) m1) m2)) => by
    have := laws_heldPeriodS.calls (m2.length + 1) X2 e2 (mAll mPer nPer (nAll nEnt (nAll nAcc k m0) m1) m2) (nAll nEnt (nAll nAcc k m0) m1) _ W (by rw [mAll_length]; exact hC) (by rw [mAll_length]; exact E2.out) F2.out
    rw [mAll_length] at this
    exact this)
  have HL := Aside0.mk (fun (W : World) (hC : Kd.C k41 W X1 m1.length (mAll mEnt nEnt (nAll nAcc k m0) m1)) => laws_heldLedger.to X1 e1 m1 h (nAll nAcc k m0) W hC (by omega) (by omega) HS.out.2.1.1 HS.out.2.1.2)
  clear F0 F2
  unfold mkB at b2 ⊢
  generalize mAll mAcc nAcc k m0 = M0 at *
  generalize nAll nAcc k m0 = k1 at *
  generalize mAll mEnt nEnt k1 m1 = M1 at *
  generalize nAll nEnt k1 m1 = k2 at *
  generalize mAll mPer nPer k2 m2 = M2 at *
  generalize nAll nPer k2 m2 = k3 at *
  have q1 : decide (k1 < 0) = false := decide_eq_false (by omega)
  have q2 : decide (k2 < 0) = false := decide_eq_false (by omega)
  have q3 : decide (k3 < 0) = false := decide_eq_false (by omega)
  go_enter Tryz.func27, Tryz.ntmps27
  go_wp2_with fail
  refine (HF.out _ (Kd.C_below C0.out HB.out)).mono ?_
  rintro x w1 ⟨rfl, hb⟩
  have f3 : w1.cell? ⟨w.heap.size, 3, none⟩ = some (.slice X1 m1.length e1) := y00 hb (by go_simp)
  have f4 : w1.cell? ⟨w.heap.size, 4, none⟩ = some (.int .i64 h) := y00 hb (by go_simp)
  have f5 : w1.cell? ⟨w.heap.size, 5, none⟩ = some (.slice X2 m2.length e2) := y00 hb (by go_simp)
  have HB1 := Aside0.mk (y10 (w := w) hb HB.out)
  clear hb
  go_wp2_with fail
  refine (HL.out _ (Kd.C_below C1.out HB1.out)).mono ?_
  rintro x w2 ⟨rfl, hb⟩
  replace f5 := y00 hb f5
  have HB2 := Aside0.mk (y10 (w := w) hb HB1.out)
  clear hb f3 f4
  go_wp2_with fail
  refine (HP.out _ (Kd.C_below C2.out HB2.out)).mono ?_
  rintro x w3 ⟨rfl, hd⟩
  have HB3 := Aside0.mk (y10 (w := w) hd.below HB2.out)
  clear hd
  go_wp2_with fail
  go_ret
  exact ⟨rfl, HB3.out⟩
set_option maxHeartbeats 16000000 in
set_option maxRecDepth 100000 in
theorem laws_markBooks.to2 (a b : Nat) (X0 : Option Addr) (e0 : Nat) (m0 : List Acc) (d c : Int) (X1 : Option Addr) (e1 : Nat) (m1 : List Ent) (h : Int) (X2 : Option Addr) (e2 : Nat) (m2 : List Per) (p q k : Int) (w0 w : World) (hB : Below w0.heap.size w0 w)
    (hR0 : Kd.R k48 48 w w0.heap.size (Iv a b) (.slice X0 m0.length e0) m0) (hS1 : Kd.S k41 41 w w0.heap.size (Iv a b) (.slice X1 m1.length e1) m1) (hR2 : Kd.R k84 84 w w0.heap.size (Iv a b) (.slice X2 m2.length e2) m2)
    (hbw : b ≤ w.heap.size) (h0 : 0 ≤ k) (h1 : k ≤ 10000000) (hs : smallB m0 m1 m2) :
    Calls Tryz.prog 25 #[.agg #[.slice X0 m0.length e0, .int .i64 d, .int .i64 c, .slice X1 m1.length e1, .int .i64 h, .slice X2 m2.length e2, .int .i64 p, .int .i64 q], .int .i64 k] w fun e w' => e = .returned (.int .i64 (mkB k m0 m1 m2)) ∧ Below w0.heap.size w0 w' ∧ Kept w w' (Iv a b) ∧
      Kd.R k48 48 w' w0.heap.size (Iv a b) (.slice X0 m0.length e0) (mAll mAcc nAcc k m0) ∧ Kd.S k41 41 w' w0.heap.size (Iv a b) (.slice X1 m1.length e1) (mAll mEnt nEnt (nAll nAcc k m0) m1) ∧ Kd.R k84 84 w' w0.heap.size (Iv a b) (.slice X2 m2.length e2) (mAll mPer nPer (nAll nEnt (nAll nAcc k m0) m1) m2) := by
  have hab := y01 (Below.refl w.heap.size w) (.cells #[.slice X0 m0.length e0, .int .i64 d, .int .i64 c, .slice X1 m1.length e1, .int .i64 h, .slice X2 m2.length e2, .int .i64 p, .int .i64 q] 32)
  have HB := Aside0.mk (y10 (w := w0) hab hB)
  have t0 := Kd.R_typed (Kd.R_below hR0 hab)
  have t1 := Kd.S_typed (Kd.S_below hS1 hab)
  have t2 := Kd.R_typed (Kd.R_below hR2 hab)
  have o0 := hR0.1
  have o2 := hR2.1
  have R0 := Aside0.mk (Kd.R_tight rfl (Kd.R_below hR0 hab))
  have S1 := Aside0.mk (Kd.S_apart' (Kd.S_apart' (Kd.S_below hS1 hab) t0 (by decide)) t2 (by decide))
  have R2 := Aside0.mk (Kd.R_tight2 rfl (Kd.R_apart' (Kd.R_below hR2 hab) t0 (by decide)))
  have HK := Aside0.mk (Kept.alloc (Kept.refl w (Iv a b)) (.cells #[.slice X0 m0.length e0, .int .i64 d, .int .i64 c, .slice X1 m1.length e1, .int .i64 h, .slice X2 m2.length e2, .int .i64 p, .int .i64 q] 32))
  have O0 := Aside0.mk o0
  have O2 := Aside0.mk o2
  have z0 : ∀ k, (Value.slice X0 m0.length e0).ownBlock = some k → k < w.heap.size := Kd.R_lt hR0
  have Z0 := Aside0.mk z0
  have NW := Aside0.mk (show ¬ Iv a b w.heap.size from fun hk => by have := hk.2; omega)
  obtain ⟨b0, b1, b2⟩ := mkB_b (k := k) hs
  have HS := Aside0.mk hs
  have BW := Aside0.mk hbw
  have N02 := Aside0.mk (show ∀ k, (Value.slice X2 m2.length e2).ownBlock = some k → some k ≠ (Value.slice X0 m0.length e0).ownBlock from fun k hk => ((Kd.R_apart' (Kd.R_below hR2 hab) t0 (by decide)).1 k hk).2)
  clear hB hR0 hS1 hR2 hab t0 t1 t2 o0 o2 z0 hs hbw
  have ML := Aside0.mk (fun (W : World) (hb : Below w0.heap.size w0 W) (hS : Kd.S k41 41 W w0.heap.size _ (.slice X1 m1.length e1) m1) => laws_markLedger.to (fun k_ => (Iv a b k_ ∧ ¬ (some k_ = (Value.slice X0 m0.length e0).ownBlock)) ∧ ¬ (some k_ = (Value.slice X2 m2.length e2).ownBlock)) X1 e1 m1 h (nAll nAcc k m0) w0 W hb hS (by omega) (by omega) HS.out.2.1.1 HS.out.2.1.2)
  have MP := Aside0.mk (laws_markPeriodS_is m2 (m2.length + 1) (nAll nEnt (nAll nAcc k m0) m1) (by omega) HS.out.2.2 (by omega) (by omega))
  have FR := Aside0.mk (laws_markFrame_is m0 d c (m0.length + 101) k (by omega) HS.out.1 h0 (by omega))
  unfold mkB
  unfold mkB at b2
  generalize mAll mAcc nAcc k m0 = M0l at *
  generalize nAll nAcc k m0 = k1 at *
  generalize mAll mEnt nEnt k1 m1 = M1l at *
  generalize nAll nEnt k1 m1 = k2 at *
  generalize mAll mPer nPer k2 m2 = M2l at *
  generalize nAll nPer k2 m2 = k3 at *
  go_enter Tryz.func25, Tryz.ntmps25
  go_wp2_with fail
  refine (laws_markFrame.calls (m0.length + 101) _ (.slice X0 m0.length e0) m0 d c k _ _ w0 _ HB.out R0.out FR.out).mono ?_
  rintro x w1 ⟨rfl, hR, hB1, hK1⟩
  have f3 : w1.cell? ⟨w.heap.size, 3, none⟩ = some (.slice X1 m1.length e1) := cell_kept (by go_simp) hK1 (fun hk => by have := Z0.out _ hk.symm; simp at this)
  have f4 : w1.cell? ⟨w.heap.size, 4, none⟩ = some (.int .i64 h) := cell_kept (by go_simp) hK1 (fun hk => by have := Z0.out _ hk.symm; simp at this)
  have f5 : w1.cell? ⟨w.heap.size, 5, none⟩ = some (.slice X2 m2.length e2) := cell_kept (by go_simp) hK1 (fun hk => by have := Z0.out _ hk.symm; simp at this)
  have S1' := Aside0.mk (Kd.S_kept S1.out hK1 (fun k hk hk2 => hk.1.2 hk2))
  have R2' := Aside0.mk (Kd.R_kept R2.out hK1 (fun k hk hk2 => hk.2.2 hk2))
  have HB1 := Aside0.mk hB1
  have HK1 := Aside0.mk (HK.out.then_ hK1 (fun k hk => .inl (O0.out k hk.symm)))
  have M0 := Aside0.mk (Kd.R_tight rfl hR)
  clear hR hB1 hK1
  go_wp2_with fail
  refine (ML.out _ HB1.out S1'.out).mono ?_
  rintro x w2 ⟨rfl, hS, hB2, hK2⟩
  have f5' : w2.cell? ⟨w.heap.size, 5, none⟩ = some (.slice X2 m2.length e2) := cell_kept f5 hK2 (fun hk => NW.out hk.1.1)
  have R2'' := Aside0.mk (Kd.R_kept R2'.out hK2 (fun k hk hk2 => hk2.2 hk.1))
  have M0' := Aside0.mk (Kd.R_kept M0.out hK2 (fun k hk hk2 => hk2.1.2 hk))
  have M1 := Aside0.mk hS
  have HB2 := Aside0.mk hB2
  have HK2 := Aside0.mk (HK1.out.then_ hK2 (fun k hk => .inl hk.1.1))
  clear hS hB2 hK2 f3 f4 f5 M0
  go_wp2_with fail
  refine (laws_markPeriodS.calls (m2.length + 1) _ (.slice X2 m2.length e2) m2 k2 _ _ w0 _ HB2.out R2''.out MP.out).mono ?_
  rintro x w3 ⟨rfl, hR, hB3, hK3⟩
  have HB3 := Aside0.mk hB3
  have HK3 := Aside0.mk (HK2.out.then_ hK3 (fun k hk => .inl hk.2.1))
  have M0'' := Aside0.mk (Kd.R_mono (Kd.R_kept M0'.out hK3 (fun k hk hk2 => N02.out k hk2.1.symm hk)) (ok' := Iv a b) (fun k hk => O0.out k hk.symm))
  have M1' := Aside0.mk (Kd.S_mono (Kd.S_kept M1.out hK3 (fun k hk hk2 => hk.2 hk2.1)) (ok' := Iv a b) (fun k hk => hk.1.1))
  have M2 := Aside0.mk (Kd.R_mono (Kd.R_tight rfl hR) (ok' := Iv a b) (fun k hk => O2.out k hk.symm))
  clear hR hB3 hK3 M0' M1
  go_wp2_with fail
  go_ret
  exact ⟨rfl, HB3.out, HK3.out, M0''.out, M1'.out, M2.out⟩
theorem fill_loop {α β : Type} (F : Nat → List α → List β → Int → Option (List β)) (cv : α → β) (z : α) (l : List α) (D : Nat)
    (hstep : ∀ k x i, D ≤ k → 0 ≤ i → i < (l.length : Int) → x.length = l.length → F (k + 1) l x i = F k l (x.set i.toNat (cv (l.getD i.toNat z))) (i + 1))
    (hend : ∀ k x i, (l.length : Int) ≤ i → F (k + 1) l x i = some x) :
    ∀ (n k : Nat) (x : List β) (i : Nat), i + n = l.length → n + D < k → x.length = l.length → x.take i = (l.map cv).take i → F k l x i = some (l.map cv)
  | 0, k, x, i, hi, hk, hx, ht => by
    obtain ⟨m, rfl⟩ : ∃ m, k = m + 1 := ⟨k - 1, by omega⟩
    rw [hend m x i (by omega)]
    rw [List.take_of_length_le (by omega), List.take_of_length_le (by simp; omega)] at ht
    rw [ht]
  | n + 1, k, x, i, hi, hk, hx, ht => by
    obtain ⟨m, rfl⟩ : ∃ m, k = m + 1 := ⟨k - 1, by omega⟩
    rw [hstep m x i (by omega) (by omega) (by omega) hx]
    refine fill_loop F cv z l D hstep hend n m _ (i + 1) (by omega) (by omega) (by simpa using hx) ?_
    have hxi : i < x.length := by omega
    have hli : i < l.length := by omega
    simp only [Int.toNat_natCast]
    rw [List.take_add_one, List.take_add_one, List.take_set, ht, List.getElem?_set_self (by omega), List.getElem?_map, List.getElem?_eq_getElem hli, List.getD_eq_getElem?_getD, List.getElem?_eq_getElem hli]
    rw [List.set_eq_of_length_le (by simp; omega)]
    simp
def cvAccount (x : S182) : S48 := ⟨x.f0, x.f1, x.f2⟩
def cvPeriod (x : S160) : S84 := ⟨x.f0, x.f1⟩
def cvLine (x : S162) : S88 := ⟨x.f0, x.f1, x.f2, x.f3, x.f4⟩
def cvEntry (x : S64) : S41 := ⟨x.f0, x.f1, x.f2, x.f3.map cvLine⟩
theorem laws_toAccountS_is (l : List S182) (k : Nat) (hl : l.length ≤ 1048576) (hk : l.length < k) : laws_toAccountS.f k l = some (l.map cvAccount) := by
  unfold laws_toAccountS.f
  rw [if_pos (by omega), if_pos (by omega)]
  exact fill_loop laws_toAccountS.l0 cvAccount z182 l 0 (fun k x i _ h0 h1 hx => by
    simp only [laws_toAccountS.l0]
    rw [if_pos h1, if_pos h0]
    simp only [laws_toAccount.f, Option.bind_some]
    rw [if_pos (by omega), show wrap64 (i + 1) = i + 1 by unfold wrap64; omega]
    rfl) (fun k x i h => by simp only [laws_toAccountS.l0]; rw [if_neg (by omega)]) l.length k _ 0 (by omega) (by omega) (by simp) (by simp)
theorem laws_toPeriodS_is (l : List S160) (k : Nat) (hl : l.length ≤ 1048576) (hk : l.length < k) : laws_toPeriodS.f k l = some (l.map cvPeriod) := by
  unfold laws_toPeriodS.f
  rw [if_pos (by omega), if_pos (by omega)]
  exact fill_loop laws_toPeriodS.l0 cvPeriod z160 l 0 (fun k x i _ h0 h1 hx => by
    simp only [laws_toPeriodS.l0]
    rw [if_pos h1, if_pos h0]
    simp only [laws_toPeriod.f, Option.bind_some]
    rw [if_pos (by omega), show wrap64 (i + 1) = i + 1 by unfold wrap64; omega]
    rfl) (fun k x i h => by simp only [laws_toPeriodS.l0]; rw [if_neg (by omega)]) l.length k _ 0 (by omega) (by omega) (by simp) (by simp)
theorem laws_toLineS_is (l : List S162) (k : Nat) (hl : l.length ≤ 1048576) (hk : l.length < k) : laws_toLineS.f k l = some (l.map cvLine) := by
  unfold laws_toLineS.f
  rw [if_pos (by omega), if_pos (by omega)]
  exact fill_loop laws_toLineS.l0 cvLine z162 l 0 (fun k x i _ h0 h1 hx => by
    simp only [laws_toLineS.l0]
    rw [if_pos h1, if_pos h0]
    simp only [laws_toLine.f, Option.bind_some]
    rw [if_pos (by omega), show wrap64 (i + 1) = i + 1 by unfold wrap64; omega]
    rfl) (fun k x i h => by simp only [laws_toLineS.l0]; rw [if_neg (by omega)]) l.length k _ 0 (by omega) (by omega) (by simp) (by simp)
theorem laws_toEntry_is (x : S64) (k : Nat) (hs : small64 x) (hk : 1048576 < k) : laws_toEntry.f k x.f0 x.f1 x.f2 x.f3 = some ((cvEntry x).f0, (cvEntry x).f1, (cvEntry x).f2, (cvEntry x).f3) := by
  unfold small64 at hs
  unfold laws_toEntry.f
  rw [laws_toLineS_is x.f3 k hs (by omega)]
  rfl
theorem laws_toEntryS_is (l : List S64) (k : Nat) (hl : l.length ≤ 1048576) (hs : ∀ y ∈ l, small64 y) (hk : l.length + 1048577 < k) : laws_toEntryS.f k l = some (l.map cvEntry) := by
  unfold laws_toEntryS.f
  rw [if_pos (by omega), if_pos (by omega)]
  exact fill_loop laws_toEntryS.l0 cvEntry z64 l 1048577 (fun k x i hD h0 h1 hx => by
    simp only [laws_toEntryS.l0]
    rw [if_pos h1, if_pos h0, laws_toEntry_is (rd_T64 l i) k (all_at (z := z64) h0 h1 hs) (by omega)]
    simp only [Option.bind_some]
    rw [if_pos (by omega), show wrap64 (i + 1) = i + 1 by unfold wrap64; omega]
    rfl) (fun k x i h => by simp only [laws_toEntryS.l0]; rw [if_neg (by omega)]) l.length k _ 0 (by omega) (by omega) (by simp) (by simp)
theorem laws_toFrame_is (l : List S182) (d c : Int) (k : Nat) (hl : l.length ≤ 1048576) (hk : 3000000 ≤ k) : laws_toFrame.f k l d c = some (l.map cvAccount, d, c) := by
  unfold laws_toFrame.f
  rw [laws_toAccountS_is l k hl (by omega)]
  rfl
theorem laws_toLedger_is (l : List S64) (h : Int) (k : Nat) (hl : l.length ≤ 1048576 ∧ ∀ y ∈ l, small64 y) (hk : 3000000 ≤ k) : laws_toLedger.f k l h = some (l.map cvEntry, h) := by
  unfold laws_toLedger.f
  rw [laws_toEntryS_is l k hl.1 hl.2 (by omega)]
  rfl
theorem laws_toBooks_is (l0 : List S182) (d c : Int) (l3 : List S64) (h : Int) (l5 : List S160) (a b : Int) (k : Nat) (hs : small61 (⟨(⟨l0, d, c⟩ : S55), (⟨l3, h⟩ : S58), l5, a, b⟩ : S61)) (hk : 3000000 ≤ k) :
    laws_toBooks.f k l0 d c l3 h l5 a b = some (l0.map cvAccount, d, c, l3.map cvEntry, h, l5.map cvPeriod, a, b) := by
  obtain ⟨h0, h1, h2⟩ := hs
  have h2' : l5.length ≤ 1048576 := h2
  unfold laws_toBooks.f
  rw [laws_toFrame_is l0 d c k h0 hk, laws_toLedger_is l3 h k h1 hk, laws_toPeriodS_is l5 k h2' (by omega)]
  rfl
theorem text_cvAccount {l : List S182} (h : ∀ y ∈ l, wf182 y) : ∀ x ∈ l.map cvAccount, x.f0.size ≤ maxLen := by
  intro x hx
  obtain ⟨y, hy, rfl⟩ := List.mem_map.1 hx
  exact (h y hy).1
theorem text_cvEntry {l : List S64} (h : ∀ y ∈ l, wf64 y) : ∀ x ∈ l.map cvEntry, x.f2.size ≤ maxLen := by
  intro x hx
  obtain ⟨y, hy, rfl⟩ := List.mem_map.1 hx
  exact (h y hy).2.2.1
end Go.Proofs.YtjkjjfbcakbmnaaGreatDoor.Q
