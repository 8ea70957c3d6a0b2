/- Parts of the proof: what functions of the program and of the reference answer.
   No condition. -/
import Derived.Test.YtphmnkcfjgallaaZClose1
import Derived.Test.YtphmnkcfjgallaaZClose5
import Derived.Test.YtphmnkcfjgallaaZClose13
import Derived.Test.YtphmnkcfjgallaaZClose15
import Derived.Test.YtphmnkcfjgallaaZClose4
import Derived.Test.YtphmnkcfjgallaaZClose9
import Derived.Test.YtphmnkcfjgallaaZClose16
import Derived.Test.YtphmnkcfjgallaaZClose14
import Derived.Laws.CopyRow
import Derived.Lib.SlBuf
import Derived.Deep.DeepCutAuto
import Derived.Test.YtphmnkcfjgallaaZClose6
import Derived.Test.YtphmnkcfjgallaaZClose2
import Derived.Test.YtphmnkcfjgallaaZClose10
import Derived.Test.YtphmnkcfjgallaaZClose7
namespace Go.Proofs.Ytphmnkcfjgallaa.Q
open Go.RowKit Go.Proofs.YtphmnkcfjgallaaW.PrintWords Go.Proofs.YtphmnkcfjgallaaW.PrintLast Go.Proofs.YtphmnkcfjgallaaW.PrintMore
attribute [local go_sem] max2_int min2_int max_two min_two max_three min_three max_four min_four   -- for this text's walks alone
set_option linter.unusedVariables false
set_option linter.unusedSimpArgs false
def wf65 (x : S65) : Prop := wf59 x.f0 ∧ wf62 x.f1 ∧ (x.f2.length ≤ maxLen ∧ ∀ y ∈ x.f2, wf138 y) ∧ (Lit.int .i64 x.f3).wf = true ∧ (Lit.int .i64 x.f4).wf = true
def small65 (x : S65) : Prop := small59 x.f0 ∧ small62 x.f1 ∧ (x.f2.length ≤ 1048576)
set_option maxHeartbeats 4000000 in
set_option maxRecDepth 100000 in
theorem laws_szBooks.calls (A0_0 : Option Addr) (c0_0 : Nat) (l0_0 : List (S176)) (a0_1 : Int) (a0_2 : Int) (A0_3 : Option Addr) (c0_3 : Nat) (l0_3 : List (S93)) (a0_4 : Int) (A0_5 : Option Addr) (c0_5 : Nat) (l0_5 : List (S138)) (a0_6 : Int) (a0_7 : Int) (a1 : Int) (w : World) (hr0_0 : Kd.C k176 w A0_0 l0_0.length l0_0) (hr0_3 : Kd.C k93 w A0_3 l0_3.length l0_3) (hr0_5 : Kd.C k138 w A0_5 l0_5.length l0_5) (h0 : 0 ≤ a1) (h1 : a1 ≤ 1048576) (hw : wf65 ((⟨(⟨l0_0, a0_1, a0_2⟩ : S59), (⟨l0_3, a0_4⟩ : S62), l0_5, a0_6, a0_7⟩ : S65) : S65)) :
    Calls Try.prog 30 #[.agg #[.slice A0_0 l0_0.length c0_0, .int .i64 a0_1, .int .i64 a0_2, .slice A0_3 l0_3.length c0_3, .int .i64 a0_4, .slice A0_5 l0_5.length c0_5, .int .i64 a0_6, .int .i64 a0_7], .int .i64 a1] w (SzPost w a1 (small65 ((⟨(⟨l0_0, a0_1, a0_2⟩ : S59), (⟨l0_3, a0_4⟩ : S62), l0_5, a0_6, a0_7⟩ : S65) : S65))) := by
  have Hl0_0 := Aside0.mk hr0_0
  clear hr0_0
  have Hl0_3 := Aside0.mk hr0_3
  clear hr0_3
  have Hl0_5 := Aside0.mk hr0_5
  clear hr0_5
  unfold wf65 at hw
  obtain ⟨g0, g1, g2, g3, g4⟩ := hw
  go_enter Try.func30, Try.ntmps30
  go_wp2_with fail
  refine (laws_szFrame.calls A0_0 c0_0 l0_0 a0_1 a0_2 a1 _ (Kd.C_below Hl0_0.out (by repeat (first | exact below_alloc (Below.refl _ _) _ | refine below_alloc ?_ _))) (by omega) (by omega) g0).mono ?_
  rintro e w10 ⟨r0, rfl, hr1_0, hr2_0, hr3_0, hb⟩
  have s0_3 : w10.cell? ⟨w.heap.size, 3, none⟩ = some (.slice A0_3 l0_3.length c0_3) := pw_cell_below hb (by first | assumption | (go_simp; done))
  have s0_4 : w10.cell? ⟨w.heap.size, 4, none⟩ = some (.int .i64 a0_4) := pw_cell_below hb (by first | assumption | (go_simp; done))
  have s0_5 : w10.cell? ⟨w.heap.size, 5, none⟩ = some (.slice A0_5 l0_5.length c0_5) := pw_cell_below hb (by first | assumption | (go_simp; done))
  have s0_6 : w10.cell? ⟨w.heap.size, 6, none⟩ = some (.int .i64 a0_6) := pw_cell_below hb (by first | assumption | (go_simp; done))
  have s0_7 : w10.cell? ⟨w.heap.size, 7, none⟩ = some (.int .i64 a0_7) := pw_cell_below hb (by first | assumption | (go_simp; done))
  have HB0 := Aside0.mk (below_into (w := w) hb (by repeat (first | exact below_alloc (Below.refl _ _) _ | refine below_alloc ?_ _)))
  have HR0 := Aside0.mk hr3_0
  clear hb hr3_0
  by_cases q0 : r0 < 0
  · skip
    go_wp2_with fail
    go_ret
    exact ⟨-1, rfl, by omega, by omega, fun h => absurd h (by omega), HB0.out⟩
  · skip
    go_wp2_with fail
    refine (laws_szLedger.calls A0_3 c0_3 l0_3 a0_4 r0 _ (Kd.C_below Hl0_3.out (by repeat (first | exact HB0.out | refine below_alloc ?_ _))) (by omega) (by omega) g1).mono ?_
    rintro e w11 ⟨r1, rfl, hr1_1, hr2_1, hr3_1, hb⟩
    have s1_5 : w11.cell? ⟨w.heap.size, 5, none⟩ = some (.slice A0_5 l0_5.length c0_5) := pw_cell_below hb (by first | assumption | (go_simp; done))
    have s1_6 : w11.cell? ⟨w.heap.size, 6, none⟩ = some (.int .i64 a0_6) := pw_cell_below hb (by first | assumption | (go_simp; done))
    have s1_7 : w11.cell? ⟨w.heap.size, 7, none⟩ = some (.int .i64 a0_7) := pw_cell_below hb (by first | assumption | (go_simp; done))
    have HB1 := Aside0.mk (below_into (w := w) hb (by repeat (first | exact HB0.out | refine below_alloc ?_ _)))
    have HR1 := Aside0.mk hr3_1
    clear hb hr3_1
    by_cases q1 : r1 < 0
    · skip
      go_wp2_with fail
      go_ret
      exact ⟨-1, rfl, by omega, by omega, fun h => absurd h (by omega), HB1.out⟩
    · skip
      go_wp2_with fail
      refine (laws_szPeriodS.calls A0_5 c0_5 l0_5 r1 _ (Kd.C_below Hl0_5.out (by repeat (first | exact HB1.out | refine below_alloc ?_ _))) (by omega) (by omega) g2.2).mono ?_
      rintro e w12 ⟨r2, rfl, hr1_2, hr2_2, hr3_2, hb⟩
      have s2_6 : w12.cell? ⟨w.heap.size, 6, none⟩ = some (.int .i64 a0_6) := pw_cell_below hb (by first | assumption | (go_simp; done))
      have s2_7 : w12.cell? ⟨w.heap.size, 7, none⟩ = some (.int .i64 a0_7) := pw_cell_below hb (by first | assumption | (go_simp; done))
      have HB2 := Aside0.mk (below_into (w := w) hb (by repeat (first | exact HB1.out | refine below_alloc ?_ _)))
      have HR2 := Aside0.mk hr3_2
      clear hb hr3_2
      by_cases q2 : r2 < 0
      · skip
        go_wp2_with fail
        go_ret
        exact ⟨-1, rfl, by omega, by omega, fun h => absurd h (by omega), HB2.out⟩
      · skip
        go_wp2_with fail
        go_ret
        exact ⟨_, rfl, by omega, by omega, fun _ => by unfold small65; exact ⟨(HR0.out (by omega)), (HR1.out (by omega)), (HR2.out (by omega))⟩, HB2.out⟩
end Go.Proofs.Ytphmnkcfjgallaa.Q
namespace Go.Proofs.Ytphmnkcfjgallaa.Q
open Go.RowKit Go.Proofs.YtphmnkcfjgallaaW.PrintWords Go.Proofs.YtphmnkcfjgallaaW.PrintLast Go.Proofs.YtphmnkcfjgallaaW.PrintMore
set_option linter.unusedVariables false
set_option linter.unusedSimpArgs false
noncomputable def leafK (chart : List Acc) (i : Int) : Bool := leafB chart i && (decide (knd chart i = 4) || decide (knd chart i = 5))
noncomputable def leavesUpto (chart : List Acc) : Nat → List Int
  | 0 => []
  | n + 1 => leavesUpto chart n ++ (if leafK chart (n : Int) = true then [(n : Int)] else [])
noncomputable def leafExt (chart : List Acc) (i : Int) (j : Nat) : List Int := if leafB chart i = true ∧ ((0 < j ∧ knd chart i = 4) ∨ (1 < j ∧ knd chart i = 5)) then [i] else []
theorem leafExt_0 (chart : List Acc) (i : Int) : leafExt chart i 0 = [] := if_neg (fun q => by rcases q.2 with r | r <;> omega)
theorem leafExt_2 (chart : List Acc) (n : Nat) : leavesUpto chart n ++ leafExt chart n 2 = leavesUpto chart (n + 1) := by
  unfold leafExt
  simp only [leavesUpto]
  unfold leafK
  by_cases h : leafB chart n = true ∧ ((0 < 2 ∧ knd chart n = 4) ∨ (1 < 2 ∧ knd chart n = 5))
  · rw [if_pos h, if_pos (by rw [h.1]; rcases h.2 with q | q <;> simp [q.2])]
  · rw [if_neg h, if_neg (by
      intro q
      simp only [Bool.and_eq_true, Bool.or_eq_true, decide_eq_true_eq] at q
      exact h ⟨q.1, q.2.elim (fun k => .inl ⟨by omega, k⟩) (fun k => .inr ⟨by omega, k⟩)⟩)]
theorem leafExt_1n {chart : List Acc} {i : Int} (h : ¬ (leafB chart i = true ∧ knd chart i = 4)) : leafExt chart i 1 = [] := if_neg (fun q => h ⟨q.1, by rcases q.2 with r | r; (· exact r.2); (· omega)⟩)
theorem leafExt_1y {chart : List Acc} {i : Int} (h : leafB chart i = true ∧ knd chart i = 4) : leafExt chart i 1 = [i] := if_pos ⟨h.1, .inl ⟨by omega, h.2⟩⟩
theorem leafExt_2n {chart : List Acc} {i : Int} (h : ¬ (leafB chart i = true ∧ knd chart i = 5)) : leafExt chart i 2 = leafExt chart i 1 := by
  unfold leafExt
  by_cases q : leafB chart i = true ∧ ((0 < 1 ∧ knd chart i = 4) ∨ (1 < 1 ∧ knd chart i = 5))
  · rw [if_pos q, if_pos ⟨q.1, .inl ⟨by omega, by omega⟩⟩]
  · rw [if_neg q, if_neg (fun k => by
      rcases k.2 with r | r
      · exact q ⟨k.1, .inl ⟨by omega, r.2⟩⟩
      · exact h ⟨k.1, r.2⟩)]
theorem leafExt_2y {chart : List Acc} {i : Int} (h : leafB chart i = true ∧ knd chart i = 5) : leafExt chart i 2 = [i] := if_pos ⟨h.1, .inr ⟨by omega, h.2⟩⟩
theorem leafExt_1of5 {chart : List Acc} {i : Int} (h : knd chart i = 5) : leafExt chart i 1 = [] := if_neg (fun q => by rcases q.2 with r | r <;> omega)
theorem leavesUpto_len (chart : List Acc) (n : Nat) : (leavesUpto chart n).length ≤ n := by
  induction n with
  | zero => simp [leavesUpto]
  | succ n ih => simp only [leavesUpto, List.length_append]; split <;> simp <;> omega
theorem leafExt_len (chart : List Acc) (i : Int) (j : Nat) : (leafExt chart i j).length ≤ 1 := by unfold leafExt; split <;> simp
def NB1 (b : Nat) (v : Value) : Prop := some b ≠ v.ownBlock
theorem NB1.after {b : Nat} {v v1 : Value} {W : World} (h : NB1 b v) (hat : v1.ownBlock = v.ownBlock ∨ ∃ q, v1.ownBlock = some q ∧ W.heap.size ≤ q) (ha : b < W.heap.size) : NB1 b v1 := by
  rcases hat with hat | ⟨q, hq, hle⟩
  · unfold NB1; rw [hat]; exact h
  · unfold NB1; rw [hq]; intro e; injection e with e; omega
set_option maxHeartbeats 16000000 in
set_option maxRecDepth 100000 in
theorem impl_leaves.to (A0 : Option Addr) (c0 : Nat) (l0 : List Acc) (d c : Int) (g : Nat) (w : World) (hr0 : Kd.C k131 w A0 l0.length l0) (hl : l0.length ≤ 1048576) (hg : w.heap[g]? = some (.cells #[.int .i64 4, .int .i64 5] 3 (0, 0))) :
    Calls Try.prog 121 #[.agg #[.slice A0 l0.length c0, .int .i64 d, .int .i64 c], .slice (some ⟨g, 0, none⟩) 2 2] w fun e w' => ∃ v : Value, e = .returned v ∧ Kd.R (Kd.int .i64) 3 w' w.heap.size (fun _ => True) v (leavesUpto l0 l0.length) ∧ Below w.heap.size w w' := by
  have H0 := Aside0.mk hr0
  have HG := Aside0.mk hg
  have HGW := Aside0.mk (blk_lt hg)
  have HB := Aside0.mk (below_alloc (Below.refl w.heap.size w) (.cells #[.slice A0 l0.length c0, .int .i64 d, .int .i64 c] 149))
  clear hr0 hg
  go_enter Try.func121, Try.ntmps121
  go_wp2_with (first | ((with_reducible refine gate_dst (N := 10) rfl ?_); refine Kd.R_lit (Kd.int .i64) _ 3 ?hg (N := 10) ?hd (xs := ([] : List Int)) (inner := []) (ok := fun _ => True) (okp := fun _ => True) ?hr ?hp (fun _ hk => hk) trivial (Below.refl _ _) (Nat.le_refl _) (by simp) ?_; (case hd => rfl); (case hg => rfl); (case hr => first | (go_simp; done) | (go_simp; rfl)); (case hp => exact (Reps.none _ _)); intro v1 w1 ho hb hg hnew; have RR := Aside0.mk (Kd.R_lower (Kd.R_mono (ok' := fun k => w.heap.size < k) (Kd.R_bound ho) (fun k hk => by have := hk.2.1; simp at this; omega)) (HB.out.size)); have f0 : w1.cell? ⟨w.heap.size, 0, none⟩ = some (.slice A0 l0.length c0) := pw_cell_below hb (by go_simp); have HB1 := Aside0.mk (below_into (w := w) hb HB.out); clear ho hb hg hnew))
  have F0 := Aside0.mk f0
  clear HB f0
  go_loopw [15, 5] (fun u v wr => ∃ n : Nat, n ≤ l0.length ∧ u = .int .i64 n ∧ Aside0 (Kd.R (Kd.int .i64) 3 wr w.heap.size (fun k => w.heap.size < k) v (leavesUpto l0 n)) ∧ Aside0 (Below w.heap.size w wr) ∧ Aside0 (wr.cell? ⟨w.heap.size, 0, none⟩ = some (.slice A0 l0.length c0))) (fun u _ _ => (l0.length - (intOf u).toNat))
  case atStart => exact ⟨0, by omega, rfl, RR, HB1, F0⟩
  case round =>
    clear RR HB1 F0
    obtain ⟨n, hn, rfl, RR, HB, F0⟩ := hrel
    have f0 := F0.out
    have z0 := World.block_lt_of_cell? _ _ f0
    by_cases hlt : n < l0.length
    case neg =>
      have hn2 : n = l0.length := by omega
      have RR' := Aside0.mk (show Kd.R (Kd.int .i64) 3 wr w.heap.size (fun k => w.heap.size < k) _ (leavesUpto l0 l0.length) from hn2 ▸ RR.out)
      clear hn2
      go_wp2_with fail
      go_ret
      exact ⟨_, rfl, Kd.R_mono RR'.out (fun _ _ => trivial), HB.out⟩
    have hin : ((n : Nat) : Int) < (l0.length : Int) := by omega
    obtain ⟨ad, e0, x0, x1, x2⟩ := at_T131 (Kd.C_below H0.out HB.out) n (by omega) hin
    cases e0
    simp only [Int.toNat_natCast] at x0 x1 x2
    have hkd : (rd_T131 l0 (n : Int)).f2 = knd l0 n := rfl
    have hl1 := leavesUpto_len l0 n
    have HC0 := Aside0.mk (Kd.C_below H0.out HB.out)
    have HK := Aside0.mk hkd
    have HG1 := Aside0.mk (blk_below HG.out HB.out)
    clear hkd
    generalize (rd_T131 l0 (n : Int)).f0 = y0 at *
    generalize (rd_T131 l0 (n : Int)).f1 = y1 at *
    have hab := below_alloc (Below.refl wr.heap.size wr) (.cells #[.string y0, .int .i64 y1, .int .i64 (rd_T131 l0 (n : Int)).f2] 131)
    have HR1 := Aside0.mk (Kd.R_alloc RR.out (.cells #[.string y0, .int .i64 y1, .int .i64 (rd_T131 l0 (n : Int)).f2] 131))
    have NB := Aside0.mk (show NB1 wr.heap.size _ from fun e => by have := Kd.R_lt RR.out _ e.symm; omega)
    have HBX := Aside0.mk (below_into (w := w) hab HB.out)
    have F1 := Aside0.mk (pw_cell_below hab f0)
    have G1 := Aside0.mk (blk_below HG1.out hab)
    have YC := Aside0.mk (show (wr.alloc (.cells #[.string y0, .int .i64 y1, .int .i64 (rd_T131 l0 (n : Int)).f2] 131)).cell? ⟨wr.heap.size, 2, none⟩ = some (.int .i64 (rd_T131 l0 (n : Int)).f2) from by go_simp)
    have ZW := Aside0.mk (show wr.heap.size < (wr.alloc (.cells #[.string y0, .int .i64 y1, .int .i64 (rd_T131 l0 (n : Int)).f2] 131)).heap.size from by simp)
    generalize (rd_T131 l0 (n : Int)).f2 = kk at *
    obtain rfl : kk = knd l0 n := HK.out
    clear hab f0 HK HG1
    go_wp2_with fail
    generalize hb1 : wr.heap.size = b1 at *
    go_loopw [22, 5] (fun u v wq => ∃ j : Nat, j ≤ 2 ∧ u = .int .i64 j ∧ Aside0 (Kd.R (Kd.int .i64) 3 wq w.heap.size (fun k => w.heap.size < k) v (leavesUpto l0 n ++ leafExt l0 n j)) ∧ Aside0 (NB1 b1 v) ∧ Aside0 (Below w.heap.size w wq) ∧ Aside0 (wq.cell? ⟨w.heap.size, 0, none⟩ = some (.slice (some ad) l0.length c0)) ∧ Aside0 (wq.cell? ⟨b1, 2, none⟩ = some (.int .i64 (knd l0 n))) ∧ Aside0 (wq.heap[g]? = some (.cells #[.int .i64 4, .int .i64 5] 3 (0, 0)))) (fun u _ _ => (2 - (intOf u).toNat))
    case atStart => exact ⟨0, by omega, rfl, ⟨by rw [leafExt_0, List.append_nil]; exact HR1.out⟩, NB, HBX, F1, YC, G1⟩
    case round =>
      clear HR1 NB HBX F1 YC G1 RR HB F0 x0 x1 x2 ZW z0
      obtain ⟨j, hj, rfl, RR, NB, HB, F0, YC, G1⟩ := hrel
      have hj3 : j = 0 ∨ j = 1 ∨ j = 2 := by omega
      rcases hj3 with rfl | rfl | rfl
      · have q0 : wr.cell? ⟨g, 0, none⟩ = some (.int .i64 4) := (blk_cell G1.out 0).trans rfl
        have yc := YC.out
        have f0 := F0.out
        by_cases hk : knd l0 n = 4
        case neg =>
          have kb : (knd l0 n == 4) = false := beq_eq_false_iff_ne.2 hk
          have HE := Aside0.mk (show leafExt l0 n 1 = leafExt l0 n 0 from by rw [leafExt_0, leafExt_1n (fun q => hk q.2)])
          clear hk
          go_wp2_with fail
          go_roundw
          case rel => exact ⟨1, by omega, rfl, ⟨by rw [HE.out]; exact RR.out⟩, NB, HB, F0, YC, G1⟩
          case measure => simp [intOf]
        case pos =>
          have kb : (knd l0 n == 4) = true := by rw [hk]; rfl
          have HKK := Aside0.mk hk
          clear hk
          cases hlf : leafB l0 n with
          | false =>
            have HE := Aside0.mk (show leafExt l0 n 1 = leafExt l0 n 0 from by rw [leafExt_0, leafExt_1n (fun q => by rw [hlf] at q; cases q.1)])
            have HLF := Aside0.mk hlf
            clear hlf
            go_wp2_with fail
            refine (impl_leafAt.to (some ad) c0 l0 n _ (Kd.C_below H0.out HB.out)).mono ?_
            rintro x w' ⟨rfl, rfl⟩
            rw [HLF.out]
            go_wp2_with fail
            go_roundw
            case rel => exact ⟨1, by omega, rfl, ⟨by rw [HE.out]; exact RR.out⟩, NB, HB, F0, YC, G1⟩
            case measure => simp [intOf]
          | true =>
            have HE := Aside0.mk (show leavesUpto l0 n ++ leafExt l0 n 1 = (leavesUpto l0 n ++ leafExt l0 n 0) ++ [(n : Int)] from by rw [leafExt_0, List.append_nil, leafExt_1y ⟨hlf, HKK.out⟩])
            have HLF := Aside0.mk hlf
            have hln : (leavesUpto l0 n ++ leafExt l0 n 0).length ≤ 1048577 := by have := leafExt_len l0 n 0; rw [List.length_append]; omega
            have HLN := Aside0.mk hln
            clear hlf hln
            go_wp2_with fail
            refine (impl_leafAt.to (some ad) c0 l0 n _ (Kd.C_below H0.out HB.out)).mono ?_
            rintro x w' ⟨rfl, rfl⟩
            rw [HLF.out]
            have zf := World.block_lt_of_cell? _ _ f0
            have zy := World.block_lt_of_cell? _ _ yc
            go_wp2_with (first | ((with_reducible refine gate_builtin (b := .append) (xs := #[.tmp 37, .tmp 39]) rfl ?_); at_builtin; refine Kd.R_append (Kd.int .i64) (w0 := w) w.heap.size rfl (.tmp 37) (.tmp 39) 46 3 (.int .i64 0) 8 rfl Try.underlying46 info3 rfl (by decide) (by omega) _ (leavesUpto l0 n ++ leafExt l0 n 0) (n : Int) [.int .i64 (n : Int)] (fun k => w.heap.size < k) (fun _ => False) rfl rfl rfl (fun _ hk => hk.elim) (fun k hk => by omega) RR.out HB.out HB.out.size (by have := HLN.out; omega) ?_; intro v7 wa ho hb hg hat; have F0' := Aside0.mk (cell_grown hg f0 (fun e => by have := RR.out.1 _ e.symm; simp at this)); have YC' := Aside0.mk (cell_grown hg yc NB.out); have NB' := Aside0.mk (NB.out.after hat zy); have G1' := Aside0.mk (blk_grown G1.out hg (fun e => by have := RR.out.1 _ e.symm; have := HGW.out; omega)); have RR' := Aside0.mk ho; have HB' := Aside0.mk hb; clear ho hb hg hat f0 yc q0 RR NB HB F0 YC G1 zf zy))
            go_roundw
            case rel => exact ⟨1, by omega, rfl, ⟨by rw [HE.out]; exact RR'.out⟩, NB', HB', F0', YC', G1'⟩
            case measure => simp [intOf]
      · have q0 : wr.cell? ⟨g, 1, none⟩ = some (.int .i64 5) := (blk_cell G1.out 1).trans rfl
        have yc := YC.out
        have f0 := F0.out
        by_cases hk : knd l0 n = 5
        case neg =>
          have kb : (knd l0 n == 5) = false := beq_eq_false_iff_ne.2 hk
          have HE := Aside0.mk (show leafExt l0 n 2 = leafExt l0 n 1 from leafExt_2n (fun q => hk q.2))
          clear hk
          go_wp2_with fail
          go_roundw
          case rel => exact ⟨2, by omega, rfl, ⟨by rw [HE.out]; exact RR.out⟩, NB, HB, F0, YC, G1⟩
          case measure => simp [intOf]
        case pos =>
          have kb : (knd l0 n == 5) = true := by rw [hk]; rfl
          have HKK := Aside0.mk hk
          clear hk
          cases hlf : leafB l0 n with
          | false =>
            have HE := Aside0.mk (show leafExt l0 n 2 = leafExt l0 n 1 from leafExt_2n (fun q => by rw [hlf] at q; cases q.1))
            have HLF := Aside0.mk hlf
            clear hlf
            go_wp2_with fail
            refine (impl_leafAt.to (some ad) c0 l0 n _ (Kd.C_below H0.out HB.out)).mono ?_
            rintro x w' ⟨rfl, rfl⟩
            rw [HLF.out]
            go_wp2_with fail
            go_roundw
            case rel => exact ⟨2, by omega, rfl, ⟨by rw [HE.out]; exact RR.out⟩, NB, HB, F0, YC, G1⟩
            case measure => simp [intOf]
          | true =>
            have HE := Aside0.mk (show leavesUpto l0 n ++ leafExt l0 n 2 = (leavesUpto l0 n ++ leafExt l0 n 1) ++ [(n : Int)] from by rw [leafExt_1of5 HKK.out, List.append_nil, leafExt_2y ⟨hlf, HKK.out⟩])
            have HLF := Aside0.mk hlf
            have hln : (leavesUpto l0 n ++ leafExt l0 n 1).length ≤ 1048577 := by have := leafExt_len l0 n 1; rw [List.length_append]; omega
            have HLN := Aside0.mk hln
            clear hlf hln
            go_wp2_with fail
            refine (impl_leafAt.to (some ad) c0 l0 n _ (Kd.C_below H0.out HB.out)).mono ?_
            rintro x w' ⟨rfl, rfl⟩
            rw [HLF.out]
            have zf := World.block_lt_of_cell? _ _ f0
            have zy := World.block_lt_of_cell? _ _ yc
            go_wp2_with (first | ((with_reducible refine gate_builtin (b := .append) (xs := #[.tmp 37, .tmp 39]) rfl ?_); at_builtin; refine Kd.R_append (Kd.int .i64) (w0 := w) w.heap.size rfl (.tmp 37) (.tmp 39) 46 3 (.int .i64 0) 8 rfl Try.underlying46 info3 rfl (by decide) (by omega) _ (leavesUpto l0 n ++ leafExt l0 n 1) (n : Int) [.int .i64 (n : Int)] (fun k => w.heap.size < k) (fun _ => False) rfl rfl rfl (fun _ hk => hk.elim) (fun k hk => by omega) RR.out HB.out HB.out.size (by have := HLN.out; omega) ?_; intro v7 wa ho hb hg hat; have F0' := Aside0.mk (cell_grown hg f0 (fun e => by have := RR.out.1 _ e.symm; simp at this)); have YC' := Aside0.mk (cell_grown hg yc NB.out); have NB' := Aside0.mk (NB.out.after hat zy); have G1' := Aside0.mk (blk_grown G1.out hg (fun e => by have := RR.out.1 _ e.symm; have := HGW.out; omega)); have RR' := Aside0.mk ho; have HB' := Aside0.mk hb; clear ho hb hg hat f0 yc q0 RR NB HB F0 YC G1 zf zy))
            go_roundw
            case rel => exact ⟨2, by omega, rfl, ⟨by rw [HE.out]; exact RR'.out⟩, NB', HB', F0', YC', G1'⟩
            case measure => simp [intOf]
      · have RR2 := Aside0.mk (show Kd.R (Kd.int .i64) 3 wr w.heap.size (fun k => w.heap.size < k) _ (leavesUpto l0 (n + 1)) from by have := RR.out; rw [leafExt_2] at this; exact this)
        go_wp2_with fail
        go_roundw
        case rel => exact ⟨n + 1, by omega, by go_num, RR2, HB, F0⟩
        case measure => simp [intOf]; omega
set_option maxHeartbeats 8000000 in
set_option maxRecDepth 100000 in
theorem impl_upTo.to (A : Option Addr) (cc : Nat) (es : List Ent) (h a d c tt : Int) (w : World) (hr : Kd.C k34 w A es.length es) (hn : es.length ≤ 1000) (hf : ∀ e ∈ es, entFine e) :
    Calls Try.prog 122 #[.agg #[.slice A es.length cc, .int .i64 h], .int .i64 a, .int .i64 d, .int .i64 c, .int .i64 tt] w fun e w' => e = .returned (.tuple #[.int .i64 (amtV a d c (-4611686018427387904) tt es), .int .i64 (basV a d c (-4611686018427387904) tt es)]) ∧ Below w.heap.size w w' := by
  have HR := Aside0.mk hr
  have HF := Aside0.mk hf
  have HB := Aside0.mk (below_alloc (Below.refl w.heap.size w) (.cells #[.slice A es.length cc, .int .i64 h] 151))
  clear hr hf
  have HC := Aside0.mk (fun W hC => impl_Balance.to A cc es h a d c (-4611686018427387904) tt W hC hn HF.out)
  generalize amtV a d c (-4611686018427387904) tt es = x1 at *
  generalize basV a d c (-4611686018427387904) tt es = x2 at *
  go_enter Try.func122, Try.ntmps122
  go_wp2_with fail
  refine (HC.out _ (Kd.C_below HR.out HB.out)).mono ?_
  rintro e w2 ⟨rfl, hb⟩
  have HB2 := Aside0.mk (below_into (w := w) hb HB.out)
  clear hb
  go_wp2_with fail
  go_ret2
  exact ⟨rfl, HB2.out⟩
set_option maxHeartbeats 8000000 in
set_option maxRecDepth 100000 in
theorem impl_open.to (A0 : Option Addr) (n0 c0 : Nat) (d c : Int) (A1 : Option Addr) (n1 c1 : Nat) (h : Int) (A2 : Option Addr) (n2 c2 : Nat) (a b : Int) (w : World) :
    Calls Try.prog 120 #[.agg #[.slice A0 n0 c0, .int .i64 d, .int .i64 c, .slice A1 n1 c1, .int .i64 h, .slice A2 n2 c2, .int .i64 a, .int .i64 b]] w fun e w' => e = .returned (.agg #[.slice A0 n0 c0, .int .i64 d, .int .i64 c, .slice A1 n1 c1, .int .i64 h, .slice A0 n0 c0, .int .i64 d, .int .i64 c, .slice A1 n1 c1, .int .i64 h, .slice A2 n2 c2, .int .i64 a, .int .i64 b]) ∧ Below w.heap.size w w' := by
  go_enter Try.func120, Try.ntmps120
  go_wp2_with fail
  refine bodyPost_ret (results_cell_row rfl _ _ (w.heap.size + 1) 153 #[.slice A0 n0 c0, .int .i64 d, .int .i64 c, .slice A1 n1 c1, .int .i64 h, .slice A0 n0 c0, .int .i64 d, .int .i64 c, .slice A1 n1 c1, .int .i64 h, .slice A2 n2 c2, .int .i64 a, .int .i64 b] (0, 0) _ rfl (by have := blk_new (w.alloc (.cells #[.slice A0 n0 c0, .int .i64 d, .int .i64 c, .slice A1 n1 c1, .int .i64 h, .slice A2 n2 c2, .int .i64 a, .int .i64 b] 50)) (.cells #[.slice A0 n0 c0, .int .i64 d, .int .i64 c, .slice A1 n1 c1, .int .i64 h, .slice A0 n0 c0, .int .i64 d, .int .i64 c, .slice A1 n1 c1, .int .i64 h, .slice A2 n2 c2, .int .i64 a, .int .i64 b] 153); simpa using this) Try.underlying153 rfl (by kernel_rfl)) rfl ?_
  exact ⟨rfl, below_two w _ _⟩
end Go.Proofs.Ytphmnkcfjgallaa.Q
namespace Go.Proofs.Ytphmnkcfjgallaa.Q
open Go.RowKit Go.Proofs.YtphmnkcfjgallaaW.PrintWords Go.Proofs.YtphmnkcfjgallaaW.PrintLast Go.Proofs.YtphmnkcfjgallaaW.PrintMore
attribute [local go_sem] max2_int min2_int max_two min_two max_three min_three max_four min_four   -- for this text's walks alone
set_option linter.unusedVariables false
set_option linter.unusedSimpArgs false
end Go.Proofs.Ytphmnkcfjgallaa.Q
namespace Go.Proofs.Ytphmnkcfjgallaa.Q
open Go.RowKit Go.Proofs.YtphmnkcfjgallaaW.PrintWords Go.Proofs.YtphmnkcfjgallaaW.PrintLast Go.Proofs.YtphmnkcfjgallaaW.PrintMore
set_option linter.unusedVariables false
set_option linter.unusedSimpArgs false
theorem laws_heldLineS_is (l : List Lin) (k : Nat) (a : Int) (hk : l.length < k) (hl : l.length ≤ 1048576) (h0 : 0 ≤ a) (h1 : a ≤ 1000000000000000) : laws_heldLineS.f k (mAll mLine nLine a l) a = some (nAll nLine a l) := by
  have := held_loop laws_heldLineS.l0 mLine nLine z112 0 5 4611686018427387000 (by omega) (fun _ => True) (fun x _ b => by unfold nLine; omega) (fun k y x a i _ hi hi2 hl h0 hB _ hy => by
    have hy' : rd_T112 y i = mLine a x := hy
    simp only [laws_heldLineS.l0]
    rw [if_pos hi2, if_pos hi, hy', wr1 h0 (by omega), wr1 (a := a + 1) (by omega) (by omega), wr1 (a := a + 1 + 1) (by omega) (by omega), wr1 (a := a + 1 + 1 + 1) (by omega) (by omega), wr1 (a := a + 1 + 1 + 1 + 1) (by omega) (by omega), wr1 hi (by omega)]
    simp only [mLine, if_true]
    rfl) (fun k x a i h => by simp only [laws_heldLineS.l0]; rw [if_neg (by omega)]) l [] k a (by omega) (by simpa using hl) h0 (by omega) (fun _ _ => trivial)
  exact this
end Go.Proofs.Ytphmnkcfjgallaa.Q
namespace Go.Proofs.Ytphmnkcfjgallaa.Q
open Go.RowKit Go.Proofs.YtphmnkcfjgallaaW.PrintWords Go.Proofs.YtphmnkcfjgallaaW.PrintLast Go.Proofs.YtphmnkcfjgallaaW.PrintMore
set_option linter.unusedVariables false
set_option linter.unusedSimpArgs false
theorem mark_step {l : List Ent} {a : Int} {i : Int} (h0 : 0 ≤ i) (h1 : i < (l.length : Int)) {x' : Ent} (hx : x' = mEnt (nAll nEnt a (l.take i.toNat)) (rd_T34 l i)) :
    (mAll mEnt nEnt a (l.take i.toNat) ++ l.drop i.toNat).set i.toNat x' = mAll mEnt nEnt a (l.take (i + 1).toNat) ++ l.drop (i + 1).toNat ∧ nAll nEnt a (l.take (i + 1).toNat) = nEnt (nAll nEnt a (l.take i.toNat)) (rd_T34 l i) ∧ rd_T34 (mAll mEnt nEnt a (l.take i.toNat) ++ l.drop i.toNat) i = rd_T34 l i := by
  subst hx
  have ht : l.take (i + 1).toNat = l.take i.toNat ++ [rd_T34 l i] := by
    rw [show (i + 1).toNat = i.toNat + 1 by omega, List.take_add_one, List.getElem?_eq_getElem (by omega)]
    unfold rd_T34
    rw [List.getD_eq_getElem?_getD, List.getElem?_eq_getElem (by omega)]
    rfl
  have hl : (mAll mEnt nEnt a (l.take i.toNat)).length = i.toNat := by rw [mAll_length, List.length_take]; omega
  have hd : l.drop i.toNat = rd_T34 l i :: l.drop (i + 1).toNat := by
    rw [show (i + 1).toNat = i.toNat + 1 by omega, List.drop_eq_getElem_cons (by omega)]
    unfold rd_T34
    rw [List.getD_eq_getElem?_getD, List.getElem?_eq_getElem (by omega)]
    rfl
  refine ⟨?_, ?_, ?_⟩
  · rw [ht, mAll_snoc, hd, List.set_append_right _ _ (by omega), hl, Nat.sub_self]
    simp
  · rw [ht, nAll_snoc]
  · rw [hd]
    show ((mAll mEnt nEnt a (l.take i.toNat)) ++ rd_T34 l i :: l.drop (i + 1).toNat).getD i.toNat z34 = _
    rw [List.getD_eq_getElem?_getD, List.getElem?_append_right (by omega), hl, Nat.sub_self]
    rfl
set_option maxHeartbeats 16000000 in
set_option maxRecDepth 100000 in
theorem laws_markEntryS.to (P0_ : Nat → Prop) (A : Option Addr) (c : Nat) (l0 : List Ent) (a1 : Int) (w0 w : World) (hB : Below w0.heap.size w0 w) (hS : Kd.S k34 34 w w0.heap.size P0_ (.slice A l0.length c) l0) (h0 : 0 ≤ a1) (h1 : a1 ≤ 100000000000000) (hl : l0.length ≤ 1048576) (hs : ∀ x ∈ l0, x.f3.length ≤ 1048576) :
    Calls Try.prog 45 #[.slice A l0.length c, .int .i64 a1] w fun e w' => e = .returned (.int .i64 (nAll nEnt a1 l0)) ∧ Kd.S k34 34 w' w0.heap.size P0_ (.slice A l0.length c) (mAll mEnt nEnt a1 l0) ∧ Below w0.heap.size w0 w' ∧ Kept w w' P0_ := by
  have HB := Aside0.mk hB
  have HS := Aside0.mk (show Kd.S k34 34 w w0.heap.size P0_ (.slice A l0.length c) (mAll mEnt nEnt a1 (l0.take (0 : Int).toNat) ++ l0.drop (0 : Int).toNat) from hS)
  have HL := Aside0.mk hs
  clear hB hS hs
  go_enter Try.func45, Try.ntmps45
  go_wp2_with fail
  go_loopw [1, 5] (fun v u wr => ∃ i a : Int, 0 ≤ i ∧ i ≤ (l0.length : Int) ∧ u = .int .i64 i ∧ v = .int .i64 a ∧ 0 ≤ a ∧ a ≤ 100000000000000 + 5242883 * 1048576 ∧ Aside0 (a = nAll nEnt a1 (l0.take i.toNat)) ∧ Aside0 (Kd.S k34 34 wr w0.heap.size P0_ (.slice A l0.length c) (mAll mEnt nEnt a1 (l0.take i.toNat) ++ l0.drop i.toNat)) ∧ Aside0 (Below w0.heap.size w0 wr) ∧ Aside0 (Kept w wr P0_)) (fun _ u _ => (l0.length - (intOf u).toNat))
  case atStart => exact ⟨0, a1, by omega, by omega, rfl, rfl, h0, by omega, ⟨rfl⟩, HS, HB, ⟨Kept.refl w P0_⟩⟩
  case round =>
    have A1 := h1
    clear HS HB h0 h1
    obtain ⟨i, a, hi0, hi1, rfl, rfl, h0, h1, HA, HS, HB, HK⟩ := hrel
    by_cases hlt : i < (l0.length : Int)
    · have hcl : (mAll mEnt nEnt a1 (l0.take i.toNat) ++ l0.drop i.toNat).length = l0.length := by rw [List.length_append, mAll_length, List.length_take, List.length_drop]; omega
      obtain ⟨g, cap, e1, hg0, hg1, _⟩ := Kd.S_form HS.out (by rw [hcl]; omega)
      rw [hcl] at e1
      have HCL := Aside0.mk hcl
      clear hcl
      cases e1
      have MS := Aside0.mk (mark_step (a := a1) hi0 hlt rfl)
      have HPG := Aside0.mk ((Kd.S_R HS.out).1 g rfl)
      obtain ⟨XS, hXS⟩ : ∃ X, X = mAll mEnt nEnt a1 (l0.take i.toNat) ++ l0.drop i.toNat := ⟨_, rfl⟩
      rw [← hXS] at HS MS
      have HXS := Aside0.mk hXS
      clear hXS
      obtain ⟨oki, cs, hcl, hM, hcc, hfr, hoki, hH⟩ := Kd.S_elem HS.out z34 i hi0 hlt
      rw [show XS.getD i.toNat z34 = rd_T34 l0 i from MS.out.2.2] at hM
      obtain ⟨v3, rfl, hR⟩ := k34_openM hM
      obtain ⟨A3, c3, rfl, hc3, hC3⟩ := Kd.R_reads hR
      have x0 := hcc 0 _ rfl
      have x1 := hcc 1 _ rfl
      have x2 := hcc 2 _ rfl
      have x3 := hcc 3 _ rfl
      have f0 := hfr 0
      have f1 := hfr 1
      have f2 := hfr 2
      simp only [show k34.sz = 4 from rfl, Nat.add_zero] at x0 x1 x2 x3 f0 f1 f2
      have HH := Aside0.mk hH
      have HR := Aside0.mk hR
      have HOK := Aside0.mk hoki
      have w1 : IntKind.i64.wrap (a + 1) = a + 1 := by unfold IntKind.wrap; simp [IntKind.bits]; omega
      have hxl : (rd_T34 l0 i).f3.length ≤ 1048576 := all_at (z := z34) (p := fun x => x.f3.length ≤ 1048576) hi0 hlt HL.out
      clear hcl hM hcc hfr hoki hH hR hC3 HS
      generalize hls : (rd_T34 l0 i).f3 = ls at *
      have HLS := Aside0.mk hls
      clear hls
      go_wp2_with fail
      refine (laws_markText.calls 100 (a + 1 + 1) (mText (a + 1 + 1)) _ (laws_markText_is (by omega) (by omega) (Nat.le_refl _))).mono ?_
      rintro e w2 ⟨rfl, hb⟩
      have x2' : w2.cell? ⟨g, i.toNat * 4 + 2, none⟩ = some (.string (rd_T34 l0 i).f2) := pw_cell_below hb (by go_simp)
      have x3' : w2.cell? ⟨g, i.toNat * 4 + 3, none⟩ = some (.slice A3 ls.length c3) := pw_cell_below hb (by go_simp)
      have f2' : w2.frozen? ⟨g, i.toNat * 4 + 2, none⟩ = false := (hb.frozen (p := ⟨g, i.toNat * 4 + 2, none⟩) (by simp; omega)).trans (by go_simp)
      have HH1 : Kd.H k34 34 (wr.setCell ⟨g, i.toNat * 4, none⟩ (.int .i64 a)) w0.heap.size P0_ (.slice (some ⟨g, 0, none⟩) l0.length c) XS i oki [.int .i64 a, .int .i64 (rd_T34 l0 i).f1, .string (rd_T34 l0 i).f2, .slice A3 ls.length c3] := (Kd.H_seg HH.out hi0 hlt (seg := [.int .i64 a]) (j := 0) (show 1 ≤ 4 from by decide) (by simp [Value.oneCell'])).1
      have HH2 : Kd.H k34 34 ((wr.setCell ⟨g, i.toNat * 4, none⟩ (.int .i64 a)).setCell ⟨g, i.toNat * 4 + 1, none⟩ (.int .i64 (a + 1))) w0.heap.size P0_ (.slice (some ⟨g, 0, none⟩) l0.length c) XS i oki [.int .i64 a, .int .i64 (a + 1), .string (rd_T34 l0 i).f2, .slice A3 ls.length c3] := (Kd.H_seg HH1 hi0 hlt (seg := [.int .i64 (a + 1)]) (j := 1) (show 2 ≤ 4 from by decide) (by simp [Value.oneCell'])).1
      have HH3 := Kd.H_below HH2 hb
      have HH4 : Kd.H k34 34 (w2.setCell ⟨g, i.toNat * 4 + 2, none⟩ (.string (mText (a + 1 + 1)))) w0.heap.size P0_ (.slice (some ⟨g, 0, none⟩) l0.length c) XS i oki [.int .i64 a, .int .i64 (a + 1), .string (mText (a + 1 + 1)), .slice A3 ls.length c3] := (Kd.H_seg HH3 hi0 hlt (seg := [.string (mText (a + 1 + 1))]) (j := 2) (show 3 ≤ 4 from by decide) (by simp [Value.oneCell'])).1
      have hne : ∀ k, oki k → k ≠ g := fun k hk => (HOK.out k hk).2
      have hR3 := Aside0.mk (Kd.R_far (p := ⟨g, i.toNat * 4 + 2, none⟩) (Kd.R_below (Kd.R_far (p := ⟨g, i.toNat * 4 + 1, none⟩) (Kd.R_far (p := ⟨g, i.toNat * 4, none⟩) HR.out hne (.int .i64 a)) hne (.int .i64 (a + 1))) hb) hne (.string (mText (a + 1 + 1))))
      have HB3 := Aside0.mk (below_set (j := i.toNat * 4 + 2) (v := .string (mText (a + 1 + 1))) (below_into (w := w0) hb (below_set (below_set HB.out hg0) hg0)) hg0)
      have HK3 := Aside0.mk (Kept.setCell (Kept.below (Kept.setCell (Kept.setCell HK.out (p := ⟨g, i.toNat * 4, none⟩) (.inl HPG.out) (.int .i64 a)) (p := ⟨g, i.toNat * 4 + 1, none⟩) (.inl HPG.out) (.int .i64 (a + 1))) hb) (p := ⟨g, i.toNat * 4 + 2, none⟩) (.inl HPG.out) (.string (mText (a + 1 + 1))))
      replace HH := Aside0.mk HH4
      have HNE := Aside0.mk hne
      clear HH1 HH2 HH3 HH4 hne hb x0 x1 x2 x3 f0 f1 f2 w1
      go_wp2_with fail
      refine (laws_markLineS.calls (ls.length + 1) oki (.slice A3 ls.length c3) ls (a + 1 + 1 + 1) _ _ w0 _ HB3.out hR3.out (laws_markLineS_is ls _ _ (by omega) hxl (by omega) (by omega))).mono ?_
      rintro e w4 ⟨rfl, hR4, hB4, hK4⟩
      have HX : (⟨a, a + 1, mText (a + 1 + 1), mAll mLine nLine (a + 1 + 1 + 1) ls⟩ : Ent) = mEnt (nAll nEnt a1 (l0.take i.toNat)) (rd_T34 l0 i) := by rw [← HA.out]; unfold mEnt; rw [HLS.out]
      have HS4 := Aside0.mk (Kd.H_back (Kd.H_step HH.out (fun k _ hn hlt => hK4.2 k hlt hn)) (k34_mkM _ _ _ (⟨a, a + 1, mText (a + 1 + 1), mAll mLine nLine (a + 1 + 1 + 1) ls⟩ : Ent) (Kd.R_tight rfl hR4)) (fun k hk => HR.out.1 k hk.symm))
      have HB4 := Aside0.mk hB4
      have HK4 := Aside0.mk (HK3.out.then_ hK4 (fun k hk => .inl (HOK.out k hk).1))
      have hnb := nEnt_b (l0.take (i + 1).toNat) (fun x hx => HL.out x (List.mem_of_mem_take hx)) a1
      have hnx : nAll nEnt a1 (l0.take (i + 1).toNat) = nAll nLine (a + 1 + 1 + 1) ls := by rw [MS.out.2.1, ← HA.out]; unfold nEnt; rw [HLS.out]
      have hnl := nLine_b ls (a + 1 + 1 + 1)
      have htl : (l0.take (i + 1).toNat).length ≤ 1048576 := by rw [List.length_take]; omega
      rw [hnx] at hnb
      have HNX := Aside0.mk hnx
      clear hR4 hB4 hK4 hnx
      go_wp2_with fail
      go_roundw
      case rel => exact ⟨i + 1, nAll nLine (a + 1 + 1 + 1) ls, by omega, by omega, rfl, rfl, by omega, by omega, ⟨HNX.out.symm⟩, ⟨by have := HS4.out; rw [HX, MS.out.1] at this; exact this⟩, HB4, HK4⟩
      case measure => simp [intOf]; omega
    · go_wp2_with fail
      go_ret
      have e1 : l0.take i.toNat = l0 := List.take_of_length_le (by omega)
      have e2 : l0.drop i.toNat = [] := List.drop_of_length_le (by omega)
      have h := HS.out
      have ha := HA.out
      rw [e1] at ha h
      rw [e2, List.append_nil] at h
      exact ⟨ret_i ha, h, HB.out, HK.out⟩
end Go.Proofs.Ytphmnkcfjgallaa.Q
namespace Go.Proofs.Ytphmnkcfjgallaa.Q
open Go.RowKit Go.Proofs.YtphmnkcfjgallaaW.PrintWords Go.Proofs.YtphmnkcfjgallaaW.PrintLast Go.Proofs.YtphmnkcfjgallaaW.PrintMore
attribute [local go_sem] max2_int min2_int max_two min_two max_three min_three max_four min_four   -- for this text's walks alone
set_option linter.unusedVariables false
set_option linter.unusedSimpArgs false
set_option maxHeartbeats 4000000 in
set_option maxRecDepth 100000 in
theorem laws_eqBooks.calls (A0_0 : Option Addr) (c0_0 : Nat) (l0_0 : List (S131)) (a0_1 : Int) (a0_2 : Int) (A0_3 : Option Addr) (c0_3 : Nat) (l0_3 : List (S34)) (a0_4 : Int) (A0_5 : Option Addr) (c0_5 : Nat) (l0_5 : List (S133)) (a0_6 : Int) (a0_7 : Int) (A1_0 : Option Addr) (c1_0 : Nat) (l1_0 : List (S131)) (a1_1 : Int) (a1_2 : Int) (A1_3 : Option Addr) (c1_3 : Nat) (l1_3 : List (S34)) (a1_4 : Int) (A1_5 : Option Addr) (c1_5 : Nat) (l1_5 : List (S133)) (a1_6 : Int) (a1_7 : Int) (w : World) (hr0_0 : Kd.C k131 w A0_0 l0_0.length l0_0) (hr0_3 : Kd.C k34 w A0_3 l0_3.length l0_3) (hr0_5 : Kd.C k133 w A0_5 l0_5.length l0_5) (hr1_0 : Kd.C k131 w A1_0 l1_0.length l1_0) (hr1_3 : Kd.C k34 w A1_3 l1_3.length l1_3) (hr1_5 : Kd.C k133 w A1_5 l1_5.length l1_5) :
    Calls Try.prog 33 #[.agg #[.slice A0_0 l0_0.length c0_0, .int .i64 a0_1, .int .i64 a0_2, .slice A0_3 l0_3.length c0_3, .int .i64 a0_4, .slice A0_5 l0_5.length c0_5, .int .i64 a0_6, .int .i64 a0_7], .agg #[.slice A1_0 l1_0.length c1_0, .int .i64 a1_1, .int .i64 a1_2, .slice A1_3 l1_3.length c1_3, .int .i64 a1_4, .slice A1_5 l1_5.length c1_5, .int .i64 a1_6, .int .i64 a1_7]] w fun e w' => e = .returned (.bool (same ((⟨(⟨l0_0, a0_1, a0_2⟩ : S26), (⟨l0_3, a0_4⟩ : S29), l0_5, a0_6, a0_7⟩ : S50) : S50) ((⟨(⟨l1_0, a1_1, a1_2⟩ : S26), (⟨l1_3, a1_4⟩ : S29), l1_5, a1_6, a1_7⟩ : S50) : S50))) ∧ Below w.heap.size w w' := by
  have Hl0_0 := Aside0.mk hr0_0
  clear hr0_0
  have Hl0_3 := Aside0.mk hr0_3
  clear hr0_3
  have Hl0_5 := Aside0.mk hr0_5
  clear hr0_5
  have Hl1_0 := Aside0.mk hr1_0
  clear hr1_0
  have Hl1_3 := Aside0.mk hr1_3
  clear hr1_3
  have Hl1_5 := Aside0.mk hr1_5
  clear hr1_5
  go_enter Try.func33, Try.ntmps33
  go_wp2_with fail
  refine (laws_eqFrame.calls A0_0 c0_0 l0_0 a0_1 a0_2 A1_0 c1_0 l1_0 a1_1 a1_2 _ (Kd.C_below Hl0_0.out (by repeat (first | exact Below.refl _ _ | refine below_alloc ?_ _ | refine below_drew1 ?_ | refine pw_below_drewN ?_ _))) (Kd.C_below Hl1_0.out (by repeat (first | exact Below.refl _ _ | refine below_alloc ?_ _ | refine below_drew1 ?_ | refine pw_below_drewN ?_ _)))).mono ?_
  rintro e w10 ⟨rfl, hb⟩
  have s0_a3 : w10.cell? ⟨w.heap.size, 3, none⟩ = some (.slice A0_3 l0_3.length c0_3) := pw_cell_below hb (by first | assumption | (go_simp; done))
  have s0_a4 : w10.cell? ⟨w.heap.size, 4, none⟩ = some (.int .i64 a0_4) := pw_cell_below hb (by first | assumption | (go_simp; done))
  have s0_a5 : w10.cell? ⟨w.heap.size, 5, none⟩ = some (.slice A0_5 l0_5.length c0_5) := pw_cell_below hb (by first | assumption | (go_simp; done))
  have s0_a6 : w10.cell? ⟨w.heap.size, 6, none⟩ = some (.int .i64 a0_6) := pw_cell_below hb (by first | assumption | (go_simp; done))
  have s0_a7 : w10.cell? ⟨w.heap.size, 7, none⟩ = some (.int .i64 a0_7) := pw_cell_below hb (by first | assumption | (go_simp; done))
  have s0_b3 : w10.cell? ⟨w.heap.size + 1, 3, none⟩ = some (.slice A1_3 l1_3.length c1_3) := pw_cell_below hb (by first | assumption | (go_simp; done))
  have s0_b4 : w10.cell? ⟨w.heap.size + 1, 4, none⟩ = some (.int .i64 a1_4) := pw_cell_below hb (by first | assumption | (go_simp; done))
  have s0_b5 : w10.cell? ⟨w.heap.size + 1, 5, none⟩ = some (.slice A1_5 l1_5.length c1_5) := pw_cell_below hb (by first | assumption | (go_simp; done))
  have s0_b6 : w10.cell? ⟨w.heap.size + 1, 6, none⟩ = some (.int .i64 a1_6) := pw_cell_below hb (by first | assumption | (go_simp; done))
  have s0_b7 : w10.cell? ⟨w.heap.size + 1, 7, none⟩ = some (.int .i64 a1_7) := pw_cell_below hb (by first | assumption | (go_simp; done))
  have HB0 := Aside0.mk (below_into (w := w) hb (by repeat (first | exact Below.refl _ _ | refine below_alloc ?_ _ | refine below_drew1 ?_ | refine pw_below_drewN ?_ _)))
  clear hb
  by_cases h0 : ((⟨l0_0, a0_1, a0_2⟩ : S26) : S26) = ((⟨l1_0, a1_1, a1_2⟩ : S26) : S26)
  · rw [← same_true h0]
    have E0 := Aside0.mk h0
    clear h0
    go_wp2_with fail
    refine (laws_eqLedger.calls A0_3 c0_3 l0_3 a0_4 A1_3 c1_3 l1_3 a1_4 _ (Kd.C_below Hl0_3.out (by repeat (first | exact HB0.out | refine below_alloc ?_ _ | refine below_drew1 ?_ | refine pw_below_drewN ?_ _))) (Kd.C_below Hl1_3.out (by repeat (first | exact HB0.out | refine below_alloc ?_ _ | refine below_drew1 ?_ | refine pw_below_drewN ?_ _)))).mono ?_
    rintro e w11 ⟨rfl, hb⟩
    have s1_a5 : w11.cell? ⟨w.heap.size, 5, none⟩ = some (.slice A0_5 l0_5.length c0_5) := pw_cell_below hb (by first | assumption | (go_simp; done))
    have s1_a6 : w11.cell? ⟨w.heap.size, 6, none⟩ = some (.int .i64 a0_6) := pw_cell_below hb (by first | assumption | (go_simp; done))
    have s1_a7 : w11.cell? ⟨w.heap.size, 7, none⟩ = some (.int .i64 a0_7) := pw_cell_below hb (by first | assumption | (go_simp; done))
    have s1_b5 : w11.cell? ⟨w.heap.size + 1, 5, none⟩ = some (.slice A1_5 l1_5.length c1_5) := pw_cell_below hb (by first | assumption | (go_simp; done))
    have s1_b6 : w11.cell? ⟨w.heap.size + 1, 6, none⟩ = some (.int .i64 a1_6) := pw_cell_below hb (by first | assumption | (go_simp; done))
    have s1_b7 : w11.cell? ⟨w.heap.size + 1, 7, none⟩ = some (.int .i64 a1_7) := pw_cell_below hb (by first | assumption | (go_simp; done))
    have HB1 := Aside0.mk (below_into (w := w) hb (by repeat (first | exact HB0.out | refine below_alloc ?_ _ | refine below_drew1 ?_ | refine pw_below_drewN ?_ _)))
    clear hb
    by_cases h1 : ((⟨l0_3, a0_4⟩ : S29) : S29) = ((⟨l1_3, a1_4⟩ : S29) : S29)
    · rw [← same_true h1]
      have E1 := Aside0.mk h1
      clear h1
      go_wp2_with fail
      refine (laws_eqPeriodS.calls A0_5 c0_5 l0_5 A1_5 c1_5 l1_5 _ (Kd.C_below Hl0_5.out (by repeat (first | exact HB1.out | refine below_alloc ?_ _ | refine below_drew1 ?_ | refine pw_below_drewN ?_ _))) (Kd.C_below Hl1_5.out (by repeat (first | exact HB1.out | refine below_alloc ?_ _ | refine below_drew1 ?_ | refine pw_below_drewN ?_ _)))).mono ?_
      rintro e w12 ⟨rfl, hb⟩
      have s2_a6 : w12.cell? ⟨w.heap.size, 6, none⟩ = some (.int .i64 a0_6) := pw_cell_below hb (by first | assumption | (go_simp; done))
      have s2_a7 : w12.cell? ⟨w.heap.size, 7, none⟩ = some (.int .i64 a0_7) := pw_cell_below hb (by first | assumption | (go_simp; done))
      have s2_b6 : w12.cell? ⟨w.heap.size + 1, 6, none⟩ = some (.int .i64 a1_6) := pw_cell_below hb (by first | assumption | (go_simp; done))
      have s2_b7 : w12.cell? ⟨w.heap.size + 1, 7, none⟩ = some (.int .i64 a1_7) := pw_cell_below hb (by first | assumption | (go_simp; done))
      have HB2 := Aside0.mk (below_into (w := w) hb (by repeat (first | exact HB1.out | refine below_alloc ?_ _ | refine below_drew1 ?_ | refine pw_below_drewN ?_ _)))
      clear hb
      by_cases h2 : l0_5 = l1_5
      · rw [← same_true h2]
        have E2 := Aside0.mk h2
        clear h2
        by_cases h3 : a0_6 = a1_6
        · have hb3 : (a0_6 != a1_6) = false := by rw [h3]; simp
          have E3 := Aside0.mk h3
          clear h3
          by_cases h4 : a0_7 = a1_7
          · have hb4 : (a0_7 != a1_7) = false := by rw [h4]; simp
            have E4 := Aside0.mk h4
            clear h4
            go_wp2
            go_ret
            exact ⟨ret_bool (same_true (by rw [E0.out, E1.out, E2.out, E3.out, E4.out])), HB2.out⟩
          · have hb4 : (a0_7 != a1_7) = true := by simpa using h4
            have E4 := Aside0.mk h4
            clear h4
            go_wp2
            go_ret
            exact ⟨ret_bool (same_false (fun h => E4.out (congrArg (fun x : S50 => x.f4) h))), HB2.out⟩
        · have hb3 : (a0_6 != a1_6) = true := by simpa using h3
          have E3 := Aside0.mk h3
          clear h3
          go_wp2
          go_ret
          exact ⟨ret_bool (same_false (fun h => E3.out (congrArg (fun x : S50 => x.f3) h))), HB2.out⟩
      · rw [← same_false h2]
        have E2 := Aside0.mk h2
        clear h2
        go_wp2
        go_ret
        exact ⟨ret_bool (same_false (fun h => E2.out (congrArg (fun x : S50 => x.f2) h))), HB2.out⟩
    · rw [← same_false h1]
      have E1 := Aside0.mk h1
      clear h1
      go_wp2
      go_ret
      exact ⟨ret_bool (same_false (fun h => E1.out (congrArg (fun x : S50 => x.f1) h))), HB1.out⟩
  · rw [← same_false h0]
    have E0 := Aside0.mk h0
    clear h0
    go_wp2
    go_ret
    exact ⟨ret_bool (same_false (fun h => E0.out (congrArg (fun x : S50 => x.f0) h))), HB0.out⟩
end Go.Proofs.Ytphmnkcfjgallaa.Q
