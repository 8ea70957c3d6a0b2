/- Parts of the proof: what functions of the program and of the reference answer.
   No condition. -/
import Derived.Test.YtjnibbkjoclboaaZYearClosed1
import Derived.Test.YtjnibbkjoclboaaZYearClosed3
import Derived.Test.YtjnibbkjoclboaaZYearClosed12
import Derived.Test.YtjnibbkjoclboaaZYearClosed9
namespace Go.Proofs.Ytjnibbkjoclboaa.Q
open Go.RowKit Go.Proofs.YtjnibbkjoclboaaW.PrintWords Go.Proofs.YtjnibbkjoclboaaW.PrintLast Go.Proofs.YtjnibbkjoclboaaW.PrintMore
set_option linter.unusedVariables false
set_option linter.unusedSimpArgs false
noncomputable def leafK (chart : List Acc) (i : Int) : Bool := leafB chart i && (decide (knd chart i = 4) || decide (knd chart i = 5))
noncomputable def leavesUpto (chart : List Acc) : Nat → List Int
  | 0 => []
  | n + 1 => leavesUpto chart n ++ (if leafK chart (n : Int) = true then [(n : Int)] else [])
noncomputable def leafExt (chart : List Acc) (i : Int) (j : Nat) : List Int := if leafB chart i = true ∧ ((0 < j ∧ knd chart i = 4) ∨ (1 < j ∧ knd chart i = 5)) then [i] else []
theorem leafExt_0 (chart : List Acc) (i : Int) : leafExt chart i 0 = [] := if_neg (fun q => by rcases q.2 with r | r <;> omega)
theorem leafExt_2 (chart : List Acc) (n : Nat) : leavesUpto chart n ++ leafExt chart n 2 = leavesUpto chart (n + 1) := by
  unfold leafExt
  simp only [leavesUpto]
  unfold leafK
  by_cases h : leafB chart n = true ∧ ((0 < 2 ∧ knd chart n = 4) ∨ (1 < 2 ∧ knd chart n = 5))
  · rw [if_pos h, if_pos (by rw [h.1]; rcases h.2 with q | q <;> simp [q.2])]
  · rw [if_neg h, if_neg (by
      intro q
      simp only [Bool.and_eq_true, Bool.or_eq_true, decide_eq_true_eq] at q
      exact h ⟨q.1, q.2.elim (fun k => .inl ⟨by omega, k⟩) (fun k => .inr ⟨by omega, k⟩)⟩)]
theorem leafExt_1n {chart : List Acc} {i : Int} (h : ¬ (leafB chart i = true ∧ knd chart i = 4)) : leafExt chart i 1 = [] := if_neg (fun q => h ⟨q.1, by rcases q.2 with r | r; (· exact r.2); (· omega)⟩)
theorem leafExt_1y {chart : List Acc} {i : Int} (h : leafB chart i = true ∧ knd chart i = 4) : leafExt chart i 1 = [i] := if_pos ⟨h.1, .inl ⟨by omega, h.2⟩⟩
theorem leafExt_2n {chart : List Acc} {i : Int} (h : ¬ (leafB chart i = true ∧ knd chart i = 5)) : leafExt chart i 2 = leafExt chart i 1 := by
  unfold leafExt
  by_cases q : leafB chart i = true ∧ ((0 < 1 ∧ knd chart i = 4) ∨ (1 < 1 ∧ knd chart i = 5))
  · rw [if_pos q, if_pos ⟨q.1, .inl ⟨by omega, by omega⟩⟩]
  · rw [if_neg q, if_neg (fun k => by
      rcases k.2 with r | r
      · exact q ⟨k.1, .inl ⟨by omega, r.2⟩⟩
      · exact h ⟨k.1, r.2⟩)]
theorem leafExt_2y {chart : List Acc} {i : Int} (h : leafB chart i = true ∧ knd chart i = 5) : leafExt chart i 2 = [i] := if_pos ⟨h.1, .inr ⟨by omega, h.2⟩⟩
theorem leafExt_1of5 {chart : List Acc} {i : Int} (h : knd chart i = 5) : leafExt chart i 1 = [] := if_neg (fun q => by rcases q.2 with r | r <;> omega)
theorem leavesUpto_len (chart : List Acc) (n : Nat) : (leavesUpto chart n).length ≤ n := by
  induction n with
  | zero => simp [leavesUpto]
  | succ n ih => simp only [leavesUpto, List.length_append]; split <;> simp <;> omega
theorem leafExt_len (chart : List Acc) (i : Int) (j : Nat) : (leafExt chart i j).length ≤ 1 := by unfold leafExt; split <;> simp
def NB1 (b : Nat) (v : Value) : Prop := some b ≠ v.ownBlock
theorem NB1.after {b : Nat} {v v1 : Value} {W : World} (h : NB1 b v) (hat : v1.ownBlock = v.ownBlock ∨ ∃ q, v1.ownBlock = some q ∧ W.heap.size ≤ q) (ha : b < W.heap.size) : NB1 b v1 := by
  rcases hat with hat | ⟨q, hq, hle⟩
  · unfold NB1; rw [hat]; exact h
  · unfold NB1; rw [hq]; intro e; injection e with e; omega
set_option maxHeartbeats 16000000 in
set_option maxRecDepth 100000 in
theorem impl_leaves.to (A0 : Option Addr) (c0 : Nat) (l0 : List Acc) (d c : Int) (g : Nat) (w : World) (hr0 : Kd.C k43 w A0 l0.length l0) (hl : l0.length ≤ 1048576) (hg : w.heap[g]? = some (.cells #[.int .i64 4, .int .i64 5] 3 (0, 0))) :
    Calls Try.prog 19 #[.agg #[.slice A0 l0.length c0, .int .i64 d, .int .i64 c], .slice (some ⟨g, 0, none⟩) 2 2] w fun e w' => ∃ v : Value, e = .returned v ∧ Kd.R (Kd.int .i64) 3 w' w.heap.size (fun _ => True) v (leavesUpto l0 l0.length) ∧ Below w.heap.size w w' := by
  have H0 := Aside0.mk hr0
  have HG := Aside0.mk hg
  have HGW := Aside0.mk (blk_lt hg)
  have HB := Aside0.mk (below_alloc (Below.refl w.heap.size w) (.cells #[.slice A0 l0.length c0, .int .i64 d, .int .i64 c] 57))
  clear hr0 hg
  go_enter Try.func19, Try.ntmps19
  go_wp2_with (first | ((with_reducible refine gate_dst (N := 10) rfl ?_); refine Kd.R_lit (Kd.int .i64) _ 3 ?hg (N := 10) ?hd (xs := ([] : List Int)) (inner := []) (ok := fun _ => True) (okp := fun _ => True) ?hr ?hp (fun _ hk => hk) trivial (Below.refl _ _) (Nat.le_refl _) (by simp) ?_; (case hd => rfl); (case hg => rfl); (case hr => first | (go_simp; done) | (go_simp; rfl)); (case hp => exact (Reps.none _ _)); intro v1 w1 ho hb hg hnew; have RR := Aside0.mk (Kd.R_lower (Kd.R_mono (ok' := fun k => w.heap.size < k) (Kd.R_bound ho) (fun k hk => by have := hk.2.1; simp at this; omega)) (HB.out.size)); have f0 : w1.cell? ⟨w.heap.size, 0, none⟩ = some (.slice A0 l0.length c0) := pw_cell_below hb (by go_simp); have HB1 := Aside0.mk (below_into (w := w) hb HB.out); clear ho hb hg hnew))
  have F0 := Aside0.mk f0
  clear HB f0
  go_loopw [15, 5] (fun u v wr => ∃ n : Nat, n ≤ l0.length ∧ u = .int .i64 n ∧ Aside0 (Kd.R (Kd.int .i64) 3 wr w.heap.size (fun k => w.heap.size < k) v (leavesUpto l0 n)) ∧ Aside0 (Below w.heap.size w wr) ∧ Aside0 (wr.cell? ⟨w.heap.size, 0, none⟩ = some (.slice A0 l0.length c0))) (fun u _ _ => (l0.length - (intOf u).toNat))
  case atStart => exact ⟨0, by omega, rfl, RR, HB1, F0⟩
  case round =>
    clear RR HB1 F0
    obtain ⟨n, hn, rfl, RR, HB, F0⟩ := hrel
    have f0 := F0.out
    have z0 := World.block_lt_of_cell? _ _ f0
    by_cases hlt : n < l0.length
    case neg =>
      have hn2 : n = l0.length := by omega
      have RR' := Aside0.mk (show Kd.R (Kd.int .i64) 3 wr w.heap.size (fun k => w.heap.size < k) _ (leavesUpto l0 l0.length) from hn2 ▸ RR.out)
      clear hn2
      go_wp2_with fail
      go_ret
      exact ⟨_, rfl, Kd.R_mono RR'.out (fun _ _ => trivial), HB.out⟩
    have hin : ((n : Nat) : Int) < (l0.length : Int) := by omega
    obtain ⟨ad, e0, x0, x1, x2⟩ := at_T43 (Kd.C_below H0.out HB.out) n (by omega) hin
    cases e0
    simp only [Int.toNat_natCast] at x0 x1 x2
    have hkd : (rd_T43 l0 (n : Int)).f2 = knd l0 n := rfl
    have hl1 := leavesUpto_len l0 n
    have HC0 := Aside0.mk (Kd.C_below H0.out HB.out)
    have HK := Aside0.mk hkd
    have HG1 := Aside0.mk (blk_below HG.out HB.out)
    clear hkd
    generalize (rd_T43 l0 (n : Int)).f0 = y0 at *
    generalize (rd_T43 l0 (n : Int)).f1 = y1 at *
    have hab := below_alloc (Below.refl wr.heap.size wr) (.cells #[.string y0, .int .i64 y1, .int .i64 (rd_T43 l0 (n : Int)).f2] 43)
    have HR1 := Aside0.mk (Kd.R_alloc RR.out (.cells #[.string y0, .int .i64 y1, .int .i64 (rd_T43 l0 (n : Int)).f2] 43))
    have NB := Aside0.mk (show NB1 wr.heap.size _ from fun e => by have := Kd.R_lt RR.out _ e.symm; omega)
    have HBX := Aside0.mk (below_into (w := w) hab HB.out)
    have F1 := Aside0.mk (pw_cell_below hab f0)
    have G1 := Aside0.mk (blk_below HG1.out hab)
    have YC := Aside0.mk (show (wr.alloc (.cells #[.string y0, .int .i64 y1, .int .i64 (rd_T43 l0 (n : Int)).f2] 43)).cell? ⟨wr.heap.size, 2, none⟩ = some (.int .i64 (rd_T43 l0 (n : Int)).f2) from by go_simp)
    have ZW := Aside0.mk (show wr.heap.size < (wr.alloc (.cells #[.string y0, .int .i64 y1, .int .i64 (rd_T43 l0 (n : Int)).f2] 43)).heap.size from by simp)
    generalize (rd_T43 l0 (n : Int)).f2 = kk at *
    obtain rfl : kk = knd l0 n := HK.out
    clear hab f0 HK HG1
    go_wp2_with fail
    generalize hb1 : wr.heap.size = b1 at *
    go_loopw [22, 5] (fun u v wq => ∃ j : Nat, j ≤ 2 ∧ u = .int .i64 j ∧ Aside0 (Kd.R (Kd.int .i64) 3 wq w.heap.size (fun k => w.heap.size < k) v (leavesUpto l0 n ++ leafExt l0 n j)) ∧ Aside0 (NB1 b1 v) ∧ Aside0 (Below w.heap.size w wq) ∧ Aside0 (wq.cell? ⟨w.heap.size, 0, none⟩ = some (.slice (some ad) l0.length c0)) ∧ Aside0 (wq.cell? ⟨b1, 2, none⟩ = some (.int .i64 (knd l0 n))) ∧ Aside0 (wq.heap[g]? = some (.cells #[.int .i64 4, .int .i64 5] 3 (0, 0)))) (fun u _ _ => (2 - (intOf u).toNat))
    case atStart => exact ⟨0, by omega, rfl, ⟨by rw [leafExt_0, List.append_nil]; exact HR1.out⟩, NB, HBX, F1, YC, G1⟩
    case round =>
      clear HR1 NB HBX F1 YC G1 RR HB F0 x0 x1 x2 ZW z0
      obtain ⟨j, hj, rfl, RR, NB, HB, F0, YC, G1⟩ := hrel
      have hj3 : j = 0 ∨ j = 1 ∨ j = 2 := by omega
      rcases hj3 with rfl | rfl | rfl
      · have q0 : wr.cell? ⟨g, 0, none⟩ = some (.int .i64 4) := (blk_cell G1.out 0).trans rfl
        have yc := YC.out
        have f0 := F0.out
        by_cases hk : knd l0 n = 4
        case neg =>
          have kb : (knd l0 n == 4) = false := beq_eq_false_iff_ne.2 hk
          have HE := Aside0.mk (show leafExt l0 n 1 = leafExt l0 n 0 from by rw [leafExt_0, leafExt_1n (fun q => hk q.2)])
          clear hk
          go_wp2_with fail
          go_roundw
          case rel => exact ⟨1, by omega, rfl, ⟨by rw [HE.out]; exact RR.out⟩, NB, HB, F0, YC, G1⟩
          case measure => simp [intOf]
        case pos =>
          have kb : (knd l0 n == 4) = true := by rw [hk]; rfl
          have HKK := Aside0.mk hk
          clear hk
          cases hlf : leafB l0 n with
          | false =>
            have HE := Aside0.mk (show leafExt l0 n 1 = leafExt l0 n 0 from by rw [leafExt_0, leafExt_1n (fun q => by rw [hlf] at q; cases q.1)])
            have HLF := Aside0.mk hlf
            clear hlf
            go_wp2_with fail
            refine (impl_leafAt.to (some ad) c0 l0 n _ (Kd.C_below H0.out HB.out)).mono ?_
            rintro x w' ⟨rfl, rfl⟩
            rw [HLF.out]
            go_wp2_with fail
            go_roundw
            case rel => exact ⟨1, by omega, rfl, ⟨by rw [HE.out]; exact RR.out⟩, NB, HB, F0, YC, G1⟩
            case measure => simp [intOf]
          | true =>
            have HE := Aside0.mk (show leavesUpto l0 n ++ leafExt l0 n 1 = (leavesUpto l0 n ++ leafExt l0 n 0) ++ [(n : Int)] from by rw [leafExt_0, List.append_nil, leafExt_1y ⟨hlf, HKK.out⟩])
            have HLF := Aside0.mk hlf
            have hln : (leavesUpto l0 n ++ leafExt l0 n 0).length ≤ 1048577 := by have := leafExt_len l0 n 0; rw [List.length_append]; omega
            have HLN := Aside0.mk hln
            clear hlf hln
            go_wp2_with fail
            refine (impl_leafAt.to (some ad) c0 l0 n _ (Kd.C_below H0.out HB.out)).mono ?_
            rintro x w' ⟨rfl, rfl⟩
            rw [HLF.out]
            have zf := World.block_lt_of_cell? _ _ f0
            have zy := World.block_lt_of_cell? _ _ yc
            go_wp2_with (first | ((with_reducible refine gate_builtin (b := .append) (xs := #[.tmp 37, .tmp 39]) rfl ?_); at_builtin; refine Kd.R_append (Kd.int .i64) (w0 := w) w.heap.size rfl (.tmp 37) (.tmp 39) 47 3 (.int .i64 0) 8 rfl Try.underlying47 info3 rfl (by decide) (by omega) _ (leavesUpto l0 n ++ leafExt l0 n 0) (n : Int) [.int .i64 (n : Int)] (fun k => w.heap.size < k) (fun _ => False) rfl rfl rfl (fun _ hk => hk.elim) (fun k hk => by omega) RR.out HB.out HB.out.size (by have := HLN.out; omega) ?_; intro v7 wa ho hb hg hat; have F0' := Aside0.mk (cell_grown hg f0 (fun e => by have := RR.out.1 _ e.symm; simp at this)); have YC' := Aside0.mk (cell_grown hg yc NB.out); have NB' := Aside0.mk (NB.out.after hat zy); have G1' := Aside0.mk (blk_grown G1.out hg (fun e => by have := RR.out.1 _ e.symm; have := HGW.out; omega)); have RR' := Aside0.mk ho; have HB' := Aside0.mk hb; clear ho hb hg hat f0 yc q0 RR NB HB F0 YC G1 zf zy))
            go_roundw
            case rel => exact ⟨1, by omega, rfl, ⟨by rw [HE.out]; exact RR'.out⟩, NB', HB', F0', YC', G1'⟩
            case measure => simp [intOf]
      · have q0 : wr.cell? ⟨g, 1, none⟩ = some (.int .i64 5) := (blk_cell G1.out 1).trans rfl
        have yc := YC.out
        have f0 := F0.out
        by_cases hk : knd l0 n = 5
        case neg =>
          have kb : (knd l0 n == 5) = false := beq_eq_false_iff_ne.2 hk
          have HE := Aside0.mk (show leafExt l0 n 2 = leafExt l0 n 1 from leafExt_2n (fun q => hk q.2))
          clear hk
          go_wp2_with fail
          go_roundw
          case rel => exact ⟨2, by omega, rfl, ⟨by rw [HE.out]; exact RR.out⟩, NB, HB, F0, YC, G1⟩
          case measure => simp [intOf]
        case pos =>
          have kb : (knd l0 n == 5) = true := by rw [hk]; rfl
          have HKK := Aside0.mk hk
          clear hk
          cases hlf : leafB l0 n with
          | false =>
            have HE := Aside0.mk (show leafExt l0 n 2 = leafExt l0 n 1 from leafExt_2n (fun q => by rw [hlf] at q; cases q.1))
            have HLF := Aside0.mk hlf
            clear hlf
            go_wp2_with fail
            refine (impl_leafAt.to (some ad) c0 l0 n _ (Kd.C_below H0.out HB.out)).mono ?_
            rintro x w' ⟨rfl, rfl⟩
            rw [HLF.out]
            go_wp2_with fail
            go_roundw
            case rel => exact ⟨2, by omega, rfl, ⟨by rw [HE.out]; exact RR.out⟩, NB, HB, F0, YC, G1⟩
            case measure => simp [intOf]
          | true =>
            have HE := Aside0.mk (show leavesUpto l0 n ++ leafExt l0 n 2 = (leavesUpto l0 n ++ leafExt l0 n 1) ++ [(n : Int)] from by rw [leafExt_1of5 HKK.out, List.append_nil, leafExt_2y ⟨hlf, HKK.out⟩])
            have HLF := Aside0.mk hlf
            have hln : (leavesUpto l0 n ++ leafExt l0 n 1).length ≤ 1048577 := by have := leafExt_len l0 n 1; rw [List.length_append]; omega
            have HLN := Aside0.mk hln
            clear hlf hln
            go_wp2_with fail
            refine (impl_leafAt.to (some ad) c0 l0 n _ (Kd.C_below H0.out HB.out)).mono ?_
            rintro x w' ⟨rfl, rfl⟩
            rw [HLF.out]
            have zf := World.block_lt_of_cell? _ _ f0
            have zy := World.block_lt_of_cell? _ _ yc
            go_wp2_with (first | ((with_reducible refine gate_builtin (b := .append) (xs := #[.tmp 37, .tmp 39]) rfl ?_); at_builtin; refine Kd.R_append (Kd.int .i64) (w0 := w) w.heap.size rfl (.tmp 37) (.tmp 39) 47 3 (.int .i64 0) 8 rfl Try.underlying47 info3 rfl (by decide) (by omega) _ (leavesUpto l0 n ++ leafExt l0 n 1) (n : Int) [.int .i64 (n : Int)] (fun k => w.heap.size < k) (fun _ => False) rfl rfl rfl (fun _ hk => hk.elim) (fun k hk => by omega) RR.out HB.out HB.out.size (by have := HLN.out; omega) ?_; intro v7 wa ho hb hg hat; have F0' := Aside0.mk (cell_grown hg f0 (fun e => by have := RR.out.1 _ e.symm; simp at this)); have YC' := Aside0.mk (cell_grown hg yc NB.out); have NB' := Aside0.mk (NB.out.after hat zy); have G1' := Aside0.mk (blk_grown G1.out hg (fun e => by have := RR.out.1 _ e.symm; have := HGW.out; omega)); have RR' := Aside0.mk ho; have HB' := Aside0.mk hb; clear ho hb hg hat f0 yc q0 RR NB HB F0 YC G1 zf zy))
            go_roundw
            case rel => exact ⟨2, by omega, rfl, ⟨by rw [HE.out]; exact RR'.out⟩, NB', HB', F0', YC', G1'⟩
            case measure => simp [intOf]
      · have RR2 := Aside0.mk (show Kd.R (Kd.int .i64) 3 wr w.heap.size (fun k => w.heap.size < k) _ (leavesUpto l0 (n + 1)) from by have := RR.out; rw [leafExt_2] at this; exact this)
        go_wp2_with fail
        go_roundw
        case rel => exact ⟨n + 1, by omega, by go_num, RR2, HB, F0⟩
        case measure => simp [intOf]; omega
set_option maxHeartbeats 8000000 in
set_option maxRecDepth 100000 in
theorem impl_upTo.to (A : Option Addr) (cc : Nat) (es : List Ent) (h a d c tt : Int) (w : World) (hr : Kd.C k37 w A es.length es) (hn : es.length ≤ 1000) (hf : ∀ e ∈ es, entFine e) :
    Calls Try.prog 20 #[.agg #[.slice A es.length cc, .int .i64 h], .int .i64 a, .int .i64 d, .int .i64 c, .int .i64 tt] w fun e w' => e = .returned (.tuple #[.int .i64 (amtV a d c (-4611686018427387904) tt es), .int .i64 (basV a d c (-4611686018427387904) tt es)]) ∧ Below w.heap.size w w' := by
  have HR := Aside0.mk hr
  have HF := Aside0.mk hf
  have HB := Aside0.mk (below_alloc (Below.refl w.heap.size w) (.cells #[.slice A es.length cc, .int .i64 h] 59))
  clear hr hf
  have HC := Aside0.mk (fun W hC => impl_Balance.to A cc es h a d c (-4611686018427387904) tt W hC hn HF.out)
  generalize amtV a d c (-4611686018427387904) tt es = x1 at *
  generalize basV a d c (-4611686018427387904) tt es = x2 at *
  go_enter Try.func20, Try.ntmps20
  go_wp2_with fail
  refine (HC.out _ (Kd.C_below HR.out HB.out)).mono ?_
  rintro e w2 ⟨rfl, hb⟩
  have HB2 := Aside0.mk (below_into (w := w) hb HB.out)
  clear hb
  go_wp2_with fail
  go_ret2
  exact ⟨rfl, HB2.out⟩
set_option maxHeartbeats 8000000 in
set_option maxRecDepth 100000 in
theorem impl_open.to (A0 : Option Addr) (n0 c0 : Nat) (d c : Int) (A1 : Option Addr) (n1 c1 : Nat) (h : Int) (A2 : Option Addr) (n2 c2 : Nat) (a b : Int) (w : World) :
    Calls Try.prog 18 #[.agg #[.slice A0 n0 c0, .int .i64 d, .int .i64 c, .slice A1 n1 c1, .int .i64 h, .slice A2 n2 c2, .int .i64 a, .int .i64 b]] w fun e w' => e = .returned (.agg #[.slice A0 n0 c0, .int .i64 d, .int .i64 c, .slice A1 n1 c1, .int .i64 h, .slice A0 n0 c0, .int .i64 d, .int .i64 c, .slice A1 n1 c1, .int .i64 h, .slice A2 n2 c2, .int .i64 a, .int .i64 b]) ∧ Below w.heap.size w w' := by
  go_enter Try.func18, Try.ntmps18
  go_wp2_with fail
  refine bodyPost_ret (results_cell_row rfl _ _ (w.heap.size + 1) 61 #[.slice A0 n0 c0, .int .i64 d, .int .i64 c, .slice A1 n1 c1, .int .i64 h, .slice A0 n0 c0, .int .i64 d, .int .i64 c, .slice A1 n1 c1, .int .i64 h, .slice A2 n2 c2, .int .i64 a, .int .i64 b] (0, 0) _ rfl (by have := blk_new (w.alloc (.cells #[.slice A0 n0 c0, .int .i64 d, .int .i64 c, .slice A1 n1 c1, .int .i64 h, .slice A2 n2 c2, .int .i64 a, .int .i64 b] 32)) (.cells #[.slice A0 n0 c0, .int .i64 d, .int .i64 c, .slice A1 n1 c1, .int .i64 h, .slice A0 n0 c0, .int .i64 d, .int .i64 c, .slice A1 n1 c1, .int .i64 h, .slice A2 n2 c2, .int .i64 a, .int .i64 b] 61); simpa using this) Try.underlying61 rfl (by kernel_rfl)) rfl ?_
  exact ⟨rfl, below_two w _ _⟩
end Go.Proofs.Ytjnibbkjoclboaa.Q
namespace Go.Proofs.Ytjnibbkjoclboaa.Q
open Go.RowKit Go.Proofs.YtjnibbkjoclboaaW.PrintWords Go.Proofs.YtjnibbkjoclboaaW.PrintLast Go.Proofs.YtjnibbkjoclboaaW.PrintMore
set_option linter.unusedVariables false
set_option linter.unusedSimpArgs false
set_option maxHeartbeats 8000000 in
set_option maxRecDepth 100000 in
theorem spec_l4DrawChart.e (w0 w : World) (g : Nat) (c : List Int) (m : Int) (hI : Cur w0 w g c) (hB : Below w0.heap.size w0 w) (hc : c.length ≤ 1048576) (hm : 0 < m) (hm7 : m ≤ 7) :
    Calls Try.prog 53 #[.pointer (some ⟨g, 0, none⟩), .int .i64 m] w fun e w' => ∃ (v : Value) (l : List Acc), e = .returned v ∧ Kd.R k43 43 w' w.heap.size (fun _ => True) v l ∧ (goodChart l ∧ 3 ≤ l.length) ∧ Drew w0 w w' g c := by
  have HL := hB.size
  have D0 := Aside0.mk (Drew.refl hI hB)
  clear hI hB
  go_enter Try.func53, Try.ntmps53
  go_wp2_with (first | ((with_reducible refine gate_dst (N := 12) rfl ?_); refine Kd.R_lit k43 _ 43 ?hg (N := 12) ?hd (xs := ([] : List (S43))) (inner := []) (ok := fun _ => True) (okp := fun _ => True) ?hr ?hp (fun _ hk => hk) trivial (Below.refl _ _) (Nat.le_refl _) (by simp) ?_; (case hd => rfl); (case hg => rfl); (case hr => first | (go_simp; done) | (go_simp; rfl)); (case hp => exact (Reps.none _ _)); intro v5 w4 ho hb hg_ hnew_; clear hg_ hnew_; have D1 := Aside0.mk (D0.out.below hb); have R1 := Aside0.mk (Kd.R_mono (D1.out.cur.apart ho (by decide)) (ok' := fun k => k ≠ g) (fun _ hk => hk.2)); clear hb ho))
  refine (spec_l1Below.e m D1.out.cur D1.out.bel hc (by omega)).mono ?_
  rintro x w5 ⟨r, rfl, ⟨r0, r1, _⟩, hD⟩
  have D2 := Aside0.mk (D1.out.call hD)
  have R2 := Aside0.mk (hD.R R1.out (fun _ hk => hk))
  have hr := r1 hm
  clear D0 D1 R1 hD r1
  have GC := Aside0.mk goodChart_nil
  go_wp2_with fail
  go_loopg [5, 6] (3 + r).toNat (fun kq v5 v6 W => ∃ (n : Int) (l : List Acc), v6 = .int .i64 n ∧ 0 ≤ n ∧ kq = n.toNat ∧ (l.length : Int) + n = 3 + r ∧ Aside0 (k43.R 43 W w.heap.size (fun k => k ≠ g) v5 l) ∧ Aside0 (goodChart l) ∧ Aside0 (Drew w0 w W g c))
  case atStart => exact ⟨3 + r, [], rfl, by omega, rfl, by simp, R2, GC, D2⟩
  case round =>
    clear R2 GC D2
    obtain ⟨n, l, rfl, n0, hk, hln, RO, GC, D⟩ := hrel
    obtain ⟨A5, c5, rfl⟩ := Kd.R_slice RO.out
    by_cases hn : n > 0
    · obtain ⟨q0, rfl⟩ : ∃ q, gk = q + 1 := ⟨gk - 1, by omega⟩
      have hl10 : l.length < 10 := by omega
      go_wp2_with fail
      refine (spec_l1DrawName.e D.out.cur D.out.bel hc).mono ?_
      rintro x w6 ⟨s, rfl, hs, hD⟩
      replace RO := Aside0.mk (hD.R RO.out (fun _ hk => hk))
      replace D := Aside0.mk (D.out.call hD)
      clear hD
      go_wp2_with fail
      refine (spec_l1Below.e 5 D.out.cur D.out.bel hc (by omega)).mono ?_
      rintro x w7 ⟨kd, rfl, ⟨kd0, kd1, _⟩, hD⟩
      replace RO := Aside0.mk (hD.R RO.out (fun _ hk => hk))
      replace D := Aside0.mk (D.out.call hD)
      have kd2 := kd1 (by omega)
      clear hD kd1
      have hb := below_alloc (Below.refl w7.heap.size w7) (Obj.cells #[.string s, .int .i64 (-1), .int .i64 (1 + kd)] 43)
      have BK := Aside0.mk (blk_new w7 (Obj.cells #[.string s, .int .i64 (-1), .int .i64 (1 + kd)] 43))
      have GB := D.out.size
      have NB := Nat.ne_of_gt D.out.cur.lt
      replace RO := Aside0.mk (Kd.R_below (Kd.R_mono (ok' := fun k => k ≠ g ∧ k ≠ w7.heap.size) (Kd.R_bound RO.out) (fun k hk => ⟨hk.1, by have := hk.2.2.1; omega⟩)) hb)
      replace D := Aside0.mk (D.out.below hb)
      clear hb
      go_wp2_with fail
      generalize w7.alloc (Obj.cells #[.string s, .int .i64 (-1), .int .i64 (1 + kd)] 43) = w8 at *
      have hs' : s.size ≤ 100 := by omega
      clear hs
      go_loopg [9] l.length (fun kq v9 W => ∃ (k : Int) (s' : ByteArray), v9 = .int .i64 k ∧ 0 ≤ k ∧ k ≤ (l.length : Int) ∧ kq + k.toNat = l.length ∧ s'.size ≤ 100 ∧ Aside0 (W.heap[w7.heap.size]? = some (.cells #[.string s', .int .i64 (-1), .int .i64 (1 + kd)] 43 (0, 0))) ∧ Aside0 (k43.R 43 W w.heap.size (fun k => k ≠ g ∧ k ≠ w7.heap.size) (.slice A5 l.length c5) l) ∧ Aside0 (Drew w0 w W g c))
      case atStart => exact ⟨0, s, rfl, by omega, by omega, by simp, hs', BK, RO, D⟩
      case round =>
        clear BK RO D hs'
        obtain ⟨k, s, rfl, k0, k1, hkk, hs, BK, RO, D⟩ := hrel
        by_cases hkl : k < (l.length : Int)
        · obtain ⟨q, rfl⟩ : ∃ q, gk = q + 1 := ⟨gk - 1, by omega⟩
          obtain ⟨ad, e0, x0, x1, x2⟩ := at_T43 (Kd.R_reads' RO.out).2.2 k k0 hkl
          subst e0
          have y0 : wr.cell? ⟨w7.heap.size, 0, none⟩ = some (.string s) := (blk_cell BK.out 0).trans rfl
          clear x1 x2
          go_wp2_with fail
          go_quiet (fail)
          go_wp2_with fail
          · refine (spec_l1Text.to l.length (l.length : Int) _ (by omega) (by omega) (by omega)).mono ?_
            rintro x w9 ⟨rfl, hd⟩
            have hsz := decT_size l.length
            replace BK := Aside0.mk (blk_below (o := .cells #[.string s, .int .i64 (-1), .int .i64 (1 + kd)] 43 (0, 0)) (blk_drewN BK.out _) hd.below)
            replace RO := Aside0.mk (Kd.R_below (Kd.R_drewN RO.out _) hd.below)
            replace D := Aside0.mk ((D.out.drewN _).below hd.below)
            have y0 : w9.cell? ⟨w7.heap.size, 0, none⟩ = some (.string s) := (blk_cell BK.out 0).trans rfl
            have y1 : w9.frozen? ⟨w7.heap.size, 0, none⟩ = false := blk_frozen BK.out 0
            clear hd x0
            go_wp2_with fail
            go_roundg q
            case rel =>
              refine ⟨k + 1, _, by go_num, by omega, by omega, by omega, ?_, ⟨blk_set BK.out 0 _⟩, ⟨Kd.R_far (p := ⟨w7.heap.size, 0, none⟩) RO.out (fun _ hk => hk.2) _⟩, ⟨D.out.set (p := ⟨w7.heap.size, 0, none⟩) HL GB NB _⟩⟩
              rw [ByteArray.size_append]
              show 1 + _ ≤ 100
              omega
            case measure => omega
          · go_roundg q
            case rel => exact ⟨k + 1, s, by go_num, by omega, by omega, by omega, hs, ⟨blk_drewN BK.out _⟩, ⟨Kd.R_drewN RO.out _⟩, ⟨D.out.drewN _⟩⟩
            case measure => omega
        · have hke : k = (l.length : Int) := by omega
          clear hkk k0 k1 hkl
          subst hke
          go_upto_region 12 with fail
          go_cut [52] (fun v52 W => ∃ b : Bool, v52 = .bool b ∧ (b = true → 0 < l.length) ∧ Aside0 (W.heap[w7.heap.size]? = some (.cells #[.string s, .int .i64 (-1), .int .i64 (1 + kd)] 43 (0, 0))) ∧ Aside0 (k43.R 43 W w.heap.size (fun k => k ≠ g ∧ k ≠ w7.heap.size) (.slice A5 l.length c5) l) ∧ Aside0 (Drew w0 w W g c))
          case first =>
            by_cases h0 : 0 < l.length
            · go_wp2_with fail
              refine (spec_l1Once.e 3 D.out.cur D.out.bel hc (by omega)).mono ?_
              rintro x w9 ⟨b, rfl, hD⟩
              replace BK := Aside0.mk (hD.blk BK.out NB)
              replace RO := Aside0.mk (hD.R RO.out (fun _ hk => hk.1))
              replace D := Aside0.mk (D.out.call hD)
              clear hD
              go_wp2_with fail
              go_meet
              exact ⟨!b, rfl, fun _ => h0, BK, RO, D⟩
            · have h0' : l.length = 0 := by omega
              go_wp2_with fail
              go_meet
              exact ⟨false, rfl, (fun h => by cases h), BK, RO, D⟩
          case rest =>
            clear BK RO D
            obtain ⟨b, rfl, hb0, BK, RO, D⟩ := hcut
            go_upto_if 52 with fail
            go_cut [] (fun W => ∃ (p kk : Int), p < (l.length : Int) ∧ Aside0 (W.heap[w7.heap.size]? = some (.cells #[.string s, .int .i64 p, .int .i64 kk] 43 (0, 0))) ∧ Aside0 (k43.R 43 W w.heap.size (fun k => k ≠ g ∧ k ≠ w7.heap.size) (.slice A5 l.length c5) l) ∧ Aside0 (Drew w0 w W g c))
            case first =>
              cases b
              · go_wp2_with fail
                go_meet
                exact ⟨-1, 1 + kd, by omega, BK, RO, D⟩
              · have h0 := hb0 rfl
                go_wp2_with fail
                refine (spec_l1Below.e 3 D.out.cur D.out.bel hc (by omega)).mono ?_
                rintro x w9 ⟨u, rfl, ⟨u0, u1, _⟩, hD⟩
                have u2 := u1 (by omega)
                replace BK := Aside0.mk (hD.blk BK.out NB)
                replace RO := Aside0.mk (hD.R RO.out (fun _ hk => hk.1))
                replace D := Aside0.mk (D.out.call hD)
                clear hD
                go_wp2_with fail
                go_loopg [10, 11] u.toNat (fun kq v10 v11 W => ∃ (on up : Int), v10 = .int .i64 on ∧ 0 ≤ on ∧ on < (l.length : Int) ∧ v11 = .int .i64 up ∧ 0 ≤ up ∧ up ≤ 3 ∧ kq = up.toNat ∧ Aside0 (W.heap[w7.heap.size]? = some (.cells #[.string s, .int .i64 (-1), .int .i64 (1 + kd)] 43 (0, 0))) ∧ Aside0 (k43.R 43 W w.heap.size (fun k => k ≠ g ∧ k ≠ w7.heap.size) (.slice A5 l.length c5) l) ∧ Aside0 (Drew w0 w W g c))
                case atStart => exact ⟨(l.length : Int) - 1, u, by go_num, by omega, by omega, rfl, u0, by omega, rfl, BK, RO, D⟩
                case round =>
                  clear BK RO D u0 u1 u2
                  obtain ⟨on, up, rfl, o0, o1, rfl, up0, up3, hup, BK, RO, D⟩ := hrel
                  obtain ⟨ad, e0, x0, x1, x2⟩ := at_T43 (Kd.R_reads' RO.out).2.2 on o0 o1
                  have hlt := GC.out.2.2 on o0 o1
                  have HLT := Aside0.mk hlt
                  subst e0
                  clear x0 x2 hlt
                  by_cases hu : up > 0
                  · obtain ⟨q, rfl⟩ : ∃ q, gk = q + 1 := ⟨gk - 1, by omega⟩
                    by_cases hp : 0 ≤ (rd_T43 l on).f1
                    · go_wp2_with fail
                      go_roundg q
                      case rel => exact ⟨(rd_T43 l on).f1, up - 1, rfl, hp, Int.lt_trans HLT.out o1, by go_num, by omega, by omega, by omega, BK, RO, D⟩
                      case measure => omega
                    · have hp' : (rd_T43 l on).f1 < 0 := by omega
                      clear HLT hp
                      go_wp2_with fail
                      refine (spec_l4Deep.to _ c5 l on _ (Kd.R_reads' RO.out).2.2 o0 o1 (by omega) (goodChart_deep GC.out o1)).mono ?_
                      rintro x w' ⟨rfl, rfl⟩
                      by_cases hdp : deepAt l on < 8
                      · obtain ⟨ad, e0, x0, x1, x2⟩ := at_T43 (Kd.R_reads' RO.out).2.2 on o0 o1
                        cases e0
                        have y1 := blk_frozen BK.out 1
                        have y2 := blk_frozen BK.out 2
                        have z1 := (blk_cell BK.out 1).trans rfl
                        have z2 := (blk_cell BK.out 2).trans rfl
                        have x2' := (blk_far BK.out (p := ad.add (on.toNat * 3 + 2)))
                        clear x0 x1 x2'
                        go_wp2_with fail
                        go_meet
                        exact ⟨on, (rd_T43 l on).f2, o1, ⟨blk_set (blk_set BK.out 1 _) 2 _⟩, ⟨Kd.R_far (p := ⟨w7.heap.size, 2, none⟩) (Kd.R_far (p := ⟨w7.heap.size, 1, none⟩) RO.out (fun _ hk => hk.2) _) (fun _ hk => hk.2) _⟩, ⟨(D.out.set (p := ⟨w7.heap.size, 1, none⟩) HL GB NB _).set (p := ⟨w7.heap.size, 2, none⟩) HL GB NB _⟩⟩
                      · go_wp2_with fail
                        go_meet
                        exact ⟨-1, 1 + kd, by omega, BK, RO, D⟩
                  · clear HLT
                    go_wp2_with fail
                    refine (spec_l4Deep.to _ c5 l on _ (Kd.R_reads' RO.out).2.2 o0 o1 (by omega) (goodChart_deep GC.out o1)).mono ?_
                    rintro x w' ⟨rfl, rfl⟩
                    by_cases hdp : deepAt l on < 8
                    · obtain ⟨ad, e0, x0, x1, x2⟩ := at_T43 (Kd.R_reads' RO.out).2.2 on o0 o1
                      cases e0
                      have y1 := blk_frozen BK.out 1
                      have y2 := blk_frozen BK.out 2
                      have z1 := (blk_cell BK.out 1).trans rfl
                      have z2 := (blk_cell BK.out 2).trans rfl
                      have x2' := (blk_far BK.out (p := ad.add (on.toNat * 3 + 2)))
                      clear x0 x1 x2'
                      go_wp2_with fail
                      go_meet
                      exact ⟨on, (rd_T43 l on).f2, o1, ⟨blk_set (blk_set BK.out 1 _) 2 _⟩, ⟨Kd.R_far (p := ⟨w7.heap.size, 2, none⟩) (Kd.R_far (p := ⟨w7.heap.size, 1, none⟩) RO.out (fun _ hk => hk.2) _) (fun _ hk => hk.2) _⟩, ⟨(D.out.set (p := ⟨w7.heap.size, 1, none⟩) HL GB NB _).set (p := ⟨w7.heap.size, 2, none⟩) HL GB NB _⟩⟩
                    · go_wp2_with fail
                      go_meet
                      exact ⟨-1, 1 + kd, by omega, BK, RO, D⟩
            case rest =>
              clear BK RO D
              obtain ⟨p, kk, hp, BK, RO, D⟩ := hcut
              have y0 := (blk_cell BK.out 0).trans rfl
              have y1 := (blk_cell BK.out 1).trans rfl
              have y2 := (blk_cell BK.out 2).trans rfl
              go_wp2_with (first | ((with_reducible refine gate_builtin (b := .append) (xs := #[.tmp 86, .tmp 88]) rfl ?_); at_builtin; refine Kd.R_append k43 w.heap.size rfl (.tmp 86) (.tmp 88) 24 43 (.agg #[(.string ⟨#[]⟩), (.int .i64 0), (.int .i64 0)]) 32 rfl Try.underlying24 info43 rfl (by decide) (by omega) (.slice A5 l.length c5) l (⟨s, p, kk⟩ : S43) [.string s, .int .i64 p, .int .i64 kk] (fun k_ => k_ ≠ g ∧ k_ ≠ w7.heap.size) (fun _ => False) rfl (by first | (go_simp; done) | (go_simp; rfl)) ?aP (fun _ hk => hk.elim) ?aF ?aO (Below.refl _ _) ?aS ?aL ?_; (case aP => exact k43_mkM _ _ _ (⟨s, p, kk⟩ : S43)); (case aF => exact fun k hk => ⟨by have := D.out.cur.lt; omega, by have := blk_lt BK.out; omega⟩); (case aO => exact RO.out); (case aS => exact D.out.size); (case aL => omega); intro v1 w1 ho hb hg hat; have RO2 := Aside0.mk ho; have D2 := Aside0.mk (D.out.grown HL hg (fun k hk => ⟨Kd.R_base RO.out k hk, (RO.out.1 k hk).1⟩)); clear ho hb hg hat y0 y1 y2))
              go_roundg q0
              case rel => exact ⟨n - 1, l ++ [⟨s, p, kk⟩], by go_num, by omega, by omega, by simp; omega, ⟨Kd.R_mono RO2.out (fun _ hk => hk.1)⟩, ⟨goodChart_snoc GC.out hl10 hs hp⟩, D2⟩
              case measure => omega
    · have hn0 : n = 0 := by omega
      subst hn0
      go_wp2_with fail
      go_ret
      exact ⟨_, rfl, l, Kd.R_mono RO.out (fun _ _ => trivial), ⟨GC.out, by omega⟩, D.out⟩
end Go.Proofs.Ytjnibbkjoclboaa.Q
