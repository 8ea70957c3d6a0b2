/- Parts of the proof: what functions of the program and of the reference answer.
   No condition. -/
import Derived.Test.YtphmnkcfjgallaaZC1
namespace Go.Proofs.Ytphmnkcfjgallaa.Q
open Go.RowKit Go.Proofs.YtphmnkcfjgallaaW.PrintWords Go.Proofs.YtphmnkcfjgallaaW.PrintLast Go.Proofs.YtphmnkcfjgallaaW.PrintMore
attribute [local go_sem] max2_int min2_int max_two min_two max_three min_three max_four min_four   -- for this text's walks alone
set_option linter.unusedVariables false
set_option linter.unusedSimpArgs false

/-! ### hand text b1_depths.lean -/
def ArrAt (w : World) (g n : Nat) (d : Int → Int) : Prop := ∃ cur : Array Value, w.heap[g]? = some (.cells cur 3 (0, 0)) ∧ n ≤ cur.size ∧ ∀ j : Int, 0 ≤ j → j < n → cur[j.toNat]? = some (.int .i64 (d j))
theorem zero3 (w : World) : (zeroValue 3).run Try.prog w = .ok (.int .i64 0) w := by kernel_rfl
noncomputable def strK : HMap.KeyK Try.prog 9 ByteArray := HMap.strKey Try.underlying9
theorem wr_var {wr w2 : World} {c : Array Value} {t b : Nat} (hg : (wr.alloc (.cells c t)).grownBy w2 (some b)) (hb : b < wr.heap.size) : w2.heap[wr.heap.size]? = some (.cells c t (0, 0)) :=
  (hg.block wr.heap.size (by simp) (by intro e; injection e with e; omega)).trans (blk_new wr _)
theorem dep_ret {v : Value} {b c : Bool} (h : b = c) : Ending.returned (.tuple #[v, .bool b]) = Ending.returned (.tuple #[v, .bool c]) := by rw [h]
def DepPost (w : World) (b : Bool) (e : Ending) (w' : World) : Prop := ∃ v0_ : Value, e = .returned (.tuple #[v0_, .bool b]) ∧ Below w.heap.size w w'
structure DepInv (chart : List Acc) (w wr : World) (gm gd : Nat) (i : Int) : Prop where
  map : ∃ f : ByteArray → Option Int, HMap.MapIs Try.prog 9 3 strK wr gm i.toNat f ∧ ∀ s, (f s).isSome = true ↔ ∃ j : Int, 0 ≤ j ∧ j < i ∧ code chart j = s
  arr : ArrAt wr gd chart.length (fun j => if j < i then deepAt chart j else 0)
  rows : rowsOk chart i
  bel : Below w.heap.size w wr
  gm0 : w.heap.size ≤ gm
  gd0 : w.heap.size ≤ gd
theorem arr_of_own {w : World} {base g n : Nat} (h : w.ownsRow base 3 1 (.slice (some ⟨g, 0, none⟩) n n) n (madeCells (Value.int .i64 0).cells (n * 1)).toList) : ArrAt w g n (fun _ => 0) := by
  obtain ⟨hl, h⟩ := h
  rcases h with ⟨h, _⟩ | ⟨g', cap, cur, hv, _, hh, hn, _, hs, ht⟩
  · simp at h
  · simp only [Value.slice.injEq, Option.some.injEq, Addr.mk.injEq] at hv
    obtain ⟨⟨rfl, _⟩, _, rfl⟩ := hv
    refine ⟨cur, hh, by omega, fun j h0 h1 => ?_⟩
    have e : (cur.toList.take (n * 1))[j.toNat]? = (madeCells (Value.int .i64 0).cells (n * 1)).toList[j.toNat]? := by rw [ht]
    rw [List.getElem?_take, if_pos (by omega)] at e
    rw [← Array.getElem?_toList, e]
    simp [madeCells, Value.cells]
    exact ⟨j.toNat, by rw [List.getElem?_range (by omega)], by simp [Nat.mod_one]⟩
theorem dep_blk {wr w2 : World} {c cur : Array Value} {t t' gm g : Nat} (hg : (wr.alloc (.cells c t)).grownBy w2 (some gm)) (hlt : g ≠ gm) (h : wr.heap[g]? = some (.cells cur t' (0, 0))) (hw : True) : w2.heap[g]? = some (.cells cur t' (0, 0)) :=
  (hg.block g (by have := blk_lt h; simp; omega) (by intro e; injection e with e; omega)).trans (blk_alloc h _)
theorem dep_zero' {chart : List Acc} {cur : Array Value} {i : Int} {n : Nat} (h : ∀ j : Int, 0 ≤ j → j < n → cur[j.toNat]? = some (.int .i64 ((fun j => if j < i then deepAt chart j else 0) j))) (hp : par chart i = -1) : ∀ j : Int, 0 ≤ j → j < n → cur[j.toNat]? = some (.int .i64 ((fun j => if j < i + 1 then deepAt chart j else 0) j)) := by
  intro j j0 j1
  rw [h j j0 j1]
  simp only
  by_cases e : j < i
  · rw [if_pos e, if_pos (by omega)]
  · rw [if_neg e]
    by_cases e2 : j = i
    · subst e2; rw [if_pos (by omega), deep_zero hp]
    · rw [if_neg (by omega)]
theorem dep_set {chart : List Acc} {cur : Array Value} {i : Int} {n : Nat} {v : Int} (h : ∀ j : Int, 0 ≤ j → j < n → cur[j.toNat]? = some (.int .i64 ((fun j => if j < i then deepAt chart j else 0) j))) (h0 : 0 ≤ i) (hn : i.toNat < cur.size) (hv : deepAt chart i = v + 1) : ∀ j : Int, 0 ≤ j → j < n → (cur.setIfInBounds i.toNat (.int .i64 (v + 1)))[j.toNat]? = some (.int .i64 ((fun j => if j < i + 1 then deepAt chart j else 0) j)) := by
  intro j j0 j1
  simp only
  rw [Array.getElem?_setIfInBounds]
  by_cases e : j = i
  · subst e
    rw [if_pos rfl, if_pos hn, if_pos (by omega), hv]
  · rw [if_neg (by omega), h j j0 j1]
    simp only
    by_cases e2 : j < i
    · rw [if_pos e2, if_pos (by omega)]
    · rw [if_neg e2, if_neg (by omega)]
theorem dep_next {chart : List Acc} {w wr w2 : World} {gm gd : Nat} {i : Int} {f : ByteArray → Option Int} (HI : DepInv chart w wr gm gd i) (hm2 : HMap.MapIs Try.prog 9 3 strK w2 gm (i.toNat + 1) (HMap.upd f (code chart i) i))
    (hf : ∀ s, (f s).isSome = true ↔ ∃ j : Int, 0 ≤ j ∧ j < i ∧ code chart j = s) (hB : Below w.heap.size w w2) (harr : ArrAt w2 gd chart.length (fun j => if j < i + 1 then deepAt chart j else 0)) (h0 : 0 ≤ i) (hr : rowOk chart i) : DepInv chart w w2 gm gd (i + 1) where
  map := ⟨_, by rw [show (i + 1).toNat = i.toNat + 1 by omega]; exact hm2, fun s => by
    by_cases e : s = code chart i
    · subst e
      rw [HMap.upd_same]
      exact ⟨fun _ => ⟨i, h0, by omega, rfl⟩, fun _ => rfl⟩
    · rw [HMap.upd_other _ _ e, hf]
      constructor
      · rintro ⟨j, j0, j1, j2⟩
        exact ⟨j, j0, by omega, j2⟩
      · rintro ⟨j, j0, j1, j2⟩
        by_cases e2 : j = i
        · subst e2; exact absurd j2.symm e
        · exact ⟨j, j0, by omega, j2⟩⟩
  arr := harr
  rows := rows_step h0 HI.rows hr
  bel := hB
  gm0 := HI.gm0
  gd0 := HI.gd0
set_option maxHeartbeats 8000000 in
set_option maxRecDepth 100000 in
theorem impl_depths.to (A0 : Option Addr) (c0 : Nat) (l0 : List Acc) (w : World) (hr0 : Kd.C k131 w A0 l0.length l0) (hs : ∀ x ∈ l0, x.f0.size ≤ maxLen) :
    Calls Try.prog 156 #[.slice A0 l0.length c0] w (DepPost w (chartOk l0)) := by
  have hl := hr0.2.1
  have H0 := Aside0.mk hr0
  have HS := Aside0.mk hs
  clear hr0 hs
  by_cases h1 : 1 ≤ l0.length
  · by_cases h2 : l0.length ≤ 120
    · have hmm := @run_makeMap Try.prog
      obtain ⟨i0, hi, hz0, hz1, hz2⟩ := info_parts (show (Try.prog.info? 3).map (fun i => (i.zero, i.size, i.bytes)) = some (some (.int .i64 0), 1, 8) by kernel_rfl)
      go_enter Try.func156, Try.ntmps156
      go_wp2_with (at_make; refine wpList_make_full _ rfl _ _ 46 rfl w.heap.size 3 i0 (.int .i64 0) 1 Try.underlying46 hi hz0 hz1 _ _ _ _ l0.length rfl rfl rfl rfl (by rw [hz2]; omega) (by unfold maxLen; omega) (by simp) ?_; intro w1 hown1 hgrow1)
      have hmap1 : HMap.MapIs Try.prog 9 3 strK w1 w.heap.size 0 (fun _ => none) := (HMap.MapIs.made w _ _ _ _).kept hgrow1 (by simp)
      have hI : DepInv l0 w w1 w.heap.size (w.heap.size + 1) 0 := ⟨⟨_, hmap1, fun s => ⟨fun h => by simp at h, fun ⟨j, h0, h1, _⟩ => by omega⟩⟩, by
        obtain ⟨cur, hc1, hc2, hc3⟩ := arr_of_own (g := w.heap.size + 1) (by simpa using hown1)
        exact ⟨cur, hc1, hc2, fun j h0 h1 => by rw [hc3 j h0 h1]; show _ = some (Value.int .i64 (if j < 0 then deepAt l0 j else 0)); rw [if_neg (by omega)]⟩, fun j h0 h1 => by omega, Below.grown (below_alloc (Below.refl w.heap.size w) (.map #[] 0)) hgrow1 (by simp) (fun j hj => by cases hj), Nat.le_refl _, by omega⟩
      have HI := Aside0.mk hI
      clear hI hmap1 hown1 hgrow1
      go_loopw [25] (fun v wr => ∃ i : Int, 0 ≤ i ∧ i ≤ (l0.length : Int) ∧ v = .int .i64 i ∧ Aside0 (DepInv l0 w wr w.heap.size (w.heap.size + 1) i)) (fun v _ => (l0.length - (intOf v).toNat))
      case atStart => exact ⟨0, by omega, by omega, rfl, HI⟩
      case round =>
        clear HI
        obtain ⟨i, hi0, hi1, rfl, HI⟩ := hrel
        by_cases hlt : i < (l0.length : Int)
        · obtain ⟨f, hf1, hf2⟩ := HI.out.map
          have HF := Aside0.mk hf1
          have HF2 := Aside0.mk hf2
          clear hf1 hf2
          obtain ⟨ad, e0, x0, x1, x2⟩ := at_T131 (Kd.C_below H0.out HI.out.bel) i hi0 hlt
          cases e0
          have HK := Aside0.mk (show strK.ok (code l0 i) from all_at (z := z131) (p := fun x => x.f0.size ≤ maxLen) hi0 hlt HS.out)
          have HWI := Aside0.mk (wf_of (n := i) (by omega))
          have hgm : w.heap.size < wr.heap.size := HF.out.lt
          obtain ⟨cur, hc1, hc2, hc3⟩ := HI.out.arr
          have HC1 := Aside0.mk hc1
          have HC3 := Aside0.mk hc3
          clear hc1 hc3
          have X := Aside0.mk (And.intro x0 (And.intro x1 x2))
          by_cases hfr : fresh l0 i
          · have hfs : (f (code l0 i)).isSome = false := by
              rw [Bool.eq_false_iff]
              intro h
              obtain ⟨j, h0, h1', h2'⟩ := (HF2.out _).1 h
              exact hfr j h0 h1' h2'
            have HFR := Aside0.mk hfr
            clear hfr
            go_wp2_with (at_lookup; refine HMap.wpList_look_ok (K := strK) (f := f) (b := w.heap.size) (n := i.toNat) rfl _ _ 196 rfl Try.underlying196 Try.underlying3 (zero3 _) rfl (by exact HF.out.alloc _) (code l0 i) rfl (by exact HK.out) ?_; intro c)
            refine (impl_NameOk.to (code l0 i) _).mono ?_
            rintro e w' ⟨rfl, rfl⟩
            cases hnm : nameOk (code l0 i) with
            | false =>
              go_wp2_with fail
              go_ret2
              exact ⟨_, dep_ret (by rw [chartOk_row hi0 hlt (fun q => by have := q.2.1; rw [hnm] at this; cases this)]), below_alloc HI.out.bel _⟩
            | true =>
              have HNM := Aside0.mk hnm
              clear hnm hfs
              go_wp2_with fail
              refine (impl_kindOk.to (knd l0 i) _).mono ?_
              rintro e w' ⟨rfl, rfl⟩
              cases hkd : inB (knd l0 i) 1 5 with
              | false =>
                go_wp2_with fail
                go_ret2
                exact ⟨_, dep_ret (by rw [chartOk_row hi0 hlt (fun q => inB_false.1 hkd q.2.2.1)]), below_alloc HI.out.bel _⟩
              | true =>
                have HKD := Aside0.mk hkd
                clear hkd
                by_cases hp : par l0 i = -1
                · have hpb : ((rd_T131 l0 i).f1 == -1) = true := by rw [show (rd_T131 l0 i).f1 = -1 from hp]; rfl
                  have HP := Aside0.mk hp
                  clear hp
                  go_wp2_with (at_mapUpdate; refine HMap.wpList_upd (K := strK) (f := f) (b := w.heap.size) (n := i.toNat) rfl _ _ _ 196 rfl Try.underlying196 Try.underlying3 rfl (by exact HF.out.alloc _) (by unfold maxLen; omega) (code l0 i) i rfl (by exact HK.out) rfl (by exact HWI.out) ?_; intro w2 hm2 hg2; have hb2 := wr_var (wr := wr) hg2 (by omega); have y0 := blk_cell hb2 0; have y1 := blk_cell hb2 1; have y2 := blk_cell hb2 2)
                  go_roundw
                  case rel => exact ⟨i + 1, by omega, by omega, rfl, ⟨dep_next HI.out hm2 HF2.out (Below.grown (below_alloc HI.out.bel _) hg2 (below_alloc HI.out.bel _).size (fun j hj => by cases hj; exact Nat.le_refl _)) ⟨cur, dep_blk hg2 (by omega) HC1.out trivial, hc2, fun j j0 j1 => dep_zero' HC3.out HP.out j j0 j1⟩ hi0 ⟨HFR.out, HNM.out, inB_true.1 HKD.out, Or.inl HP.out⟩⟩⟩
                  case measure => simp [intOf]; omega
                · have hpb : ((rd_T131 l0 i).f1 == -1) = false := beq_eq_false_iff_ne.2 hp
                  have HP := Aside0.mk hp
                  clear hp
                  go_wp2_with (at_mapUpdate; refine HMap.wpList_upd (K := strK) (f := f) (b := w.heap.size) (n := i.toNat) rfl _ _ _ 196 rfl Try.underlying196 Try.underlying3 rfl (by exact HF.out.alloc _) (by unfold maxLen; omega) (code l0 i) i rfl (by exact HK.out) rfl (by exact HWI.out) ?_; intro w2 hm2 hg2; have hb2 := wr_var (wr := wr) hg2 (by omega); have y0 := blk_cell hb2 0; have y1 := blk_cell hb2 1; have y2 := blk_cell hb2 2)
                  have HB2 := Aside0.mk (Below.grown (below_alloc HI.out.bel (.cells #[.string (rd_T131 l0 i).f0, .int .i64 (rd_T131 l0 i).f1, .int .i64 (rd_T131 l0 i).f2] 131)) hg2 (below_alloc HI.out.bel _).size (fun j hj => by cases hj; exact Nat.le_refl _))
                  have HD := Aside0.mk (dep_blk hg2 (by omega) HC1.out trivial)
                  have HM2 := Aside0.mk hm2
                  have hlo := Aside0.mk (rows_lo HI.out.rows)
                  have hpar := Aside0.mk (rows_par HI.out.rows)
                  clear hm2 hg2
                  go_loop [10] (fun v => ∃ k : Int, -1 ≤ k ∧ k < i ∧ v = .int .i64 k ∧ Aside0 (∀ n : Nat, k + 1 ≤ n → climb l0 (par l0 i) n k = up l0 i)) (fun v => (intOf v + 1).toNat)
                  case atStart => exact ⟨i - 1, by omega, by omega, rfl, ⟨fun n hn => climb_more l0 (par l0 i) i hpar.out _ _ _ (by omega) hn (by omega)⟩⟩
                  case round =>
                    obtain ⟨k, hk0, hk1, rfl, HCL⟩ := hrel
                    by_cases hk : 0 ≤ k
                    · obtain ⟨ad', e0, z0, z1, z2⟩ := at_T131 (Kd.C_below H0.out HB2.out) k hk (by omega)
                      obtain rfl : ad = ad' := by injection e0
                      by_cases hkp : k = par l0 i
                      · have hkb : (k != (rd_T131 l0 i).f1) = false := by rw [hkp]; exact bne_self_eq_false' _
                        have HU := Aside0.mk (climb_at (fun q => q.2 hkp) HCL.out)
                        clear hkp
                        have hkl : k < (l0.length : Int) := by omega
                        have hd := blk_cell HD.out k.toNat
                        rw [HC3.out k hk (by omega), if_pos hk1] at hd
                        by_cases hkd : knd l0 k = knd l0 i
                        · have hkdb : ((rd_T131 l0 k).f2 != (rd_T131 l0 i).f2) = false := by rw [show (rd_T131 l0 k).f2 = (rd_T131 l0 i).f2 from hkd]; exact bne_self_eq_false' _
                          have HKE := Aside0.mk hkd
                          clear hkd
                          by_cases hde : 8 ≤ deepAt l0 k
                          · go_wp2_with fail
                            go_quiet (fail)
                            go_wp2_with fail
                            go_ret2
                            exact ⟨_, dep_ret (by rw [chartOk_row hi0 hlt (fun q => by rcases q.2.2.2 with q | ⟨_, _, q⟩; exact HP.out q; rw [HU.out] at q; omega)]), pw_below_drewN HB2.out _⟩
                          · have hs := blk_cell HD.out i.toNat
                            rw [HC3.out i hi0 hlt, if_neg (by omega)] at hs
                            have hfz := blk_frozen HD.out i.toNat
                            have hd0 : 0 ≤ deepAt l0 k := anc_nonneg _ _ _
                            go_wp2_with fail
                            go_quiet (fail)
                            go_wp2_with fail
                            go_roundw
                            case rel => exact ⟨i + 1, by omega, by omega, rfl, ⟨dep_next HI.out ((HM2.out.drewN _).far (by simp) _) HF2.out (below_set (pw_below_drewN HB2.out _) (by simp)) ⟨_, blk_set (blk_drewN HD.out _) _ _, by simpa using hc2, fun j j0 j1 => dep_set HC3.out hi0 (by omega) (by rw [← HU.out]; exact deep_up HI.out.rows hi0 (by rw [HU.out]; exact hk)) j j0 j1⟩ hi0 ⟨HFR.out, HNM.out, inB_true.1 HKD.out, Or.inr ⟨by rw [HU.out]; exact hk, by rw [HU.out]; exact HKE.out, by rw [HU.out]; omega⟩⟩⟩⟩
                            case measure => simp [intOf]; omega
                        · have hkdb : ((rd_T131 l0 k).f2 != (rd_T131 l0 i).f2) = true := bne_iff_ne.2 hkd
                          have HKE := Aside0.mk hkd
                          clear hkd
                          go_wp2_with fail
                          go_quiet (fail)
                          go_wp2_with fail
                          go_ret2
                          exact ⟨_, dep_ret (by rw [chartOk_row hi0 hlt (fun q => by rcases q.2.2.2 with q | ⟨_, q, _⟩; exact HP.out q; rw [HU.out] at q; exact HKE.out q)]), pw_below_drewN HB2.out _⟩
                      · have hkb : (k != (rd_T131 l0 i).f1) = true := bne_iff_ne.2 hkp
                        have HKP := Aside0.mk hkp
                        clear hkp
                        have b1 := hlo.out k hk (by omega)
                        have b2 := hpar.out k hk (by omega)
                        go_wp2_with fail
                        go_round
                        case rel => exact ⟨par l0 k, b1, by omega, rfl, ⟨climb_go hpar.out hk hk1 HKP.out HCL.out⟩⟩
                        case measure => show (par l0 k + 1).toNat < (k + 1).toNat; omega
                    · have HU := Aside0.mk (climb_at (fun q => hk q.1) HCL.out)
                      go_wp2_with fail
                      go_quiet (fail)
                      go_wp2_with fail
                      go_ret2
                      exact ⟨_, dep_ret (by rw [chartOk_row hi0 hlt (fun q => by rcases q.2.2.2 with q | ⟨q, _⟩; exact HP.out q; rw [HU.out] at q; omega)]), pw_below_drewN HB2.out _⟩
          · have hfs : (f (code l0 i)).isSome = true := by
              rw [HF2.out]
              unfold fresh at hfr
              simp only [Classical.not_forall] at hfr
              obtain ⟨j, h0, h1', h2'⟩ := hfr
              exact ⟨j, h0, h1', Classical.not_not.1 h2'⟩
            go_wp2_with (at_lookup; refine HMap.wpList_look_ok (K := strK) (f := f) (b := w.heap.size) (n := i.toNat) rfl _ _ 196 rfl Try.underlying196 Try.underlying3 (zero3 _) rfl (by exact HF.out.alloc _) (code l0 i) rfl (by exact HK.out) ?_; intro c)
            go_ret2
            exact ⟨_, dep_ret (by rw [chartOk_row hi0 hlt (fun q => hfr q.1)]), below_alloc HI.out.bel _⟩
        · go_wp2_with fail
          go_ret2
          exact ⟨_, dep_ret (by rw [chartOk_all h1 h2 (by omega) HI.out.rows]), HI.out.bel⟩
    · go_enter Try.func156, Try.ntmps156
      go_wp2_with fail
      go_ret2
      exact ⟨_, dep_ret (by rw [chartOk_len (by omega)]), Below.refl _ _⟩
  · go_enter Try.func156, Try.ntmps156
    go_wp2_with fail
    go_ret2
    exact ⟨_, dep_ret (by rw [chartOk_len (by omega)]), Below.refl _ _⟩
theorem impl_depths.calls : True := trivial


end Go.Proofs.Ytphmnkcfjgallaa.Q
namespace Go.Proofs.Ytphmnkcfjgallaa.Q
open Go.RowKit Go.Proofs.YtphmnkcfjgallaaW.PrintWords Go.Proofs.YtphmnkcfjgallaaW.PrintLast Go.Proofs.YtphmnkcfjgallaaW.PrintMore
attribute [local go_sem] max2_int min2_int max_two min_two max_three min_three max_four min_four   -- for this text's walks alone
set_option linter.unusedVariables false
set_option linter.unusedSimpArgs false

/-! ### hand text a0b_impl_amount.lean -/
noncomputable def impl_amount.f (a0 : Int) : Option Bool := some (inB a0 (-100000000000) 100000000000)
set_option maxRecDepth 100000 in
theorem impl_amount.to (a : Int) (w : World) : Calls Try.prog 87 #[.int .i64 a] w fun e w' => e = .returned (.bool (inB a (-100000000000) 100000000000)) ∧ w' = w := by
  go_enter Try.func87, Try.ntmps87
  go_wp2_with fail
  refine (impl_between.to a (-100000000000) 100000000000 _).mono ?_
  rintro e w' ⟨rfl, rfl⟩
  go_wp2_with fail
  go_ret
  exact ⟨rfl, rfl⟩
theorem impl_amount.calls (a0 : Int) (r : Bool) (w : World) (h : impl_amount.f a0 = some r) :
    Calls Try.prog 87 #[.int .i64 a0] w fun e w' => e = .returned (.bool r) ∧ Drawn0 w w' := by
  obtain rfl := Option.some.inj h
  exact (impl_amount.to a0 w).mono fun e w' ⟨he, hw⟩ => ⟨he, hw ▸ Drawn0.refl _⟩


end Go.Proofs.Ytphmnkcfjgallaa.Q
namespace Go.Proofs.Ytphmnkcfjgallaa.Q
open Go.RowKit Go.Proofs.YtphmnkcfjgallaaW.PrintWords Go.Proofs.YtphmnkcfjgallaaW.PrintLast Go.Proofs.YtphmnkcfjgallaaW.PrintMore
attribute [local go_sem] max2_int min2_int max_two min_two max_three min_three max_four min_four   -- for this text's walks alone
set_option linter.unusedVariables false
set_option linter.unusedSimpArgs false

/-! ### hand text a0b_impl_isDay.lean -/
noncomputable def impl_isDay.f (a0 : Int) : Option Bool := some (inB a0 (0) 40000)
set_option maxRecDepth 100000 in
theorem impl_isDay.to (a : Int) (w : World) : Calls Try.prog 75 #[.int .i64 a] w fun e w' => e = .returned (.bool (inB a (0) 40000)) ∧ w' = w := by
  go_enter Try.func75, Try.ntmps75
  go_wp2_with fail
  refine (impl_between.to a (0) 40000 _).mono ?_
  rintro e w' ⟨rfl, rfl⟩
  go_wp2_with fail
  go_ret
  exact ⟨rfl, rfl⟩
theorem impl_isDay.calls (a0 : Int) (r : Bool) (w : World) (h : impl_isDay.f a0 = some r) :
    Calls Try.prog 75 #[.int .i64 a0] w fun e w' => e = .returned (.bool r) ∧ Drawn0 w w' := by
  obtain rfl := Option.some.inj h
  exact (impl_isDay.to a0 w).mono fun e w' ⟨he, hw⟩ => ⟨he, hw ▸ Drawn0.refl _⟩


end Go.Proofs.Ytphmnkcfjgallaa.Q
namespace Go.Proofs.Ytphmnkcfjgallaa.Q
open Go.RowKit Go.Proofs.YtphmnkcfjgallaaW.PrintWords Go.Proofs.YtphmnkcfjgallaaW.PrintLast Go.Proofs.YtphmnkcfjgallaaW.PrintMore
attribute [local go_sem] max2_int min2_int max_two min_two max_three min_three max_four min_four   -- for this text's walks alone
set_option linter.unusedVariables false
set_option linter.unusedSimpArgs false

/-! ### hand text c1_leafAt.lean -/
noncomputable def impl_leafAt.f (l0 : List Acc) (a1 : Int) : Option Bool := some (leafB l0 a1)
set_option maxHeartbeats 4000000 in
set_option maxRecDepth 100000 in
theorem impl_leafAt.to (A0 : Option Addr) (c0 : Nat) (l0 : List Acc) (a : Int) (w : World) (hr0 : Kd.C k131 w A0 l0.length l0) :
    Calls Try.prog 101 #[.slice A0 l0.length c0, .int .i64 a] w fun e w' => e = .returned (.bool (leafB l0 a)) ∧ w' = w := by
  have hl := hr0.2.1
  have H0 := Aside0.mk hr0
  clear hr0
  by_cases h0 : 0 ≤ a
  · by_cases h1 : a < (l0.length : Int)
    · by_cases h2 : a + 1 = (l0.length : Int)
      · have hb : (a + 1 == (l0.length : Int)) = true := beq_iff_eq.2 h2
        have HQ := Aside0.mk (leafB_of (show leafP l0 a from ⟨h0, h1, Or.inl h2⟩))
        clear h2
        go_enter Try.func101, Try.ntmps101
        go_wp2_with fail
        go_ret
        exact ⟨ret_bool HQ.out.symm, rfl⟩
      · have hb : (a + 1 == (l0.length : Int)) = false := beq_eq_false_iff_ne.2 h2
        have hn0 : 0 ≤ a + 1 := by omega
        have hn1 : a + 1 < (l0.length : Int) := by omega
        obtain ⟨ad, e0, x0, x1, x2⟩ := at_T131 H0.out (a + 1) hn0 hn1
        cases e0
        by_cases h3 : (rd_T131 l0 (a + 1)).f1 = a
        · have hb3 : ((rd_T131 l0 (a + 1)).f1 != a) = false := by rw [h3]; exact bne_self_eq_false' _
          have HQ := Aside0.mk (leafB_not (show ¬ leafP l0 a from fun q => by rcases q.2.2 with q | q; exact h2 q; exact q h3))
          clear h2 h3
          go_enter Try.func101, Try.ntmps101
          go_wp2_with fail
          go_ret
          exact ⟨ret_bool HQ.out.symm, rfl⟩
        · have hb3 : ((rd_T131 l0 (a + 1)).f1 != a) = true := bne_iff_ne.2 h3
          have HQ := Aside0.mk (leafB_of (show leafP l0 a from ⟨h0, h1, Or.inr h3⟩))
          clear h2 h3
          go_enter Try.func101, Try.ntmps101
          go_wp2_with fail
          go_ret
          exact ⟨ret_bool HQ.out.symm, rfl⟩
    · have HQ := Aside0.mk (leafB_not (show ¬ leafP l0 a from fun q => h1 q.2.1))
      go_enter Try.func101, Try.ntmps101
      go_wp2_with fail
      go_ret
      exact ⟨ret_bool HQ.out.symm, rfl⟩
  · have HQ := Aside0.mk (leafB_not (show ¬ leafP l0 a from fun q => h0 q.1))
    go_enter Try.func101, Try.ntmps101
    go_wp2_with fail
    go_ret
    exact ⟨ret_bool HQ.out.symm, rfl⟩


end Go.Proofs.Ytphmnkcfjgallaa.Q
namespace Go.Proofs.Ytphmnkcfjgallaa.Q
open Go.RowKit Go.Proofs.YtphmnkcfjgallaaW.PrintWords Go.Proofs.YtphmnkcfjgallaaW.PrintLast Go.Proofs.YtphmnkcfjgallaaW.PrintMore
attribute [local go_sem] max2_int min2_int max_two min_two max_three min_three max_four min_four   -- for this text's walks alone
set_option linter.unusedVariables false
set_option linter.unusedSimpArgs false

/-! ### hand text d1_entry.lean -/
theorem impl_entryIn.key : WideMaps.ArrKey Try.prog 165 3 2 := ⟨Try.underlying165, by kernel_rfl, by kernel_rfl, by kernel_rfl⟩
noncomputable def pairK : HMap.KeyK Try.prog 165 (Int × Int) := HMap.pairKey impl_entryIn.key Try.underlying3 ⟨_, rfl⟩
theorem textUpto_step {s : ByteArray} {i : Int} (h0 : 0 ≤ i) (h : textUpto s i) (hb : 32 ≤ bt s i) : textUpto s (i + 1) := by
  intro j hj0 hj1
  by_cases e : j = i
  · subst e; exact hb
  · exact h j hj0 (by omega)
theorem take_sub {α : Type} {l : List α} {n : Nat} {p : α → Prop} (h : ∀ x ∈ l, p x) : ∀ x ∈ l.take n, p x := fun x hx => h x (List.mem_of_mem_take hx)
theorem take_snoc {l : List Lin} {i : Int} (h0 : 0 ≤ i) (h1 : i < (l.length : Int)) : l.take (i + 1).toNat = l.take i.toNat ++ [rd_T112 l i] := by
  rw [show (i + 1).toNat = i.toNat + 1 by omega, List.take_add_one]
  unfold rd_T112
  rw [List.getD_eq_getElem?_getD, List.getElem?_eq_getElem (by omega)]
  rfl
theorem upd_val {κ : Type} {f : κ → Option Int} {k : κ} {u v : Int} (h : u = v) : HMap.upd f k u = HMap.upd f k v := by rw [h]
structure EntInv (chart : List Acc) (dims curs : Int) (c0 : Nat) (A0 : Option Addr) (e : Ent) (A3 : Option Addr) (c3 : Nat) (w wr : World) (i : Int) : Prop where
  map : HMap.MapIs Try.prog 165 3 pairK wr (w.heap.size + 2) (2 * i.toNat) (sumsOf (e.f3.take i.toNat))
  ok : ∀ x ∈ e.f3.take i.toNat, lineP chart dims curs x
  bel : Below w.heap.size w wr
  fr : wr.heap[w.heap.size]? = some (.cells #[.slice A0 chart.length c0, .int .i64 dims, .int .i64 curs] 26 (0, 0))
  en : wr.heap[w.heap.size + 1]? = some (.cells #[.int .i64 e.f0, .int .i64 e.f1, .string e.f2, .slice A3 e.f3.length c3] 34 (0, 0))
theorem ent_start (l0 : List Acc) (dims curs : Int) (c0 : Nat) (A0 : Option Addr) (e : Ent) (A3 : Option Addr) (c3 : Nat) (w : World) : EntInv l0 dims curs c0 A0 e A3 c3 w (((w.alloc (.cells #[.slice A0 l0.length c0, .int .i64 dims, .int .i64 curs] 26)).alloc (.cells #[.int .i64 e.f0, .int .i64 e.f1, .string e.f2, .slice A3 e.f3.length c3] 34)).alloc (.map #[] 0)) 0 where
  map := by
    rw [show e.f3.take (0 : Int).toNat = [] from rfl, sums_nil, show w.heap.size + 2 = ((w.alloc (.cells #[.slice A0 l0.length c0, .int .i64 dims, .int .i64 curs] 26)).alloc (.cells #[.int .i64 e.f0, .int .i64 e.f1, .string e.f2, .slice A3 e.f3.length c3] 34)).heap.size by simp]
    exact HMap.MapIs.made _ _ _ _ _
  ok := fun x hx => by cases hx
  bel := below_alloc (below_two _ _ _) _
  fr := blk_alloc (blk_alloc (blk_new _ _) _) _
  en := by
    have h := blk_new (w.alloc (.cells #[.slice A0 l0.length c0, .int .i64 dims, .int .i64 curs] 26)) (.cells #[.int .i64 e.f0, .int .i64 e.f1, .string e.f2, .slice A3 e.f3.length c3] 34)
    rw [show (w.alloc (.cells #[.slice A0 l0.length c0, .int .i64 dims, .int .i64 curs] 26)).heap.size = w.heap.size + 1 by simp] at h
    exact blk_alloc h _
theorem sums_entry {W : World} {b n : Nat} {f : Int × Int → Option Int} {k1 k2 c d : Int} (h : HMap.MapIs Try.prog 165 3 pairK W b n f) (hn : n < maxLen) (h1 : (Lit.int .i64 k1).wf = true) (h2 : (Lit.int .i64 k2).wf = true) (hc : (f (k1, k2)).getD 0 = c) (hw : (Lit.int .i64 (c + d)).wf = true) :
    ∃ (st : Nat) (W1 W3 : World) (v0 : Value), (Instr.lookup 164 (.map (some b)) (.agg #[.int .i64 k1, .int .i64 k2]) false).run Try.prog W = .ok (.int .i64 c) W ∧
      (Instr.mapEntry 164 (.map (some b)) (.agg #[.int .i64 k1, .int .i64 k2])).run Try.prog W = .ok (.tuple #[v0, .int .i64 (st : Int)]) W1 ∧
      (Instr.lookup 164 (.map (some b)) (.agg #[.int .i64 k1, .int .i64 k2]) false).run Try.prog W1 = .ok (.int .i64 c) W1 ∧
      (Instr.entryStore 164 (.map (some b)) (.int .i64 (st : Int)) (.int .i64 (c + d))).run Try.prog W1 = .ok () W3 ∧
      HMap.MapIs Try.prog 165 3 pairK W3 b (n + 1) (HMap.upd f (k1, k2) (c + d)) ∧ W.grownBy W1 (some b) ∧ W.grownBy W3 (some b) := by
  obtain ⟨st, W1, v0, hent, hM1, hg1, hst⟩ := HMap.MapIs.entry (t := 164) impl_entryIn.key.law h Try.underlying164 Try.underlying3 zero3 hn (k1, k2) ⟨h1, h2⟩
  obtain ⟨W3, hr, hM3, hg3⟩ := hst W1 (c + d) rfl hw
  have l0 := (h.look (t := 164) Try.underlying164 Try.underlying3 zero3 (k1, k2) ⟨h1, h2⟩).1
  have l1 := (hM1.look (t := 164) Try.underlying164 Try.underlying3 zero3 (k1, k2) ⟨h1, h2⟩).1
  rw [hc] at l0
  rw [HMap.upd_same, hc] at l1
  exact ⟨st, W1, W3, v0, l0, hent, l1, hr, hM3, hg1, hg1.trans hg3⟩
def lineO (x : Lin) : Obj := .cells #[.int .i64 x.f0, .int .i64 x.f1, .int .i64 x.f2, .int .i64 x.f3, .int .i64 x.f4] 112 (0, 0)
theorem ent_round {chart : List Acc} {dims curs : Int} {c0 : Nat} {A0 : Option Addr} {e : Ent} {A3 : Option Addr} {c3 : Nat} {w wr : World} {j : Int} {x : Lin} (HI : EntInv chart dims curs c0 A0 e A3 c3 w wr j) (hj0 : 0 ≤ j) (hlt : j < (e.f3.length : Int)) (hx : lineP chart dims curs x) (hxe : rd_T112 e.f3 j = x) (hlen : e.f3.length ≤ 60) (hd : dims ≤ 20) (hc : curs ≤ 20) :
    ∃ (c d : Int) (st1 st2 : Nat) (W1 W3 W4 W6 : World) (v1 v2 : Value), (-6000000000000 ≤ c ∧ c ≤ 6000000000000) ∧ (-6000000000000 ≤ d ∧ d ≤ 6000000000000) ∧
      (Instr.lookup 164 (.map (some (w.heap.size + 1 + 1))) (.agg #[.int .i64 0, .int .i64 x.f2]) false).run Try.prog (wr.alloc (lineO x)).drew = .ok (.int .i64 c) (wr.alloc (lineO x)).drew ∧
      (Instr.mapEntry 164 (.map (some (w.heap.size + 1 + 1))) (.agg #[.int .i64 0, .int .i64 x.f2])).run Try.prog (wr.alloc (lineO x)).drew = .ok (.tuple #[v1, .int .i64 (st1 : Int)]) W1 ∧
      (Instr.lookup 164 (.map (some (w.heap.size + 1 + 1))) (.agg #[.int .i64 0, .int .i64 x.f2]) false).run Try.prog W1 = .ok (.int .i64 c) W1 ∧
      (Instr.entryStore 164 (.map (some (w.heap.size + 1 + 1))) (.int .i64 (st1 : Int)) (.int .i64 (c + x.f3))).run Try.prog W1 = .ok () W3 ∧
      (Instr.lookup 164 (.map (some (w.heap.size + 1 + 1))) (.agg #[.int .i64 1, .int .i64 x.f1]) false).run Try.prog W3.drew = .ok (.int .i64 d) W3.drew ∧
      (Instr.mapEntry 164 (.map (some (w.heap.size + 1 + 1))) (.agg #[.int .i64 1, .int .i64 x.f1])).run Try.prog W3.drew = .ok (.tuple #[v2, .int .i64 (st2 : Int)]) W4 ∧
      (Instr.lookup 164 (.map (some (w.heap.size + 1 + 1))) (.agg #[.int .i64 1, .int .i64 x.f1]) false).run Try.prog W4 = .ok (.int .i64 d) W4 ∧
      (Instr.entryStore 164 (.map (some (w.heap.size + 1 + 1))) (.int .i64 (st2 : Int)) (.int .i64 (d + x.f4))).run Try.prog W4 = .ok () W6 ∧
      W1.heap[wr.heap.size]? = some (lineO x) ∧ W3.heap[wr.heap.size]? = some (lineO x) ∧ W4.heap[wr.heap.size]? = some (lineO x) ∧ EntInv chart dims curs c0 A0 e A3 c3 w W6 (j + 1) := by
  obtain ⟨hl, hdm, hcr, ham, hbs, hz⟩ := hx
  have hsm : smallLines (e.f3.take j.toNat) := fun y hy => ⟨(HI.ok y hy).2.2.2.1, (HI.ok y hy).2.2.2.2.1⟩
  have hlen' : ((e.f3.take j.toNat).length : Int) ≤ 60 := by rw [List.length_take]; omega
  have hcb := curSum_small hsm x.f2
  have hdb := dimSum_small hsm x.f1
  have hbel := below_alloc HI.bel (lineO x)
  have hm0 := (HI.map.alloc (lineO x)).drew
  have hgm : w.heap.size + 1 + 1 < wr.heap.size := HI.map.lt
  obtain ⟨st1, W1, W3, v1, a1, a2, a3, a4, a5, a6, a7⟩ := sums_entry (k1 := 0) (k2 := x.f2) (c := curSum (e.f3.take j.toNat) x.f2) (d := x.f3) hm0 (by unfold maxLen; omega) (by decide) (wf_of (by omega)) (sums_cur _ _) (wf_of (by omega))
  obtain ⟨st2, W4, W6, v2, b1, b2, b3, b4, b5, b6, b7⟩ := sums_entry (k1 := 1) (k2 := x.f1) (c := dimSum (e.f3.take j.toNat) x.f1) (d := x.f4) a5.drew (by unfold maxLen; omega) (by decide) (wf_of (by omega)) (by rw [HMap.upd_other _ _ (by simp), sums_dim]) (wf_of (by omega))
  have hn : some wr.heap.size ≠ some (w.heap.size + 2) := by simp; omega
  have hL := blk_drew (blk_new wr (lineO x))
  have h1 := blk_grown hL a6 hn
  have h3 := blk_grown hL a7 hn
  have h4 := blk_grown (blk_drew h3) b6 hn
  refine ⟨_, _, st1, st2, W1, W3, W4, W6, v1, v2, by omega, by omega, a1, a2, a3, a4, b1, b2, b3, b4, h1, h3, h4, ?_, ?_, ?_, ?_, ?_⟩
  · rw [sums_snoc] at b5
    rw [take_snoc hj0 hlt, hxe, show 2 * (j + 1).toNat = 2 * j.toNat + 1 + 1 by omega]
    exact b5
  · rw [take_snoc hj0 hlt, hxe]
    intro y hy
    rcases List.mem_append.1 hy with hy | hy
    · exact HI.ok y hy
    · obtain rfl : y = x := by simpa using hy
      exact ⟨hl, hdm, hcr, ham, hbs, hz⟩
  · exact Below.grown (Below.drew (Below.grown (Below.drew hbel) a7 hbel.size (fun i hi => by cases hi; exact Nat.le_add_right _ _))) b7 (Nat.le_trans hbel.size a7.size) (fun i hi => by cases hi; exact Nat.le_add_right _ _)
  · exact blk_grown (blk_drew (blk_grown (blk_drew (blk_alloc HI.fr _)) a7 (by simp))) b7 (by simp)
  · exact blk_grown (blk_drew (blk_grown (blk_drew (blk_alloc HI.en _)) a7 (by simp))) b7 (by simp)
def SeenZero (f : Int × Int → Option Int) (left : Int × Int → Prop) : Prop := ∀ x, pairK.ok x → ¬ left x → ∀ v, f x = some v → v = 0
theorem seen_start (f : Int × Int → Option Int) : SeenZero f (fun x => (f x).isSome = true) := fun x _ h v hv => absurd (show (f x).isSome = true by rw [hv]; rfl) h
theorem seen_step {f : Int × Int → Option Int} {left : Int × Int → Prop} {x : Int × Int} {c : Int} (h : SeenZero f left) (hx : f x = some c) (hc : c = 0) : SeenZero f (fun z => left z ∧ z ≠ x) := by
  intro z hz hl v hv
  by_cases e : z = x
  · subst e
    rw [hx] at hv
    cases hv
    exact hc
  · exact h z hz (fun q => hl ⟨q, e⟩) v hv
theorem seen_end {l : List Lin} {chart : List Acc} {dims curs : Int} {left : Int × Int → Prop} (hok : ∀ x ∈ l, lineP chart dims curs x) (hd : dims ≤ 20) (hc : curs ≤ 20) (h : SeenZero (sumsOf l) left) (hl : ∀ x, pairK.ok x → ¬ left x) : ∀ x ∈ l, curSum l x.f2 = 0 ∧ dimSum l x.f1 = 0 := by
  intro x hx
  obtain ⟨_, hdm, hcr, _⟩ := hok x hx
  constructor
  · have k : pairK.ok (0, x.f2) := ⟨wf_of (n := 0) (by omega), wf_of (n := x.f2) (by omega)⟩
    exact h (0, x.f2) k (hl _ k) _ (by unfold sumsOf; rw [if_pos rfl, if_pos ⟨x, hx, rfl⟩])
  · have k : pairK.ok (1, x.f1) := ⟨wf_of (n := 1) (by omega), wf_of (n := x.f1) (by omega)⟩
    exact h (1, x.f1) k (hl _ k) _ (by unfold sumsOf; rw [if_neg (by simp), if_pos rfl, if_pos ⟨x, hx, rfl⟩])
set_option maxHeartbeats 8000000 in
set_option maxRecDepth 100000 in
theorem impl_entryIn.short (A0 : Option Addr) (c0 : Nat) (l0 : List Acc) (dims curs : Int) (e : Ent) (A3 : Option Addr) (c3 : Nat) (w : World) (hs : e.f2.size ≤ maxLen) (hn : (e.f3.length : Int) ≤ 9223372036854775807)
    (h : ¬ (e.f2.size ≤ 40 ∧ 2 ≤ e.f3.length ∧ e.f3.length ≤ 60)) :
    Calls Try.prog 84 #[.agg #[.slice A0 l0.length c0, .int .i64 dims, .int .i64 curs], .agg #[.int .i64 e.f0, .int .i64 e.f1, .string e.f2, .slice A3 e.f3.length c3]] w fun x w' => x = .returned (.bool (entryB l0 dims curs e)) ∧ Below w.heap.size w w' := by
  have hno : ¬ entryP l0 dims curs e := fun q => h ⟨q.2.2.1, q.2.2.2.1⟩
  go_enter Try.func84, Try.ntmps84
  go_wp2_with fail
  refine (impl_isDay.to e.f0 _).mono ?_
  rintro x w' ⟨rfl, rfl⟩
  cases hday : inB e.f0 0 40000 with
  | false =>
    go_wp2_with fail
    go_ret
    exact ⟨ret_bool (entryB_not hno), below_two _ _ _⟩
  | true =>
    go_wp2_with fail
    refine (impl_between.to e.f1 _ _ _).mono ?_
    rintro x w' ⟨rfl, rfl⟩
    cases href : inB e.f1 0 1000 with
    | false =>
      go_wp2_with fail
      go_ret
      exact ⟨ret_bool (entryB_not hno), below_two _ _ _⟩
    | true =>
      by_cases h2 : e.f2.size ≤ 40
      · by_cases h3 : 2 ≤ e.f3.length
        · have h4 : ¬ (e.f3.length ≤ 60) := fun q => h ⟨h2, h3, q⟩
          go_wp2_with fail
          go_ret
          exact ⟨ret_bool (entryB_not hno), below_two _ _ _⟩
        · have h3' : (e.f3.length : Int) < 2 := by omega
          go_wp2_with fail
          go_ret
          exact ⟨ret_bool (entryB_not hno), below_two _ _ _⟩
      · have h2' : 40 < (e.f2.size : Int) := by omega
        go_wp2_with fail
        go_ret
        exact ⟨ret_bool (entryB_not hno), below_two _ _ _⟩
set_option maxHeartbeats 8000000 in
set_option maxRecDepth 100000 in
theorem impl_entryIn.to (A0 : Option Addr) (c0 : Nat) (l0 : List Acc) (dims curs : Int) (e : Ent) (A3 : Option Addr) (c3 : Nat) (w : World) (hr0 : Kd.C k131 w A0 l0.length l0) (hr3 : Kd.C k112 w A3 e.f3.length e.f3)
    (hd : 1 ≤ dims ∧ dims ≤ 20) (hc : 1 ≤ curs ∧ curs ≤ 20) (hs : e.f2.size ≤ maxLen) :
    Calls Try.prog 84 #[.agg #[.slice A0 l0.length c0, .int .i64 dims, .int .i64 curs], .agg #[.int .i64 e.f0, .int .i64 e.f1, .string e.f2, .slice A3 e.f3.length c3]] w fun x w' => x = .returned (.bool (entryB l0 dims curs e)) ∧ Below w.heap.size w w' := by
  have hn : (e.f3.length : Int) ≤ 9223372036854775807 := by have := hr3.2.1; omega
  have H0 := Aside0.mk hr0
  have H3 := Aside0.mk hr3
  clear hr0 hr3
  obtain ⟨hd0, hd1⟩ := hd
  obtain ⟨hc0, hc1⟩ := hc
  by_cases h2 : e.f2.size ≤ 40
  case neg => exact impl_entryIn.short A0 c0 l0 dims curs e A3 c3 w hs hn (fun q => h2 q.1)
  by_cases h3 : 2 ≤ e.f3.length
  case neg => exact impl_entryIn.short A0 c0 l0 dims curs e A3 c3 w hs hn (fun q => h3 q.2.1)
  by_cases h4 : e.f3.length ≤ 60
  case neg => exact impl_entryIn.short A0 c0 l0 dims curs e A3 c3 w hs hn (fun q => h4 q.2.2)
  go_enter Try.func84, Try.ntmps84
  go_wp2_with fail
  refine (impl_isDay.to e.f0 _).mono ?_
  rintro x w' ⟨rfl, rfl⟩
  cases hday : inB e.f0 0 40000 with
  | false =>
    go_wp2_with fail
    go_ret
    exact ⟨ret_bool (entryB_not (fun q => inB_false.1 hday q.1)), below_two _ _ _⟩
  | true =>
    go_wp2_with fail
    refine (impl_between.to e.f1 _ _ _).mono ?_
    rintro x w' ⟨rfl, rfl⟩
    cases href : inB e.f1 0 1000 with
    | false =>
      go_wp2_with fail
      go_ret
      exact ⟨ret_bool (entryB_not (fun q => inB_false.1 href q.2.1)), below_two _ _ _⟩
    | true =>
      have HDAY := Aside0.mk (inB_true.1 hday)
      have HREF := Aside0.mk (inB_true.1 href)
      clear hday href
      go_wp2_with fail
      go_loop [5] (fun v => ∃ i : Int, 0 ≤ i ∧ i ≤ (e.f2.size : Int) ∧ v = .int .i64 i ∧ Aside0 (textUpto e.f2 i)) (fun v => (e.f2.size - (intOf v).toNat))
      case atStart => exact ⟨0, by omega, by omega, rfl, ⟨fun j h0 h1 => by omega⟩⟩
      case round =>
        obtain ⟨i, hi0, hi1, rfl, HT⟩ := hrel
        by_cases hlt : i < (e.f2.size : Int)
        · have hx := bt_at e.f2 i
          by_cases hb : 32 ≤ bt e.f2 i
          · have HB := Aside0.mk (textUpto_step hi0 HT.out hb)
            go_wp2_with fail
            go_round
            case rel => exact ⟨i + 1, by omega, by omega, rfl, HB⟩
            case measure => simp [intOf]; omega
          · have HB := Aside0.mk (entryB_not (chart := l0) (dims := dims) (curs := curs) (fun q => hb (q.2.2.2.2.1 i hi0 hlt)))
            go_wp2_with fail
            go_ret
            exact ⟨ret_bool HB.out, below_two _ _ _⟩
        · have HTX := Aside0.mk (show textUpto e.f2 e.f2.size from fun j h0 h1 => HT.out j h0 (by omega))
          clear HT
          have HI := Aside0.mk (ent_start l0 dims curs c0 A0 e A3 c3 w)
          have hmm := @run_makeMap Try.prog
          go_wp2_with fail
          go_loopw [55] (fun v wr => ∃ i : Int, 0 ≤ i ∧ i ≤ (e.f3.length : Int) ∧ v = .int .i64 i ∧ Aside0 (EntInv l0 dims curs c0 A0 e A3 c3 w wr i)) (fun v _ => (e.f3.length - (intOf v).toNat))
          case atStart => exact ⟨0, by omega, by omega, rfl, HI⟩
          case round =>
            clear HI
            obtain ⟨j, hj0, hj1, rfl, HI⟩ := hrel
            by_cases hlt : j < (e.f3.length : Int)
            · obtain ⟨ad, e0, x0, x1, x2, x3, x4⟩ := at_T112 (Kd.C_below H3.out HI.out.bel) j hj0 hlt
              cases e0
              have hsz : w.heap.size < wr.heap.size := blk_lt HI.out.fr
              have hsz1 : w.heap.size + 1 < wr.heap.size := blk_lt HI.out.en
              have f0 := blk_cell HI.out.fr 0
              have f1 := blk_cell HI.out.fr 1
              have f2 := blk_cell HI.out.fr 2
              have HC := Aside0.mk (Kd.C_below H0.out (below_alloc HI.out.bel (.cells #[.int .i64 (rd_T112 e.f3 j).f0, .int .i64 (rd_T112 e.f3 j).f1, .int .i64 (rd_T112 e.f3 j).f2, .int .i64 (rd_T112 e.f3 j).f3, .int .i64 (rd_T112 e.f3 j).f4] 112)))
              have HBX := Aside0.mk (below_alloc HI.out.bel (.cells #[.int .i64 (rd_T112 e.f3 j).f0, .int .i64 (rd_T112 e.f3 j).f1, .int .i64 (rd_T112 e.f3 j).f2, .int .i64 (rd_T112 e.f3 j).f3, .int .i64 (rd_T112 e.f3 j).f4] 112))
              have HNO := Aside0.mk (fun (q : entryP l0 dims curs e) => all_at (z := z112) (p := lineP l0 dims curs) hj0 hlt q.2.2.2.2.2.1)
              go_wp2_with fail
              refine (impl_leafAt.to A0 c0 l0 _ _ HC.out).mono ?_
              rintro x w' ⟨rfl, rfl⟩
              cases hlf : leafB l0 (rd_T112 e.f3 j).f0 with
              | false =>
                go_wp2_with fail
                go_ret
                exact ⟨ret_bool (entryB_not (fun q => absurd (leafB_of (HNO.out q).1) (by rw [show leafB l0 (e.f3.getD j.toNat z112).f0 = false from hlf]; simp))), HBX.out⟩
              | true =>
                have HLF := Aside0.mk (leafB_true.1 hlf)
                clear hlf
                go_wp2_with fail
                refine (impl_between.to _ _ _ _).mono ?_
                rintro x w' ⟨rfl, rfl⟩
                cases hdm : inB (rd_T112 e.f3 j).f1 0 (dims - 1) with
                | false =>
                  go_wp2_with fail
                  go_ret
                  exact ⟨ret_bool (entryB_not (fun q => inB_false.1 hdm (HNO.out q).2.1)), HBX.out⟩
                | true =>
                  have HDM := Aside0.mk (inB_true.1 hdm)
                  clear hdm
                  go_wp2_with fail
                  refine (impl_between.to _ _ _ _).mono ?_
                  rintro x w' ⟨rfl, rfl⟩
                  cases hcr : inB (rd_T112 e.f3 j).f2 0 (curs - 1) with
                  | false =>
                    go_wp2_with fail
                    go_ret
                    exact ⟨ret_bool (entryB_not (fun q => inB_false.1 hcr (HNO.out q).2.2.1)), HBX.out⟩
                  | true =>
                    have HCR := Aside0.mk (inB_true.1 hcr)
                    clear hcr
                    go_wp2_with fail
                    refine (impl_amount.to _ _).mono ?_
                    rintro x w' ⟨rfl, rfl⟩
                    cases ham : inB (rd_T112 e.f3 j).f3 (-100000000000) 100000000000 with
                    | false =>
                      go_wp2_with fail
                      go_ret
                      exact ⟨ret_bool (entryB_not (fun q => inB_false.1 ham (HNO.out q).2.2.2.1)), HBX.out⟩
                    | true =>
                      have HAM := Aside0.mk (inB_true.1 ham)
                      clear ham
                      go_wp2_with fail
                      refine (impl_amount.to _ _).mono ?_
                      rintro x w' ⟨rfl, rfl⟩
                      cases hbs : inB (rd_T112 e.f3 j).f4 (-100000000000) 100000000000 with
                      | false =>
                        go_wp2_with fail
                        go_ret
                        exact ⟨ret_bool (entryB_not (fun q => inB_false.1 hbs (HNO.out q).2.2.2.2.1)), HBX.out⟩
                      | true =>
                        have HBS := Aside0.mk (inB_true.1 hbs)
                        clear hbs
                        have hway : (rd_T112 e.f3 j).f2 = 0 ∧ (rd_T112 e.f3 j).f3 ≠ (rd_T112 e.f3 j).f4 ∨ ((rd_T112 e.f3 j).f2 == 0) = false ∧ Aside0 (lineP l0 dims curs (rd_T112 e.f3 j)) ∨ (((rd_T112 e.f3 j).f2 == 0) = true ∧ ((rd_T112 e.f3 j).f3 != (rd_T112 e.f3 j).f4) = false) ∧ Aside0 (lineP l0 dims curs (rd_T112 e.f3 j)) := by
                          by_cases q : (rd_T112 e.f3 j).f2 = 0
                          · by_cases q2 : (rd_T112 e.f3 j).f3 = (rd_T112 e.f3 j).f4
                            · exact Or.inr (Or.inr ⟨⟨beq_iff_eq.2 q, by rw [q2]; exact bne_self_eq_false' _⟩, ⟨HLF.out, HDM.out, HCR.out, HAM.out, HBS.out, fun _ => q2⟩⟩)
                            · exact Or.inl ⟨q, q2⟩
                          · exact Or.inr (Or.inl ⟨beq_eq_false_iff_ne.2 q, ⟨HLF.out, HDM.out, HCR.out, HAM.out, HBS.out, fun q' => absurd q' q⟩⟩)
                        rcases hway with ⟨q1, q2⟩ | ⟨p1, HX⟩ | ⟨⟨p1, p2⟩, HX⟩
                        · have HN2 := Aside0.mk (show ¬ entryP l0 dims curs e from fun q => q2 ((HNO.out q).2.2.2.2.2 q1))
                          have p1 : ((rd_T112 e.f3 j).f2 == 0) = true := beq_iff_eq.2 q1
                          have p2 : ((rd_T112 e.f3 j).f3 != (rd_T112 e.f3 j).f4) = true := bne_iff_ne.2 q2
                          clear q1 q2
                          go_wp2_with fail
                          go_ret
                          exact ⟨ret_bool (entryB_not HN2.out), HBX.out⟩
                        all_goals (
                          obtain ⟨c, d, st1, st2, W1, W3, W4, W6, v1, v2, ⟨hc0', hc1'⟩, ⟨hd0', hd1'⟩, a1, a2, a3, a4, b1, b2, b3, b4, n1, n3, n4, HN⟩ := ent_round HI.out hj0 hlt HX.out rfl h4 hd1 hc1
                          have HN := Aside0.mk HN
                          have m2 := blk_cell n1 2
                          have m3 := blk_cell n1 3
                          have r1 := blk_cell n3 1
                          have r4 := blk_cell n3 4
                          have s1 := blk_cell n4 1
                          have s4 := blk_cell n4 4
                          obtain ⟨hx1, hx2⟩ := HAM.out
                          obtain ⟨hy1, hy2⟩ := HBS.out
                          clear n1 n3 n4 HX HI HNO HLF HDM HCR HC H0 H3
                          unfold lineO at a1 a2
                          go_wp2_with fail
                          go_region
                          go_wp2_with fail
                          go_region
                          go_wp2_with fail
                          go_roundw
                          case rel => exact ⟨j + 1, by omega, by omega, rfl, HN⟩
                          case measure => simp [intOf]; omega)
            · obtain ⟨em, eok, ebel⟩ : HMap.MapIs Try.prog 165 3 pairK wr (w.heap.size + 1 + 1) (2 * j.toNat) (sumsOf e.f3) ∧ (∀ x ∈ e.f3, lineP l0 dims curs x) ∧ Below w.heap.size w wr := by
                have hm := HI.out.map
                have ho := HI.out.ok
                rw [List.take_of_length_le (by omega)] at hm ho
                exact ⟨hm, ho, HI.out.bel⟩
              have HOK := Aside0.mk eok
              have HB := Aside0.mk ebel
              have hgm : w.heap.size + 1 + 1 < wr.heap.size := em.lt
              clear HI eok ebel
              go_wp2_with (at_range; refine HMap.wpList_range_seeks (K := pairK) (kt := 165) (et := 3) (b := w.heap.size + 1 + 1) (n := 2 * j.toNat) (f := sumsOf e.f3) rfl _ rfl Try.underlying164 rfl em ?_; intro w0 cnt0 hrg0 hg0 hs0)
              clear em
              have HB0 := Aside0.mk (Below.grown HB.out hg0 HB.out.size (fun i hi => by cases hi))
              clear HB hg0
              go_loopw [10] (fun _ ws => ∃ (left : Int × Int → Prop) (cnt : Nat), HMap.Seeks Try.prog 165 3 pairK ws (w.heap.size + 1 + 1) wr.heap.size (2 * j.toNat) (sumsOf e.f3) left cnt ∧ Aside0 (Below w.heap.size w ws) ∧ Aside0 (SeenZero (sumsOf e.f3) left)) (fun _ ws => ws.rangeLeft (w.heap.size + 1 + 1) wr.heap.size)
              case atStart => exact ⟨_, cnt0, hrg0, HB0, ⟨seen_start _⟩⟩
              case round =>
                clear hrg0 HB0
                obtain ⟨left, cnt, hsk, HBW, HZ⟩ := hrel
                go_wp2_with (at_next; refine HMap.wpList_next_seeks (K := pairK) (et := 3) (b := w.heap.size + 1 + 1) rfl _ rfl Try.underlying3 rfl hsk ?_ ?_)
                · intro hall
                  have HE := Aside0.mk (show entryP l0 dims curs e from ⟨HDAY.out, HREF.out, h2, ⟨h3, h4⟩, HTX.out, HOK.out, seen_end HOK.out hd1 hc1 HZ.out (fun p hp => hall p.1 p.2 hp)⟩)
                  clear hall hsk
                  go_wp2_with fail
                  go_ret
                  exact ⟨ret_bool (entryB_true.2 HE.out).symm, HBW.out⟩
                · intro xa xb c ws1 cnt1 hxk hlx hfx hsk1 hlt1 hg1 hs1 hen
                  have HB1 := Aside0.mk (Below.grown HBW.out hg1 HBW.out.size (fun i hi => by cases hi; omega))
                  have hm0 := hsk.left_eq
                  by_cases hz : c = 0
                  · subst hz
                    have HZ1 := Aside0.mk (seen_step HZ.out hfx rfl)
                    clear hsk hxk hlx hfx HZ HBW hg1 hs1
                    go_wp2_with fail
                    go_roundw
                    case rel => exact ⟨_, cnt1, hsk1, HB1, HZ1⟩
                    case measure => rw [hsk1.left_eq, hm0]; omega
                  · have HN := Aside0.mk (show ¬ entryP l0 dims curs e from fun q => hz (sums_zero.2 q.2.2.2.2.2.2 (xa, xb) c hfx))
                    have hzb : (c != 0) = true := bne_iff_ne.2 hz
                    clear hsk hxk hlx hfx HZ hg1 hs1 hz
                    go_wp2_with fail
                    go_ret
                    exact ⟨ret_bool (entryB_not HN.out), HB1.out⟩
-- CALLS impl_entryIn
open Classical in
noncomputable def impl_entryIn.f (l0 : List Acc) (dims curs : Int) (a0 a1 : Int) (a2 : ByteArray) (l3 : List Lin) : Option Bool := if (1 ≤ dims ∧ dims ≤ 20) ∧ (1 ≤ curs ∧ curs ≤ 20) ∧ a2.size ≤ maxLen then some (entryB l0 dims curs ⟨a0, a1, a2, l3⟩) else none
theorem impl_entryIn.calls (A0 : Option Addr) (c0 : Nat) (l0 : List Acc) (dims curs : Int) (a0 a1 : Int) (a2 : ByteArray) (A3 : Option Addr) (c3 : Nat) (l3 : List Lin) (r : Bool) (w : World) (hr0 : Kd.C k131 w A0 l0.length l0) (hc0 : l0.length ≤ c0) (hr3 : Kd.C k112 w A3 l3.length l3) (hc3 : l3.length ≤ c3) (hf : impl_entryIn.f l0 dims curs a0 a1 a2 l3 = some r) :
    Calls Try.prog 84 #[.agg #[.slice A0 l0.length c0, .int .i64 dims, .int .i64 curs], .agg #[.int .i64 a0, .int .i64 a1, .string a2, .slice A3 l3.length c3]] w fun x w' => x = .returned (.bool r) ∧ Below w.heap.size w w' := by
  unfold impl_entryIn.f at hf
  split at hf
  · rename_i q
    cases hf
    exact impl_entryIn.to A0 c0 l0 dims curs ⟨a0, a1, a2, l3⟩ A3 c3 w hr0 hr3 q.1 q.2.1 q.2.2
  · cases hf


end Go.Proofs.Ytphmnkcfjgallaa.Q
namespace Go.Proofs.Ytphmnkcfjgallaa.Q
open Go.RowKit Go.Proofs.YtphmnkcfjgallaaW.PrintWords Go.Proofs.YtphmnkcfjgallaaW.PrintLast Go.Proofs.YtphmnkcfjgallaaW.PrintMore
attribute [local go_sem] max2_int min2_int max_two min_two max_three min_three max_four min_four   -- for this text's walks alone
set_option linter.unusedVariables false
set_option linter.unusedSimpArgs false

/-! ### hand text b3_specdeep.lean -/
theorem deep_step {chart : List Acc} {a p : Int} (h : ∀ j : Int, 0 ≤ j → j ≤ a → par chart j < j) (h0 : 0 ≤ p) (h1 : p ≤ a) (hp : 0 ≤ par chart p) : deepAt chart p = deepAt chart (par chart p) + 1 := by
  have hlt := h p h0 h1
  show anc chart (p.toNat + 1) p = _
  unfold anc
  rw [if_pos hp]
  unfold deepAt
  rw [anc_more chart (a + 1) (fun j j0 j1 => h j j0 (by omega)) p.toNat ((par chart p).toNat + 1) (par chart p) hp (by omega) (by omega) (by omega)]
set_option maxHeartbeats 4000000 in
set_option maxRecDepth 100000 in
theorem spec_l4Deep.to (A0 : Option Addr) (c0 : Nat) (l0 : List Acc) (a : Int) (w : World) (hr0 : Kd.C k131 w A0 l0.length l0) (h0 : 0 ≤ a) (ha : a < (l0.length : Int)) (hn : l0.length ≤ 120) (hrows : ∀ j : Int, 0 ≤ j → j ≤ a → par l0 j < j) :
    Calls Try.prog 155 #[.slice A0 l0.length c0, .int .i64 a] w fun e w' => e = .returned (.int .i64 (deepAt l0 a)) ∧ w' = w := by
  have H0 := Aside0.mk hr0
  have HR := Aside0.mk hrows
  clear hr0 hrows
  go_enter Try.func155, Try.ntmps155
  go_wp2_with fail
  go_loop [1, 5] (fun v u => ∃ p n : Int, 0 ≤ p ∧ p ≤ a ∧ v = .int .i64 p ∧ 0 ≤ n ∧ n + p ≤ a ∧ u = .int .i64 n ∧ Aside0 (n + deepAt l0 p = deepAt l0 a)) (fun v _ => (intOf v).toNat)
  case atStart => exact ⟨a, 0, h0, by omega, rfl, by omega, by omega, rfl, ⟨by omega⟩⟩
  case round =>
    obtain ⟨p, n, hp0, hp1, rfl, hn0, hn1, rfl, HD⟩ := hrel
    have hlt : p < (l0.length : Int) := by omega
    obtain ⟨ad, e0, x0, x1, x2⟩ := at_T131 H0.out p hp0 hlt
    cases e0
    by_cases hp : 0 ≤ (rd_T131 l0 p).f1
    · have hs := Aside0.mk (deep_step HR.out hp0 hp1 hp)
      have hlo := HR.out p hp0 hp1
      have HLO := Aside0.mk hlo
      have hlo' : (rd_T131 l0 p).f1 < p := hlo
      clear hlo
      go_wp2_with fail
      go_round
      case rel => exact ⟨(rd_T131 l0 p).f1, n + 1, hp, by omega, rfl, by omega, by omega, rfl, ⟨by have h1 := HD.out; have h2 := hs.out; show n + 1 + deepAt l0 (par l0 p) = _; omega⟩⟩
      case measure => show (par l0 p).toNat < p.toNat; have := HLO.out; have h9 : 0 ≤ par l0 p := hp; omega
    · have hz : deepAt l0 p = 0 := by
        unfold deepAt anc
        exact if_neg hp
      have HZ := Aside0.mk hz
      clear hz
      have hp' : (rd_T131 l0 p).f1 < 0 := by omega
      go_wp2_with fail
      go_ret
      exact ⟨ret_i (by have h1 := HD.out; have h2 := HZ.out; omega), rfl⟩


end Go.Proofs.Ytphmnkcfjgallaa.Q
namespace Go.Proofs.Ytphmnkcfjgallaa.Q
open Go.RowKit Go.Proofs.YtphmnkcfjgallaaW.PrintWords Go.Proofs.YtphmnkcfjgallaaW.PrintLast Go.Proofs.YtphmnkcfjgallaaW.PrintMore
attribute [local go_sem] max2_int min2_int max_two min_two max_three min_three max_four min_four   -- for this text's walks alone
set_option linter.unusedVariables false
set_option linter.unusedSimpArgs false

/-! ### hand text a0_spec_l1In.lean -/
noncomputable def spec_l1In.f (a0 a1 a2 : Int) : Option Bool := some (inB a0 a1 a2)
set_option maxRecDepth 100000 in
theorem spec_l1In.to (a b c : Int) (w : World) : Calls Try.prog 79 #[.int .i64 a, .int .i64 b, .int .i64 c] w fun e w' => e = .returned (.bool (inB a b c)) ∧ w' = w := by
  go_enter Try.func79, Try.ntmps79
  go_wp2
  all_goals
    go_ret
    refine ⟨ret_bool ?_, rfl⟩
    unfold inB
    rw [Bool.eq_iff_iff]
    simp
    try omega
theorem spec_l1In.calls (a0 a1 a2 : Int) (r : Bool) (w : World) (h : spec_l1In.f a0 a1 a2 = some r) :
    Calls Try.prog 79 #[.int .i64 a0, .int .i64 a1, .int .i64 a2] w fun e w' => e = .returned (.bool r) ∧ Drawn0 w w' := by
  obtain rfl := Option.some.inj h
  exact (spec_l1In.to a0 a1 a2 w).mono fun e w' ⟨he, hw⟩ => ⟨he, hw ▸ Drawn0.refl _⟩


end Go.Proofs.Ytphmnkcfjgallaa.Q
namespace Go.Proofs.Ytphmnkcfjgallaa.Q
open Go.RowKit Go.Proofs.YtphmnkcfjgallaaW.PrintWords Go.Proofs.YtphmnkcfjgallaaW.PrintLast Go.Proofs.YtphmnkcfjgallaaW.PrintMore
attribute [local go_sem] max2_int min2_int max_two min_two max_three min_three max_four min_four   -- for this text's walks alone
set_option linter.unusedVariables false
set_option linter.unusedSimpArgs false

/-! ### hand text a3_specNameOk.lean -/
noncomputable def spec_NameOk.f (a0 : ByteArray) : Option Bool := some (nameOk a0)
open Classical in
theorem nameOk_end {s : ByteArray} {i : Int} (hi : (s.size : Int) ≤ i) (h : nameUpto s i) : inB (s.size : Int) 1 20 = nameOk s := by
  unfold nameOk inB
  have : nameUpto s s.size := fun j hj0 hj1 => h j hj0 (by omega)
  rw [Bool.eq_iff_iff]
  simp [this]
  omega
set_option maxHeartbeats 8000000 in
set_option maxRecDepth 100000 in
theorem spec_NameOk.to (a0 : ByteArray) (w : World) (hs : a0.size ≤ 9223372036854775807) : Calls Try.prog 159 #[.string a0] w fun e w' => e = .returned (.bool (nameOk a0)) ∧ w' = w := by
  go_enter Try.func159, Try.ntmps159
  go_wp2_with fail
  go_loop [3] (fun v => ∃ i : Int, 0 ≤ i ∧ i ≤ (a0.size : Int) ∧ v = .int .i64 i ∧ Aside0 (nameUpto a0 i)) (fun v => (a0.size - (intOf v).toNat))
  case atStart => exact ⟨0, by omega, by omega, rfl, ⟨fun j h0 h1 => by omega⟩⟩
  case round =>
    obtain ⟨i, hi0, hi1, rfl, HT⟩ := hrel
    by_cases hlt : i < (a0.size : Int)
    · have hx := bt_at a0 i
      go_wp2_with fail
      all_goals first
        | (go_round
           case rel => exact ⟨i + 1, by omega, by omega, rfl, ⟨name_step hi0 HT.out (by unfold nameB; symm; first | (simp; done) | (simp; omega) | (simp_all; done) | (simp_all; omega))⟩⟩
           case measure => simp [intOf]; omega)
        | (go_ret
           exact ⟨ret_bool (nameOk_byte hi0 hlt (by unfold nameB; symm; first | (simp; done) | (simp; omega) | (simp_all; done) | (simp_all; omega))), rfl⟩)
    · go_wp2_with fail
      refine (spec_l1In.to _ _ _ _).mono ?_
      rintro e w' ⟨rfl, rfl⟩
      go_wp2_with fail
      go_ret
      exact ⟨ret_bool (nameOk_end (by omega) HT.out), rfl⟩


end Go.Proofs.Ytphmnkcfjgallaa.Q
namespace Go.Proofs.Ytphmnkcfjgallaa.Q
open Go.RowKit Go.Proofs.YtphmnkcfjgallaaW.PrintWords Go.Proofs.YtphmnkcfjgallaaW.PrintLast Go.Proofs.YtphmnkcfjgallaaW.PrintMore
attribute [local go_sem] max2_int min2_int max_two min_two max_three min_three max_four min_four   -- for this text's walks alone
set_option linter.unusedVariables false
set_option linter.unusedSimpArgs false

/-! ### hand text b4_specchart.lean -/
noncomputable def spec_ChartOk.f (l0 : List Acc) : Option Bool := some (chartOk l0)
theorem rowOk_par {chart : List Acc} {i : Int} (h : rowsOk chart i) (h0 : 0 ≤ i) (hr : rowOk chart i) : -1 ≤ par chart i ∧ par chart i ≤ i - 1 := by
  rcases hr.2.2.2 with q | ⟨q, _⟩
  · omega
  · have := up_is h h0 q
    omega
theorem no_dup {chart : List Acc} {k i : Int} (h : code chart k = code chart i) (h0 : 0 ≤ k) (h1 : k < i) : ¬ rowOk chart i := fun q => q.1 k h0 h1 h
set_option maxHeartbeats 8000000 in
set_option maxRecDepth 100000 in
theorem spec_ChartOk.to (A0 : Option Addr) (c0 : Nat) (l0 : List Acc) (w : World) (hr0 : Kd.C k131 w A0 l0.length l0) (hs : ∀ x ∈ l0, x.f0.size ≤ maxLen) :
    Calls Try.prog 140 #[.slice A0 l0.length c0] w fun e w' => e = .returned (.bool (chartOk l0)) ∧ Below w.heap.size w w' := by
  have hl := hr0.2.1
  have H0 := Aside0.mk hr0
  have HS := Aside0.mk hs
  clear hr0 hs
  by_cases hn : 1 ≤ l0.length ∧ l0.length ≤ 120
  · obtain ⟨h1, h2⟩ := hn
    have hin : inB (l0.length : Int) 1 120 = true := inB_of (by omega)
    go_enter Try.func140, Try.ntmps140
    go_wp2_with fail
    refine (spec_l1In.to _ _ _ _).mono ?_
    rintro e w' ⟨rfl, rfl⟩
    go_wp2_with fail
    go_loopw [3] (fun v wr => ∃ i : Int, 0 ≤ i ∧ i ≤ (l0.length : Int) ∧ v = .int .i64 i ∧ Aside0 (Below w'.heap.size w' wr) ∧ Aside0 (rowsOk l0 i)) (fun v _ => (l0.length - (intOf v).toNat))
    case atStart => exact ⟨0, by omega, by omega, rfl, ⟨Below.refl _ _⟩, ⟨fun j h0 h1 => by omega⟩⟩
    case round =>
      obtain ⟨i, hi0, hi1, rfl, HB, HR⟩ := hrel
      by_cases hlt : i < (l0.length : Int)
      · obtain ⟨ad, e0, x0, x1, x2⟩ := at_T131 (Kd.C_below H0.out HB.out) i hi0 hlt
        cases e0
        have hsz : (code l0 i).size ≤ 9223372036854775807 := all_at (z := z131) (p := fun x => x.f0.size ≤ maxLen) hi0 hlt HS.out
        go_wp2_with fail
        refine (spec_NameOk.to (code l0 i) _ hsz).mono ?_
        rintro e w1 ⟨rfl, rfl⟩
        cases hnm : nameOk (code l0 i) with
        | false =>
          go_wp2_with fail
          go_ret
          exact ⟨ret_bool (chartOk_row hi0 hlt (fun q => by have := q.2.1; rw [hnm] at this; cases this)).symm, below_alloc HB.out _⟩
        | true =>
          have HNM := Aside0.mk hnm
          clear hnm
          go_wp2_with fail
          refine (spec_l1In.to (knd l0 i) _ _ _).mono ?_
          rintro e w1 ⟨rfl, rfl⟩
          cases hkd : inB (knd l0 i) 1 5 with
          | false =>
            go_wp2_with fail
            go_ret
            exact ⟨ret_bool (chartOk_row hi0 hlt (fun q => inB_false.1 hkd q.2.2.1)).symm, below_alloc HB.out _⟩
          | true =>
            have HKD := Aside0.mk hkd
            clear hkd
            go_wp2_with fail
            refine (spec_l1In.to (par l0 i) _ _ _).mono ?_
            rintro e w1 ⟨rfl, rfl⟩
            cases hpr : inB (par l0 i) (-1) (i - 1) with
            | false =>
              go_wp2_with fail
              go_ret
              exact ⟨ret_bool (chartOk_row hi0 hlt (fun q => inB_false.1 hpr (rowOk_par HR.out hi0 q))).symm, below_alloc HB.out _⟩
            | true =>
              have HPR := Aside0.mk (inB_true.1 hpr)
              clear hpr
              go_wp2_with fail
              go_loopw [5] (fun v wd => ∃ k : Int, 0 ≤ k ∧ k ≤ i ∧ v = .int .i64 k ∧ Aside0 (Below w'.heap.size w' wd) ∧ Aside0 (wd.heap[wr.heap.size]? = some (.cells #[.string (rd_T131 l0 i).f0, .int .i64 (rd_T131 l0 i).f1, .int .i64 (rd_T131 l0 i).f2] 131 (0, 0))) ∧ Aside0 (∀ j : Int, 0 ≤ j → j < k → code l0 j ≠ code l0 i)) (fun v _ => (i - intOf v).toNat)
              case atStart => exact ⟨0, by omega, by omega, rfl, ⟨below_alloc HB.out _⟩, ⟨blk_new _ _⟩, ⟨fun j h0 h1 => by omega⟩⟩
              case round =>
                obtain ⟨k, hk0, hk1, rfl, HBd, HV, HT⟩ := hrel
                have v0 := blk_cell HV.out 0
                have v1 := blk_cell HV.out 1
                have v2 := blk_cell HV.out 2
                by_cases hki : k < i
                · have hkl : k < (l0.length : Int) := by omega
                  obtain ⟨ad', e0, z0, z1, z2⟩ := at_T131 (Kd.C_below H0.out HBd.out) k hk0 hkl
                  obtain rfl : ad = ad' := by injection e0
                  by_cases hc : code l0 k = code l0 i
                  · have hcb : ((rd_T131 l0 k).f0.toList == (rd_T131 l0 i).f0.toList) = true := beq_bytes hc
                    have HC := Aside0.mk hc
                    clear hc
                    go_wp2_with fail
                    go_quiet (fail)
                    go_wp2_with fail
                    go_ret
                    exact ⟨ret_bool (chartOk_row hi0 hlt (no_dup HC.out hk0 hki)).symm, pw_below_drewN HBd.out _⟩
                  · have hcb : ((rd_T131 l0 k).f0.toList == (rd_T131 l0 i).f0.toList) = false := nbeq_bytes hc
                    have HC := Aside0.mk hc
                    clear hc
                    go_wp2_with fail
                    go_quiet (fail)
                    go_wp2_with fail
                    go_roundw
                    case rel => exact ⟨k + 1, by omega, by omega, rfl, ⟨pw_below_drewN HBd.out _⟩, ⟨blk_drewN HV.out _⟩, ⟨fun j j0 j1 => by
                      by_cases e : j = k
                      · subst e; exact HC.out
                      · exact HT.out j j0 (by omega)⟩⟩
                    case measure => simp [intOf]; omega
                · obtain rfl : k = i := by omega
                  have hk1' := hk1
                  by_cases hp : (rd_T131 l0 k).f1 < 0
                  · have HP := Aside0.mk hp
                    go_wp2_with fail
                    go_roundw
                    case rel => exact ⟨k + 1, by omega, by omega, rfl, HBd, ⟨rows_step hi0 HR.out ⟨HT.out, HNM.out, inB_true.1 HKD.out, Or.inl (by have := HPR.out.1; have h9 : par l0 k < 0 := HP.out; omega)⟩⟩⟩
                    case measure => simp [intOf]; omega
                  · have HPN := Aside0.mk (show 0 ≤ par l0 k from by have h8 : ¬ (rd_T131 l0 k).f1 < 0 := hp; show 0 ≤ (rd_T131 l0 k).f1; omega)
                    have hlo := Aside0.mk (rows_lo HR.out)
                    have hpar := Aside0.mk (rows_par HR.out)
                    have hpa := Aside0.mk (show ∀ j : Int, 0 ≤ j → j ≤ k → par l0 j < j from fun j j0 j1 => by
                      by_cases e : j = k
                      · subst e; have := HPR.out.2; omega
                      · exact hpar.out j j0 (by omega))
                    go_wp2_with fail
                    go_loop [6] (fun v => ∃ m : Int, -1 ≤ m ∧ m < k ∧ v = .int .i64 m ∧ Aside0 (∀ n : Nat, m + 1 ≤ n → climb l0 (par l0 k) n m = up l0 k)) (fun v => (intOf v + 1).toNat)
                    case atStart => exact ⟨k - 1, by omega, by omega, rfl, ⟨fun n hn => climb_more l0 (par l0 k) k hpar.out _ _ _ (by omega) hn (by omega)⟩⟩
                    case round =>
                      obtain ⟨m, hm0, hm1, rfl, HCL⟩ := hrel
                      by_cases hm : 0 ≤ m
                      · have hml : m < (l0.length : Int) := by omega
                        obtain ⟨ad', e0, z0, z1, z2⟩ := at_T131 (Kd.C_below H0.out HBd.out) m hm hml
                        obtain rfl : ad = ad' := by injection e0
                        by_cases hmp : m = par l0 k
                        · have hmb : (m != (rd_T131 l0 k).f1) = false := by rw [hmp]; exact bne_self_eq_false' _
                          have HU := Aside0.mk (climb_at (fun q => q.2 hmp) HCL.out)
                          clear hmp
                          by_cases hkd : knd l0 m = knd l0 k
                          · have hkdb : ((rd_T131 l0 m).f2 != (rd_T131 l0 k).f2) = false := by rw [show (rd_T131 l0 m).f2 = (rd_T131 l0 k).f2 from hkd]; exact bne_self_eq_false' _
                            have HKE := Aside0.mk hkd
                            clear hkd
                            have HDE := Aside0.mk (deep_up HR.out hi0 (by rw [HU.out]; exact hm))
                            by_cases hde : 8 < deepAt l0 k
                            · go_wp2_with fail
                              go_quiet ((go_at_call 155; exact Calls.quiet_of_same (spec_l4Deep.to (some ad) c0 l0 k _ (Kd.C_drewN (Kd.C_below H0.out HBd.out) _) hi0 (by omega) h2 hpa.out)))
                              go_wp2_with fail
                              go_ret
                              exact ⟨ret_bool (chartOk_row hi0 hlt (fun q => by rcases q.2.2.2 with q | ⟨q0, _, q⟩; (have h7 := HPN.out; omega); have h8 := HDE.out; omega)).symm, pw_below_drewN HBd.out _⟩
                            · go_wp2_with fail
                              go_quiet ((go_at_call 155; exact Calls.quiet_of_same (spec_l4Deep.to (some ad) c0 l0 k _ (Kd.C_drewN (Kd.C_below H0.out HBd.out) _) hi0 (by omega) h2 hpa.out)))
                              go_wp2_with fail
                              go_roundw
                              case rel => exact ⟨k + 1, by omega, by omega, rfl, ⟨pw_below_drewN HBd.out _⟩, ⟨rows_step hi0 HR.out ⟨HT.out, HNM.out, inB_true.1 HKD.out, Or.inr ⟨by rw [HU.out]; exact hm, by rw [HU.out]; exact HKE.out, by have := HDE.out; omega⟩⟩⟩⟩
                              case measure => simp [intOf]; omega
                          · have hkdb : ((rd_T131 l0 m).f2 != (rd_T131 l0 k).f2) = true := bne_iff_ne.2 hkd
                            have HKE := Aside0.mk hkd
                            clear hkd
                            go_wp2_with fail
                            go_quiet (fail)
                            go_wp2_with fail
                            go_ret
                            exact ⟨ret_bool (chartOk_row hi0 hlt (fun q => by rcases q.2.2.2 with q | ⟨_, q, _⟩; (have h7 := HPN.out; omega); rw [HU.out] at q; exact HKE.out q)).symm, pw_below_drewN HBd.out _⟩
                        · have hmb : (m != (rd_T131 l0 k).f1) = true := bne_iff_ne.2 hmp
                          have HKP := Aside0.mk hmp
                          clear hmp
                          have b1 := hlo.out m hm (by omega)
                          have b2 := hpar.out m hm (by omega)
                          go_wp2_with fail
                          go_round
                          case rel => exact ⟨par l0 m, b1, by omega, rfl, ⟨climb_go hpar.out hm hm1 HKP.out HCL.out⟩⟩
                          case measure => show (par l0 m + 1).toNat < (m + 1).toNat; omega
                      · have HU := Aside0.mk (climb_at (fun q => hm q.1) HCL.out)
                        go_wp2_with fail
                        go_quiet (fail)
                        go_wp2_with fail
                        go_ret
                        exact ⟨ret_bool (chartOk_row hi0 hlt (fun q => by rcases q.2.2.2 with q | ⟨q, _⟩; (have h7 := HPN.out; omega); rw [HU.out] at q; omega)).symm, pw_below_drewN HBd.out _⟩
      · go_wp2_with fail
        go_ret
        exact ⟨ret_bool (chartOk_all h1 h2 (by omega) HR.out).symm, HB.out⟩
  · have hin : inB (l0.length : Int) 1 120 = false := inB_not (by omega)
    go_enter Try.func140, Try.ntmps140
    go_wp2_with fail
    refine (spec_l1In.to _ _ _ _).mono ?_
    rintro e w' ⟨rfl, rfl⟩
    go_wp2_with fail
    go_ret
    exact ⟨ret_bool (chartOk_len hn).symm, Below.refl _ _⟩


end Go.Proofs.Ytphmnkcfjgallaa.Q
namespace Go.Proofs.Ytphmnkcfjgallaa.Q
open Go.RowKit Go.Proofs.YtphmnkcfjgallaaW.PrintWords Go.Proofs.YtphmnkcfjgallaaW.PrintLast Go.Proofs.YtphmnkcfjgallaaW.PrintMore
attribute [local go_sem] max2_int min2_int max_two min_two max_three min_three max_four min_four   -- for this text's walks alone
set_option linter.unusedVariables false
set_option linter.unusedSimpArgs false

/-! ### hand text c3_specframe.lean -/
noncomputable def spec_FrameOk.f (l0_0 : List Acc) (a0_1 a0_2 : Int) : Option Bool := some (frameB l0_0 a0_1 a0_2)
set_option maxHeartbeats 4000000 in
set_option maxRecDepth 100000 in
theorem spec_FrameOk.to (A0 : Option Addr) (c0 : Nat) (l0 : List Acc) (dims curs : Int) (w : World) (hr0 : Kd.C k131 w A0 l0.length l0) (hs : ∀ x ∈ l0, x.f0.size ≤ maxLen) :
    Calls Try.prog 131 #[.agg #[.slice A0 l0.length c0, .int .i64 dims, .int .i64 curs]] w fun e w' => e = .returned (.bool (frameB l0 dims curs)) ∧ Below w.heap.size w w' := by
  have H0 := Aside0.mk hr0
  clear hr0
  unfold frameB
  go_enter Try.func131, Try.ntmps131
  go_wp2_with fail
  refine (spec_ChartOk.to A0 c0 l0 _ (Kd.C_below H0.out (below_alloc (Below.refl _ _) _)) hs).mono ?_
  rintro e w1 ⟨rfl, hb⟩
  have HB := Aside0.mk (below_into (w := w) hb (below_alloc (Below.refl _ _) _))
  have s0 : w1.cell? ⟨w.heap.size, 0, none⟩ = some (.slice A0 l0.length c0) := pw_cell_below hb (by go_simp)
  have s1 : w1.cell? ⟨w.heap.size, 1, none⟩ = some (.int .i64 dims) := pw_cell_below hb (by go_simp)
  have s2 : w1.cell? ⟨w.heap.size, 2, none⟩ = some (.int .i64 curs) := pw_cell_below hb (by go_simp)
  clear hb
  cases hch : chartOk l0 with
  | false =>
    go_wp2_with fail
    go_ret
    exact ⟨ret_bool (by simp [hch]), HB.out⟩
  | true =>
    go_wp2_with fail
    refine (spec_l1In.to dims _ _ _).mono ?_
    rintro e w6 ⟨rfl, rfl⟩
    cases hinB : inB dims 1 20 with
    | false =>
      go_wp2_with fail
      go_ret
      exact ⟨ret_bool (by simp [hch, hinB]), HB.out⟩
    | true =>
      go_wp2_with fail
      refine (spec_l1In.to curs _ _ _).mono ?_
      rintro e w7 ⟨rfl, rfl⟩
      cases hinC : inB curs 1 20 with
      | false =>
        go_wp2_with fail
        go_ret
        exact ⟨ret_bool (by simp [hch, hinB, hinC]), HB.out⟩
      | true =>
        go_wp2_with fail
        go_ret
        exact ⟨ret_bool (by simp [hch, hinB, hinC]), HB.out⟩


end Go.Proofs.Ytphmnkcfjgallaa.Q
namespace Go.Proofs.Ytphmnkcfjgallaa.Q
open Go.RowKit Go.Proofs.YtphmnkcfjgallaaW.PrintWords Go.Proofs.YtphmnkcfjgallaaW.PrintLast Go.Proofs.YtphmnkcfjgallaaW.PrintMore
attribute [local go_sem] max2_int min2_int max_two min_two max_three min_three max_four min_four   -- for this text's walks alone
set_option linter.unusedVariables false
set_option linter.unusedSimpArgs false

/-! ### hand text a0b_spec_l2Day.lean -/
noncomputable def spec_l2Day.f (a0 : Int) : Option Bool := some (inB a0 (0) 40000)
set_option maxRecDepth 100000 in
theorem spec_l2Day.to (a : Int) (w : World) : Calls Try.prog 80 #[.int .i64 a] w fun e w' => e = .returned (.bool (inB a (0) 40000)) ∧ w' = w := by
  go_enter Try.func80, Try.ntmps80
  go_wp2_with fail
  refine (spec_l1In.to a (0) 40000 _).mono ?_
  rintro e w' ⟨rfl, rfl⟩
  go_wp2_with fail
  go_ret
  exact ⟨rfl, rfl⟩
theorem spec_l2Day.calls (a0 : Int) (r : Bool) (w : World) (h : spec_l2Day.f a0 = some r) :
    Calls Try.prog 80 #[.int .i64 a0] w fun e w' => e = .returned (.bool r) ∧ Drawn0 w w' := by
  obtain rfl := Option.some.inj h
  exact (spec_l2Day.to a0 w).mono fun e w' ⟨he, hw⟩ => ⟨he, hw ▸ Drawn0.refl _⟩


end Go.Proofs.Ytphmnkcfjgallaa.Q
namespace Go.Proofs.Ytphmnkcfjgallaa.Q
open Go.RowKit Go.Proofs.YtphmnkcfjgallaaW.PrintWords Go.Proofs.YtphmnkcfjgallaaW.PrintLast Go.Proofs.YtphmnkcfjgallaaW.PrintMore
attribute [local go_sem] max2_int min2_int max_two min_two max_three min_three max_four min_four   -- for this text's walks alone
set_option linter.unusedVariables false
set_option linter.unusedSimpArgs false

/-! ### hand text c2_specLeaf.lean -/
theorem and_bool {a b c : Bool} (h : a = true → c = b) (h2 : a = false → c = false) : c = (a && b) := by cases a <;> simp_all
set_option maxHeartbeats 4000000 in
set_option maxRecDepth 100000 in
theorem spec_Leaf.to (A0 : Option Addr) (c0 : Nat) (l0 : List Acc) (a : Int) (w : World) (hr0 : Kd.C k131 w A0 l0.length l0) (hs : ∀ x ∈ l0, x.f0.size ≤ maxLen) :
    Calls Try.prog 99 #[.slice A0 l0.length c0, .int .i64 a] w fun e w' => e = .returned (.bool (chartOk l0 && leafB l0 a)) ∧ Below w.heap.size w w' := by
  have hl := hr0.2.1
  have H0 := Aside0.mk hr0
  clear hr0
  go_enter Try.func99, Try.ntmps99
  go_wp2_with fail
  refine (spec_ChartOk.to A0 c0 l0 _ H0.out hs).mono ?_
  rintro e w1 ⟨rfl, hb⟩
  have HB := Aside0.mk hb
  clear hb
  cases hc : chartOk l0 with
  | false =>
    go_wp2_with fail
    go_ret
    exact ⟨ret_bool (by rw [hc]; rfl), HB.out⟩
  | true =>
    have HCH := Aside0.mk hc
    have HC := Aside0.mk (chartOk_iff.1 hc)
    clear hc
    have h1 := HC.out.1
    go_wp2_with fail
    refine (spec_l1In.to _ _ _ _).mono ?_
    rintro e w' ⟨rfl, rfl⟩
    cases hi : inB a 0 ((l0.length : Int) - 1) with
    | false =>
      have HI := Aside0.mk (inB_false.1 hi)
      clear hi
      go_wp2_with fail
      go_ret
      exact ⟨ret_bool (by rw [HCH.out, leafB_not (fun q => HI.out ⟨q.1, by have := q.2.1; omega⟩)]; rfl), HB.out⟩
    | true =>
      have HI := Aside0.mk (inB_true.1 hi)
      clear hi
      have ha0 : 0 ≤ a := HI.out.1
      have ha1 : a < (l0.length : Int) := by have := HI.out.2; omega
      go_wp2_with fail
      go_loop [5] (fun v => ∃ i : Int, 0 ≤ i ∧ i ≤ (l0.length : Int) ∧ v = .int .i64 i ∧ Aside0 (∀ j : Int, 0 ≤ j → j < i → par l0 j ≠ a)) (fun v => (l0.length - (intOf v).toNat))
      case atStart => exact ⟨0, by omega, by omega, rfl, ⟨fun j h0 h1 => by omega⟩⟩
      case round =>
        obtain ⟨i, hi0, hi1, rfl, HT⟩ := hrel
        by_cases hlt : i < (l0.length : Int)
        · obtain ⟨ad, e0, x0, x1, x2⟩ := at_T131 (Kd.C_below H0.out HB.out) i hi0 hlt
          cases e0
          by_cases he : (rd_T131 l0 i).f1 = a
          · have heb : ((rd_T131 l0 i).f1 == a) = true := beq_iff_eq.2 he
            have HE := Aside0.mk (show par l0 i = a from he)
            clear he
            go_wp2_with fail
            go_ret
            exact ⟨ret_bool (by rw [HCH.out, leafB_not (fun q => (leaf_iff HC.out.2.2 ha0 ha1).2 q i hi0 hlt HE.out)]; rfl), HB.out⟩
          · have heb : ((rd_T131 l0 i).f1 == a) = false := beq_eq_false_iff_ne.2 he
            have HE := Aside0.mk (show par l0 i ≠ a from he)
            clear he
            go_wp2_with fail
            go_round
            case rel => exact ⟨i + 1, by omega, by omega, rfl, ⟨fun j j0 j1 => by
              by_cases e : j = i
              · subst e; exact HE.out
              · exact HT.out j j0 (by omega)⟩⟩
            case measure => simp [intOf]; omega
        · go_wp2_with fail
          go_ret
          exact ⟨ret_bool (by rw [HCH.out, leafB_of ((leaf_iff HC.out.2.2 ha0 ha1).1 (fun j j0 j1 => HT.out j j0 (by omega)))]; rfl), HB.out⟩
-- CALLS spec_Leaf
open Classical in
noncomputable def spec_Leaf.f (l0 : List Acc) (a1 : Int) : Option Bool := if (∀ x ∈ l0, x.f0.size ≤ maxLen) then some (chartOk l0 && leafB l0 a1) else none
theorem spec_Leaf.calls (A0 : Option Addr) (c0 : Nat) (l0 : List Acc) (a : Int) (r : Bool) (w : World) (hr0 : Kd.C k131 w A0 l0.length l0) (hc0 : l0.length ≤ c0) (hf : spec_Leaf.f l0 a = some r) :
    Calls Try.prog 99 #[.slice A0 l0.length c0, .int .i64 a] w fun e w' => e = .returned (.bool r) ∧ Below w.heap.size w w' := by
  unfold spec_Leaf.f at hf
  split at hf
  · rename_i q
    cases hf
    exact spec_Leaf.to A0 c0 l0 a w hr0 q
  · cases hf


end Go.Proofs.Ytphmnkcfjgallaa.Q
namespace Go.Proofs.Ytphmnkcfjgallaa.Q
open Go.RowKit Go.Proofs.YtphmnkcfjgallaaW.PrintWords Go.Proofs.YtphmnkcfjgallaaW.PrintLast Go.Proofs.YtphmnkcfjgallaaW.PrintMore
attribute [local go_sem] max2_int min2_int max_two min_two max_three min_three max_four min_four   -- for this text's walks alone
set_option linter.unusedVariables false
set_option linter.unusedSimpArgs false

/-! ### hand text a0b_spec_l1Amount.lean -/
noncomputable def spec_l1Amount.f (a0 : Int) : Option Bool := some (inB a0 (-100000000000) 100000000000)
set_option maxRecDepth 100000 in
theorem spec_l1Amount.to (a : Int) (w : World) : Calls Try.prog 142 #[.int .i64 a] w fun e w' => e = .returned (.bool (inB a (-100000000000) 100000000000)) ∧ w' = w := by
  go_enter Try.func142, Try.ntmps142
  go_wp2_with fail
  refine (spec_l1In.to a (-100000000000) 100000000000 _).mono ?_
  rintro e w' ⟨rfl, rfl⟩
  go_wp2_with fail
  go_ret
  exact ⟨rfl, rfl⟩
theorem spec_l1Amount.calls (a0 : Int) (r : Bool) (w : World) (h : spec_l1Amount.f a0 = some r) :
    Calls Try.prog 142 #[.int .i64 a0] w fun e w' => e = .returned (.bool r) ∧ Drawn0 w w' := by
  obtain rfl := Option.some.inj h
  exact (spec_l1Amount.to a0 w).mono fun e w' ⟨he, hw⟩ => ⟨he, hw ▸ Drawn0.refl _⟩


end Go.Proofs.Ytphmnkcfjgallaa.Q
namespace Go.Proofs.Ytphmnkcfjgallaa.Q
open Go.RowKit Go.Proofs.YtphmnkcfjgallaaW.PrintWords Go.Proofs.YtphmnkcfjgallaaW.PrintLast Go.Proofs.YtphmnkcfjgallaaW.PrintMore
attribute [local go_sem] max2_int min2_int max_two min_two max_three min_three max_four min_four   -- for this text's walks alone
set_option linter.unusedVariables false
set_option linter.unusedSimpArgs false

/-! ### hand text d3_specline.lean -/
open Classical in
noncomputable def textB (s : ByteArray) : Bool := decide (textUpto s s.size ∧ s.size ≤ 40)
open Classical in
theorem textB_iff {s : ByteArray} : textB s = true ↔ textUpto s s.size ∧ s.size ≤ 40 := by unfold textB; rw [decide_eq_true_eq]
theorem textB_not {s : ByteArray} (h : ¬ (textUpto s s.size ∧ s.size ≤ 40)) : false = textB s := by
  cases hb : textB s with
  | false => rfl
  | true => exact absurd (textB_iff.1 hb) h
set_option maxHeartbeats 4000000 in
set_option maxRecDepth 100000 in
theorem spec_l5TextOk.to (s : ByteArray) (w : World) (hm : s.size ≤ maxLen) : Calls Try.prog 135 #[.string s] w fun x w' => x = .returned (.bool (textB s)) ∧ w' = w := by
  have hm' : (s.size : Int) ≤ 9223372036854775807 := by unfold maxLen at hm; omega
  go_enter Try.func135, Try.ntmps135
  go_wp2_with fail
  go_loop [3] (fun v => ∃ i : Int, 0 ≤ i ∧ i ≤ (s.size : Int) ∧ v = .int .i64 i ∧ Aside0 (textUpto s i)) (fun v => (s.size - (intOf v).toNat))
  case atStart => exact ⟨0, by omega, by omega, rfl, ⟨fun j h0 h1 => by omega⟩⟩
  case round =>
    obtain ⟨i, hi0, hi1, rfl, HT⟩ := hrel
    by_cases hlt : i < (s.size : Int)
    · have hx := bt_at s i
      by_cases hb : 32 ≤ bt s i
      · have HB := Aside0.mk (textUpto_step hi0 HT.out hb)
        go_wp2_with fail
        go_round
        case rel => exact ⟨i + 1, by omega, by omega, rfl, HB⟩
        case measure => simp [intOf]; omega
      · have HB := Aside0.mk (textB_not (fun q => hb (q.1 i hi0 hlt)))
        go_wp2_with fail
        go_ret
        exact ⟨ret_bool HB.out, rfl⟩
    · have HTX := Aside0.mk (show textUpto s s.size from fun j h0 h1 => HT.out j h0 (by omega))
      clear HT
      by_cases h4 : s.size ≤ 40
      · have h4' : (s.size : Int) ≤ 40 := by omega
        go_wp2_with fail
        go_ret
        exact ⟨ret_bool (by rw [textB_iff.2 ⟨HTX.out, h4⟩]), rfl⟩
      · go_wp2_with fail
        go_ret
        exact ⟨ret_bool (by rw [← textB_not (fun q => h4 q.2)]; simp; omega), rfl⟩
open Classical in
noncomputable def lineB (chart : List Acc) (dims curs : Int) (x : Lin) : Bool := decide (lineP chart dims curs x)
open Classical in
theorem lineB_true {chart : List Acc} {dims curs : Int} {x : Lin} : lineB chart dims curs x = true ↔ lineP chart dims curs x := by unfold lineB; rw [decide_eq_true_eq]
theorem lineB_not {chart : List Acc} {dims curs : Int} {x : Lin} (h : ¬ lineP chart dims curs x) : false = lineB chart dims curs x := by
  cases hb : lineB chart dims curs x with
  | false => rfl
  | true => exact absurd (lineB_true.1 hb) h
set_option maxHeartbeats 4000000 in
set_option maxRecDepth 100000 in
theorem spec_l5LineOk.to (A0 : Option Addr) (c0 : Nat) (l0 : List Acc) (dims curs : Int) (x : Lin) (w : World) (hr0 : Kd.C k131 w A0 l0.length l0) (hs : ∀ x ∈ l0, x.f0.size ≤ maxLen) (hch : chartOk l0 = true) (hd : 1 ≤ dims ∧ dims ≤ 20) (hc : 1 ≤ curs ∧ curs ≤ 20) :
    Calls Try.prog 136 #[.agg #[.slice A0 l0.length c0, .int .i64 dims, .int .i64 curs], .agg #[.int .i64 x.f0, .int .i64 x.f1, .int .i64 x.f2, .int .i64 x.f3, .int .i64 x.f4]] w fun e w' => e = .returned (.bool (lineB l0 dims curs x)) ∧ Below w.heap.size w w' := by
  have hl := hr0.2.1
  have hlen := (chartOk_iff.1 hch).2.1
  have H0 := Aside0.mk (Kd.C_below hr0 (below_two w (.cells #[.slice A0 l0.length c0, .int .i64 dims, .int .i64 curs] 26) (.cells #[.int .i64 x.f0, .int .i64 x.f1, .int .i64 x.f2, .int .i64 x.f3, .int .i64 x.f4] 112)))
  have HS := Aside0.mk hs
  have HCH := Aside0.mk hch
  obtain ⟨hd0, hd1⟩ := hd
  obtain ⟨hc0, hc1⟩ := hc
  clear hr0 hs hch
  go_enter Try.func136, Try.ntmps136
  go_wp2_with fail
  refine (spec_l1In.to _ _ _ _).mono ?_
  rintro e w' ⟨rfl, rfl⟩
  cases h1 : inB x.f0 0 ((l0.length : Int) - 1) with
  | false =>
    have HN := Aside0.mk (lineB_not (fun q => inB_false.1 h1 ⟨q.1.1, by have := q.1.2.1; omega⟩) : false = lineB l0 dims curs x)
    clear h1
    go_wp2_with fail
    go_ret
    exact ⟨ret_bool HN.out, below_two _ _ _⟩
  | true =>
    clear h1
    go_wp2_with fail
    refine (spec_Leaf.to A0 c0 l0 x.f0 _ H0.out HS.out).mono ?_
    rintro e w1 ⟨rfl, hb⟩
    have HB := Aside0.mk (below_into (w := w) hb (below_two _ _ _))
    have f1 : w1.cell? ⟨w.heap.size, 1, none⟩ = some (.int .i64 dims) := pw_cell_below hb (by go_simp)
    have f2 : w1.cell? ⟨w.heap.size, 2, none⟩ = some (.int .i64 curs) := pw_cell_below hb (by go_simp)
    have x1 : w1.cell? ⟨w.heap.size + 1, 1, none⟩ = some (.int .i64 x.f1) := pw_cell_below hb (by go_simp)
    have x2 : w1.cell? ⟨w.heap.size + 1, 2, none⟩ = some (.int .i64 x.f2) := pw_cell_below hb (by go_simp)
    have x3 : w1.cell? ⟨w.heap.size + 1, 3, none⟩ = some (.int .i64 x.f3) := pw_cell_below hb (by go_simp)
    have x4 : w1.cell? ⟨w.heap.size + 1, 4, none⟩ = some (.int .i64 x.f4) := pw_cell_below hb (by go_simp)
    clear hb
    rw [HCH.out, Bool.true_and]
    cases h2 : leafB l0 x.f0 with
    | false =>
      have HN := Aside0.mk (lineB_not (fun q => by have := leafB_of q.1; rw [h2] at this; cases this) : false = lineB l0 dims curs x)
      clear h2
      go_wp2_with fail
      go_ret
      exact ⟨ret_bool HN.out, HB.out⟩
    | true =>
      have HLF := Aside0.mk (leafB_true.1 h2)
      clear h2
      go_wp2_with fail
      refine (spec_l1In.to _ _ _ _).mono ?_
      rintro e w' ⟨rfl, rfl⟩
      cases h3 : inB x.f1 0 (dims - 1) with
      | false =>
        have HN := Aside0.mk (lineB_not (fun q => inB_false.1 h3 q.2.1) : false = lineB l0 dims curs x)
        clear h3
        go_wp2_with fail
        go_ret
        exact ⟨ret_bool HN.out, HB.out⟩
      | true =>
        have HDM := Aside0.mk (inB_true.1 h3)
        clear h3
        go_wp2_with fail
        refine (spec_l1In.to _ _ _ _).mono ?_
        rintro e w' ⟨rfl, rfl⟩
        cases h4 : inB x.f2 0 (curs - 1) with
        | false =>
          have HN := Aside0.mk (lineB_not (fun q => inB_false.1 h4 q.2.2.1) : false = lineB l0 dims curs x)
          clear h4
          go_wp2_with fail
          go_ret
          exact ⟨ret_bool HN.out, HB.out⟩
        | true =>
          have HCR := Aside0.mk (inB_true.1 h4)
          clear h4
          go_wp2_with fail
          refine (spec_l1Amount.to _ _).mono ?_
          rintro e w' ⟨rfl, rfl⟩
          cases h5 : inB x.f3 (-100000000000) 100000000000 with
          | false =>
            have HN := Aside0.mk (lineB_not (fun q => inB_false.1 h5 q.2.2.2.1) : false = lineB l0 dims curs x)
            clear h5
            go_wp2_with fail
            go_ret
            exact ⟨ret_bool HN.out, HB.out⟩
          | true =>
            have HAM := Aside0.mk (inB_true.1 h5)
            clear h5
            go_wp2_with fail
            refine (spec_l1Amount.to _ _).mono ?_
            rintro e w' ⟨rfl, rfl⟩
            cases h6 : inB x.f4 (-100000000000) 100000000000 with
            | false =>
              have HN := Aside0.mk (lineB_not (fun q => inB_false.1 h6 q.2.2.2.2.1) : false = lineB l0 dims curs x)
              clear h6
              go_wp2_with fail
              go_ret
              exact ⟨ret_bool HN.out, HB.out⟩
            | true =>
              have HBS := Aside0.mk (inB_true.1 h6)
              clear h6
              by_cases h7 : x.f2 = 0
              · have h7b : (x.f2 != 0) = false := by rw [h7]; rfl
                by_cases h8 : x.f3 = x.f4
                · have HY := Aside0.mk (lineB_true.2 (show lineP l0 dims curs x from ⟨HLF.out, HDM.out, HCR.out, HAM.out, HBS.out, fun _ => h8⟩))
                  have h8b : (x.f3 == x.f4) = true := beq_iff_eq.2 h8
                  clear h7 h8
                  go_wp2_with fail
                  go_ret
                  exact ⟨ret_bool HY.out.symm, HB.out⟩
                · have HN := Aside0.mk (lineB_not (fun q => h8 (q.2.2.2.2.2 h7)) : false = lineB l0 dims curs x)
                  have h8b : (x.f3 == x.f4) = false := beq_eq_false_iff_ne.2 h8
                  clear h7 h8
                  go_wp2_with fail
                  go_ret
                  exact ⟨ret_bool HN.out, HB.out⟩
              · have HY := Aside0.mk (lineB_true.2 (show lineP l0 dims curs x from ⟨HLF.out, HDM.out, HCR.out, HAM.out, HBS.out, fun q => absurd q h7⟩))
                have h7b : (x.f2 != 0) = true := bne_iff_ne.2 h7
                clear h7
                go_wp2_with fail
                go_ret
                exact ⟨ret_bool HY.out.symm, HB.out⟩


end Go.Proofs.Ytphmnkcfjgallaa.Q
