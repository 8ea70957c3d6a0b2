/- Parts of the proof: what functions of the program and of the reference answer.
   No condition. -/
import Derived.Test.YtphmnkcfjgallaaZSpread1
import Derived.Test.YtphmnkcfjgallaaZSpread4
import Derived.Test.YtphmnkcfjgallaaZSpread5
namespace Go.Proofs.Ytphmnkcfjgallaa.Q
open Go.RowKit Go.Proofs.YtphmnkcfjgallaaW.PrintWords Go.Proofs.YtphmnkcfjgallaaW.PrintLast Go.Proofs.YtphmnkcfjgallaaW.PrintMore
attribute [local go_sem] max2_int min2_int max_two min_two max_three min_three max_four min_four   -- for this text's walks alone
set_option linter.unusedVariables false
set_option linter.unusedSimpArgs false
def ArrAt (w : World) (g n : Nat) (d : Int → Int) : Prop := ∃ cur : Array Value, w.heap[g]? = some (.cells cur 3 (0, 0)) ∧ n ≤ cur.size ∧ ∀ j : Int, 0 ≤ j → j < n → cur[j.toNat]? = some (.int .i64 (d j))
theorem zero3 (w : World) : (zeroValue 3).run Try.prog w = .ok (.int .i64 0) w := by kernel_rfl
noncomputable def strK : HMap.KeyK Try.prog 9 ByteArray := HMap.strKey Try.underlying9
theorem wr_var {wr w2 : World} {c : Array Value} {t b : Nat} (hg : (wr.alloc (.cells c t)).grownBy w2 (some b)) (hb : b < wr.heap.size) : w2.heap[wr.heap.size]? = some (.cells c t (0, 0)) :=
  (hg.block wr.heap.size (by simp) (by intro e; injection e with e; omega)).trans (blk_new wr _)
theorem dep_ret {v : Value} {b c : Bool} (h : b = c) : Ending.returned (.tuple #[v, .bool b]) = Ending.returned (.tuple #[v, .bool c]) := by rw [h]
def DepPost (w : World) (b : Bool) (e : Ending) (w' : World) : Prop := ∃ v0_ : Value, e = .returned (.tuple #[v0_, .bool b]) ∧ Below w.heap.size w w'
structure DepInv (chart : List Acc) (w wr : World) (gm gd : Nat) (i : Int) : Prop where
  map : ∃ f : ByteArray → Option Int, HMap.MapIs Try.prog 9 3 strK wr gm i.toNat f ∧ ∀ s, (f s).isSome = true ↔ ∃ j : Int, 0 ≤ j ∧ j < i ∧ code chart j = s
  arr : ArrAt wr gd chart.length (fun j => if j < i then deepAt chart j else 0)
  rows : rowsOk chart i
  bel : Below w.heap.size w wr
  gm0 : w.heap.size ≤ gm
  gd0 : w.heap.size ≤ gd
theorem arr_of_own {w : World} {base g n : Nat} (h : w.ownsRow base 3 1 (.slice (some ⟨g, 0, none⟩) n n) n (madeCells (Value.int .i64 0).cells (n * 1)).toList) : ArrAt w g n (fun _ => 0) := by
  obtain ⟨hl, h⟩ := h
  rcases h with ⟨h, _⟩ | ⟨g', cap, cur, hv, _, hh, hn, _, hs, ht⟩
  · simp at h
  · simp only [Value.slice.injEq, Option.some.injEq, Addr.mk.injEq] at hv
    obtain ⟨⟨rfl, _⟩, _, rfl⟩ := hv
    refine ⟨cur, hh, by omega, fun j h0 h1 => ?_⟩
    have e : (cur.toList.take (n * 1))[j.toNat]? = (madeCells (Value.int .i64 0).cells (n * 1)).toList[j.toNat]? := by rw [ht]
    rw [List.getElem?_take, if_pos (by omega)] at e
    rw [← Array.getElem?_toList, e]
    simp [madeCells, Value.cells]
    exact ⟨j.toNat, by rw [List.getElem?_range (by omega)], by simp [Nat.mod_one]⟩
theorem dep_blk {wr w2 : World} {c cur : Array Value} {t t' gm g : Nat} (hg : (wr.alloc (.cells c t)).grownBy w2 (some gm)) (hlt : g ≠ gm) (h : wr.heap[g]? = some (.cells cur t' (0, 0))) (hw : True) : w2.heap[g]? = some (.cells cur t' (0, 0)) :=
  (hg.block g (by have := blk_lt h; simp; omega) (by intro e; injection e with e; omega)).trans (blk_alloc h _)
theorem dep_zero' {chart : List Acc} {cur : Array Value} {i : Int} {n : Nat} (h : ∀ j : Int, 0 ≤ j → j < n → cur[j.toNat]? = some (.int .i64 ((fun j => if j < i then deepAt chart j else 0) j))) (hp : par chart i = -1) : ∀ j : Int, 0 ≤ j → j < n → cur[j.toNat]? = some (.int .i64 ((fun j => if j < i + 1 then deepAt chart j else 0) j)) := by
  intro j j0 j1
  rw [h j j0 j1]
  simp only
  by_cases e : j < i
  · rw [if_pos e, if_pos (by omega)]
  · rw [if_neg e]
    by_cases e2 : j = i
    · subst e2; rw [if_pos (by omega), deep_zero hp]
    · rw [if_neg (by omega)]
theorem dep_set {chart : List Acc} {cur : Array Value} {i : Int} {n : Nat} {v : Int} (h : ∀ j : Int, 0 ≤ j → j < n → cur[j.toNat]? = some (.int .i64 ((fun j => if j < i then deepAt chart j else 0) j))) (h0 : 0 ≤ i) (hn : i.toNat < cur.size) (hv : deepAt chart i = v + 1) : ∀ j : Int, 0 ≤ j → j < n → (cur.setIfInBounds i.toNat (.int .i64 (v + 1)))[j.toNat]? = some (.int .i64 ((fun j => if j < i + 1 then deepAt chart j else 0) j)) := by
  intro j j0 j1
  simp only
  rw [Array.getElem?_setIfInBounds]
  by_cases e : j = i
  · subst e
    rw [if_pos rfl, if_pos hn, if_pos (by omega), hv]
  · rw [if_neg (by omega), h j j0 j1]
    simp only
    by_cases e2 : j < i
    · rw [if_pos e2, if_pos (by omega)]
    · rw [if_neg e2, if_neg (by omega)]
theorem dep_next {chart : List Acc} {w wr w2 : World} {gm gd : Nat} {i : Int} {f : ByteArray → Option Int} (HI : DepInv chart w wr gm gd i) (hm2 : HMap.MapIs Try.prog 9 3 strK w2 gm (i.toNat + 1) (HMap.upd f (code chart i) i))
    (hf : ∀ s, (f s).isSome = true ↔ ∃ j : Int, 0 ≤ j ∧ j < i ∧ code chart j = s) (hB : Below w.heap.size w w2) (harr : ArrAt w2 gd chart.length (fun j => if j < i + 1 then deepAt chart j else 0)) (h0 : 0 ≤ i) (hr : rowOk chart i) : DepInv chart w w2 gm gd (i + 1) where
  map := ⟨_, by rw [show (i + 1).toNat = i.toNat + 1 by omega]; exact hm2, fun s => by
    by_cases e : s = code chart i
    · subst e
      rw [HMap.upd_same]
      exact ⟨fun _ => ⟨i, h0, by omega, rfl⟩, fun _ => rfl⟩
    · rw [HMap.upd_other _ _ e, hf]
      constructor
      · rintro ⟨j, j0, j1, j2⟩
        exact ⟨j, j0, by omega, j2⟩
      · rintro ⟨j, j0, j1, j2⟩
        by_cases e2 : j = i
        · subst e2; exact absurd j2.symm e
        · exact ⟨j, j0, by omega, j2⟩⟩
  arr := harr
  rows := rows_step h0 HI.rows hr
  bel := hB
  gm0 := HI.gm0
  gd0 := HI.gd0
set_option maxHeartbeats 8000000 in
set_option maxRecDepth 100000 in
theorem impl_depths.to (A0 : Option Addr) (c0 : Nat) (l0 : List Acc) (w : World) (hr0 : Kd.C k131 w A0 l0.length l0) (hs : ∀ x ∈ l0, x.f0.size ≤ maxLen) :
    Calls Try.prog 156 #[.slice A0 l0.length c0] w (DepPost w (chartOk l0)) := by
  have hl := hr0.2.1
  have H0 := Aside0.mk hr0
  have HS := Aside0.mk hs
  clear hr0 hs
  by_cases h1 : 1 ≤ l0.length
  · by_cases h2 : l0.length ≤ 120
    · have hmm := @run_makeMap Try.prog
      obtain ⟨i0, hi, hz0, hz1, hz2⟩ := info_parts (show (Try.prog.info? 3).map (fun i => (i.zero, i.size, i.bytes)) = some (some (.int .i64 0), 1, 8) by kernel_rfl)
      go_enter Try.func156, Try.ntmps156
      go_wp2_with (at_make; refine wpList_make_full _ rfl _ _ 46 rfl w.heap.size 3 i0 (.int .i64 0) 1 Try.underlying46 hi hz0 hz1 _ _ _ _ l0.length rfl rfl rfl rfl (by rw [hz2]; omega) (by unfold maxLen; omega) (by simp) ?_; intro w1 hown1 hgrow1)
      have hmap1 : HMap.MapIs Try.prog 9 3 strK w1 w.heap.size 0 (fun _ => none) := (HMap.MapIs.made w _ _ _ _).kept hgrow1 (by simp)
      have hI : DepInv l0 w w1 w.heap.size (w.heap.size + 1) 0 := ⟨⟨_, hmap1, fun s => ⟨fun h => by simp at h, fun ⟨j, h0, h1, _⟩ => by omega⟩⟩, by
        obtain ⟨cur, hc1, hc2, hc3⟩ := arr_of_own (g := w.heap.size + 1) (by simpa using hown1)
        exact ⟨cur, hc1, hc2, fun j h0 h1 => by rw [hc3 j h0 h1]; show _ = some (Value.int .i64 (if j < 0 then deepAt l0 j else 0)); rw [if_neg (by omega)]⟩, fun j h0 h1 => by omega, Below.grown (below_alloc (Below.refl w.heap.size w) (.map #[] 0)) hgrow1 (by simp) (fun j hj => by cases hj), Nat.le_refl _, by omega⟩
      have HI := Aside0.mk hI
      clear hI hmap1 hown1 hgrow1
      go_loopw [25] (fun v wr => ∃ i : Int, 0 ≤ i ∧ i ≤ (l0.length : Int) ∧ v = .int .i64 i ∧ Aside0 (DepInv l0 w wr w.heap.size (w.heap.size + 1) i)) (fun v _ => (l0.length - (intOf v).toNat))
      case atStart => exact ⟨0, by omega, by omega, rfl, HI⟩
      case round =>
        clear HI
        obtain ⟨i, hi0, hi1, rfl, HI⟩ := hrel
        by_cases hlt : i < (l0.length : Int)
        · obtain ⟨f, hf1, hf2⟩ := HI.out.map
          have HF := Aside0.mk hf1
          have HF2 := Aside0.mk hf2
          clear hf1 hf2
          obtain ⟨ad, e0, x0, x1, x2⟩ := at_T131 (Kd.C_below H0.out HI.out.bel) i hi0 hlt
          cases e0
          have HK := Aside0.mk (show strK.ok (code l0 i) from all_at (z := z131) (p := fun x => x.f0.size ≤ maxLen) hi0 hlt HS.out)
          have HWI := Aside0.mk (wf_of (n := i) (by omega))
          have hgm : w.heap.size < wr.heap.size := HF.out.lt
          obtain ⟨cur, hc1, hc2, hc3⟩ := HI.out.arr
          have HC1 := Aside0.mk hc1
          have HC3 := Aside0.mk hc3
          clear hc1 hc3
          have X := Aside0.mk (And.intro x0 (And.intro x1 x2))
          by_cases hfr : fresh l0 i
          · have hfs : (f (code l0 i)).isSome = false := by
              rw [Bool.eq_false_iff]
              intro h
              obtain ⟨j, h0, h1', h2'⟩ := (HF2.out _).1 h
              exact hfr j h0 h1' h2'
            have HFR := Aside0.mk hfr
            clear hfr
            go_wp2_with (at_lookup; refine HMap.wpList_look_ok (K := strK) (f := f) (b := w.heap.size) (n := i.toNat) rfl _ _ 196 rfl Try.underlying196 Try.underlying3 (zero3 _) rfl (by exact HF.out.alloc _) (code l0 i) rfl (by exact HK.out) ?_; intro c)
            refine (impl_NameOk.to (code l0 i) _).mono ?_
            rintro e w' ⟨rfl, rfl⟩
            cases hnm : nameOk (code l0 i) with
            | false =>
              go_wp2_with fail
              go_ret2
              exact ⟨_, dep_ret (by rw [chartOk_row hi0 hlt (fun q => by have := q.2.1; rw [hnm] at this; cases this)]), below_alloc HI.out.bel _⟩
            | true =>
              have HNM := Aside0.mk hnm
              clear hnm hfs
              go_wp2_with fail
              refine (impl_kindOk.to (knd l0 i) _).mono ?_
              rintro e w' ⟨rfl, rfl⟩
              cases hkd : inB (knd l0 i) 1 5 with
              | false =>
                go_wp2_with fail
                go_ret2
                exact ⟨_, dep_ret (by rw [chartOk_row hi0 hlt (fun q => inB_false.1 hkd q.2.2.1)]), below_alloc HI.out.bel _⟩
              | true =>
                have HKD := Aside0.mk hkd
                clear hkd
                by_cases hp : par l0 i = -1
                · have hpb : ((rd_T131 l0 i).f1 == -1) = true := by rw [show (rd_T131 l0 i).f1 = -1 from hp]; rfl
                  have HP := Aside0.mk hp
                  clear hp
                  go_wp2_with (at_mapUpdate; refine HMap.wpList_upd (K := strK) (f := f) (b := w.heap.size) (n := i.toNat) rfl _ _ _ 196 rfl Try.underlying196 Try.underlying3 rfl (by exact HF.out.alloc _) (by unfold maxLen; omega) (code l0 i) i rfl (by exact HK.out) rfl (by exact HWI.out) ?_; intro w2 hm2 hg2; have hb2 := wr_var (wr := wr) hg2 (by omega); have y0 := blk_cell hb2 0; have y1 := blk_cell hb2 1; have y2 := blk_cell hb2 2)
                  go_roundw
                  case rel => exact ⟨i + 1, by omega, by omega, rfl, ⟨dep_next HI.out hm2 HF2.out (Below.grown (below_alloc HI.out.bel _) hg2 (below_alloc HI.out.bel _).size (fun j hj => by cases hj; exact Nat.le_refl _)) ⟨cur, dep_blk hg2 (by omega) HC1.out trivial, hc2, fun j j0 j1 => dep_zero' HC3.out HP.out j j0 j1⟩ hi0 ⟨HFR.out, HNM.out, inB_true.1 HKD.out, Or.inl HP.out⟩⟩⟩
                  case measure => simp [intOf]; omega
                · have hpb : ((rd_T131 l0 i).f1 == -1) = false := beq_eq_false_iff_ne.2 hp
                  have HP := Aside0.mk hp
                  clear hp
                  go_wp2_with (at_mapUpdate; refine HMap.wpList_upd (K := strK) (f := f) (b := w.heap.size) (n := i.toNat) rfl _ _ _ 196 rfl Try.underlying196 Try.underlying3 rfl (by exact HF.out.alloc _) (by unfold maxLen; omega) (code l0 i) i rfl (by exact HK.out) rfl (by exact HWI.out) ?_; intro w2 hm2 hg2; have hb2 := wr_var (wr := wr) hg2 (by omega); have y0 := blk_cell hb2 0; have y1 := blk_cell hb2 1; have y2 := blk_cell hb2 2)
                  have HB2 := Aside0.mk (Below.grown (below_alloc HI.out.bel (.cells #[.string (rd_T131 l0 i).f0, .int .i64 (rd_T131 l0 i).f1, .int .i64 (rd_T131 l0 i).f2] 131)) hg2 (below_alloc HI.out.bel _).size (fun j hj => by cases hj; exact Nat.le_refl _))
                  have HD := Aside0.mk (dep_blk hg2 (by omega) HC1.out trivial)
                  have HM2 := Aside0.mk hm2
                  have hlo := Aside0.mk (rows_lo HI.out.rows)
                  have hpar := Aside0.mk (rows_par HI.out.rows)
                  clear hm2 hg2
                  go_loop [10] (fun v => ∃ k : Int, -1 ≤ k ∧ k < i ∧ v = .int .i64 k ∧ Aside0 (∀ n : Nat, k + 1 ≤ n → climb l0 (par l0 i) n k = up l0 i)) (fun v => (intOf v + 1).toNat)
                  case atStart => exact ⟨i - 1, by omega, by omega, rfl, ⟨fun n hn => climb_more l0 (par l0 i) i hpar.out _ _ _ (by omega) hn (by omega)⟩⟩
                  case round =>
                    obtain ⟨k, hk0, hk1, rfl, HCL⟩ := hrel
                    by_cases hk : 0 ≤ k
                    · obtain ⟨ad', e0, z0, z1, z2⟩ := at_T131 (Kd.C_below H0.out HB2.out) k hk (by omega)
                      obtain rfl : ad = ad' := by injection e0
                      by_cases hkp : k = par l0 i
                      · have hkb : (k != (rd_T131 l0 i).f1) = false := by rw [hkp]; exact bne_self_eq_false' _
                        have HU := Aside0.mk (climb_at (fun q => q.2 hkp) HCL.out)
                        clear hkp
                        have hkl : k < (l0.length : Int) := by omega
                        have hd := blk_cell HD.out k.toNat
                        rw [HC3.out k hk (by omega), if_pos hk1] at hd
                        by_cases hkd : knd l0 k = knd l0 i
                        · have hkdb : ((rd_T131 l0 k).f2 != (rd_T131 l0 i).f2) = false := by rw [show (rd_T131 l0 k).f2 = (rd_T131 l0 i).f2 from hkd]; exact bne_self_eq_false' _
                          have HKE := Aside0.mk hkd
                          clear hkd
                          by_cases hde : 8 ≤ deepAt l0 k
                          · go_wp2_with fail
                            go_quiet (fail)
                            go_wp2_with fail
                            go_ret2
                            exact ⟨_, dep_ret (by rw [chartOk_row hi0 hlt (fun q => by rcases q.2.2.2 with q | ⟨_, _, q⟩; exact HP.out q; rw [HU.out] at q; omega)]), pw_below_drewN HB2.out _⟩
                          · have hs := blk_cell HD.out i.toNat
                            rw [HC3.out i hi0 hlt, if_neg (by omega)] at hs
                            have hfz := blk_frozen HD.out i.toNat
                            have hd0 : 0 ≤ deepAt l0 k := anc_nonneg _ _ _
                            go_wp2_with fail
                            go_quiet (fail)
                            go_wp2_with fail
                            go_roundw
                            case rel => exact ⟨i + 1, by omega, by omega, rfl, ⟨dep_next HI.out ((HM2.out.drewN _).far (by simp) _) HF2.out (below_set (pw_below_drewN HB2.out _) (by simp)) ⟨_, blk_set (blk_drewN HD.out _) _ _, by simpa using hc2, fun j j0 j1 => dep_set HC3.out hi0 (by omega) (by rw [← HU.out]; exact deep_up HI.out.rows hi0 (by rw [HU.out]; exact hk)) j j0 j1⟩ hi0 ⟨HFR.out, HNM.out, inB_true.1 HKD.out, Or.inr ⟨by rw [HU.out]; exact hk, by rw [HU.out]; exact HKE.out, by rw [HU.out]; omega⟩⟩⟩⟩
                            case measure => simp [intOf]; omega
                        · have hkdb : ((rd_T131 l0 k).f2 != (rd_T131 l0 i).f2) = true := bne_iff_ne.2 hkd
                          have HKE := Aside0.mk hkd
                          clear hkd
                          go_wp2_with fail
                          go_quiet (fail)
                          go_wp2_with fail
                          go_ret2
                          exact ⟨_, dep_ret (by rw [chartOk_row hi0 hlt (fun q => by rcases q.2.2.2 with q | ⟨_, q, _⟩; exact HP.out q; rw [HU.out] at q; exact HKE.out q)]), pw_below_drewN HB2.out _⟩
                      · have hkb : (k != (rd_T131 l0 i).f1) = true := bne_iff_ne.2 hkp
                        have HKP := Aside0.mk hkp
                        clear hkp
                        have b1 := hlo.out k hk (by omega)
                        have b2 := hpar.out k hk (by omega)
                        go_wp2_with fail
                        go_round
                        case rel => exact ⟨par l0 k, b1, by omega, rfl, ⟨climb_go hpar.out hk hk1 HKP.out HCL.out⟩⟩
                        case measure => show (par l0 k + 1).toNat < (k + 1).toNat; omega
                    · have HU := Aside0.mk (climb_at (fun q => hk q.1) HCL.out)
                      go_wp2_with fail
                      go_quiet (fail)
                      go_wp2_with fail
                      go_ret2
                      exact ⟨_, dep_ret (by rw [chartOk_row hi0 hlt (fun q => by rcases q.2.2.2 with q | ⟨q, _⟩; exact HP.out q; rw [HU.out] at q; omega)]), pw_below_drewN HB2.out _⟩
          · have hfs : (f (code l0 i)).isSome = true := by
              rw [HF2.out]
              unfold fresh at hfr
              simp only [Classical.not_forall] at hfr
              obtain ⟨j, h0, h1', h2'⟩ := hfr
              exact ⟨j, h0, h1', Classical.not_not.1 h2'⟩
            go_wp2_with (at_lookup; refine HMap.wpList_look_ok (K := strK) (f := f) (b := w.heap.size) (n := i.toNat) rfl _ _ 196 rfl Try.underlying196 Try.underlying3 (zero3 _) rfl (by exact HF.out.alloc _) (code l0 i) rfl (by exact HK.out) ?_; intro c)
            go_ret2
            exact ⟨_, dep_ret (by rw [chartOk_row hi0 hlt (fun q => hfr q.1)]), below_alloc HI.out.bel _⟩
        · go_wp2_with fail
          go_ret2
          exact ⟨_, dep_ret (by rw [chartOk_all h1 h2 (by omega) HI.out.rows]), HI.out.bel⟩
    · go_enter Try.func156, Try.ntmps156
      go_wp2_with fail
      go_ret2
      exact ⟨_, dep_ret (by rw [chartOk_len (by omega)]), Below.refl _ _⟩
  · go_enter Try.func156, Try.ntmps156
    go_wp2_with fail
    go_ret2
    exact ⟨_, dep_ret (by rw [chartOk_len (by omega)]), Below.refl _ _⟩
end Go.Proofs.Ytphmnkcfjgallaa.Q
namespace Go.Proofs.Ytphmnkcfjgallaa.Q
open Go.RowKit Go.Proofs.YtphmnkcfjgallaaW.PrintWords Go.Proofs.YtphmnkcfjgallaaW.PrintLast Go.Proofs.YtphmnkcfjgallaaW.PrintMore
attribute [local go_sem] max2_int min2_int max_two min_two max_three min_three max_four min_four   -- for this text's walks alone
set_option linter.unusedVariables false
set_option linter.unusedSimpArgs false
set_option maxHeartbeats 4000000 in
set_option maxRecDepth 100000 in
theorem laws_eqEntry.calls (a0_0 : Int) (a0_1 : Int) (a0_2 : ByteArray) (A0_3 : Option Addr) (c0_3 : Nat) (l0_3 : List (S112)) (a1_0 : Int) (a1_1 : Int) (a1_2 : ByteArray) (A1_3 : Option Addr) (c1_3 : Nat) (l1_3 : List (S112)) (w : World) (hr0_3 : Kd.C k112 w A0_3 l0_3.length l0_3) (hr1_3 : Kd.C k112 w A1_3 l1_3.length l1_3) :
    Calls Try.prog 55 #[.agg #[.int .i64 a0_0, .int .i64 a0_1, .string a0_2, .slice A0_3 l0_3.length c0_3], .agg #[.int .i64 a1_0, .int .i64 a1_1, .string a1_2, .slice A1_3 l1_3.length c1_3]] w fun e w' => e = .returned (.bool (same ((⟨a0_0, a0_1, a0_2, l0_3⟩ : S34) : S34) ((⟨a1_0, a1_1, a1_2, l1_3⟩ : S34) : S34))) ∧ Below w.heap.size w w' := by
  have Hl0_3 := Aside0.mk hr0_3
  clear hr0_3
  have Hl1_3 := Aside0.mk hr1_3
  clear hr1_3
  by_cases h0 : a0_0 = a1_0
  · have hb0 : (a0_0 != a1_0) = false := by rw [h0]; simp
    have E0 := Aside0.mk h0
    clear h0
    by_cases h1 : a0_1 = a1_1
    · have hb1 : (a0_1 != a1_1) = false := by rw [h1]; simp
      have E1 := Aside0.mk h1
      clear h1
      by_cases h2 : a0_2 = a1_2
      · have hb2 : (!a0_2.toList == a1_2.toList) = false := by rw [h2]; simp
        have E2 := Aside0.mk h2
        clear h2
        go_enter Try.func55, Try.ntmps55
        go_wp2_with fail
        refine (laws_eqLineS.calls A0_3 c0_3 l0_3 A1_3 c1_3 l1_3 _ (Kd.C_below Hl0_3.out (by repeat (first | exact Below.refl _ _ | refine below_alloc ?_ _ | refine below_drew1 ?_ | refine pw_below_drewN ?_ _))) (Kd.C_below Hl1_3.out (by repeat (first | exact Below.refl _ _ | refine below_alloc ?_ _ | refine below_drew1 ?_ | refine pw_below_drewN ?_ _)))).mono ?_
        rintro e w13 ⟨rfl, hb⟩
        have HB3 := Aside0.mk (below_into (w := w) hb (by repeat (first | exact Below.refl _ _ | refine below_alloc ?_ _ | refine below_drew1 ?_ | refine pw_below_drewN ?_ _)))
        clear hb
        by_cases h3 : l0_3 = l1_3
        · rw [← same_true h3]
          have E3 := Aside0.mk h3
          clear h3
          go_wp2
          go_ret
          exact ⟨ret_bool (same_true (by rw [E0.out, E1.out, E2.out, E3.out])), HB3.out⟩
        · rw [← same_false h3]
          have E3 := Aside0.mk h3
          clear h3
          go_wp2
          go_ret
          exact ⟨ret_bool (same_false (fun h => E3.out (congrArg (fun x : S34 => x.f3) h))), HB3.out⟩
      · have hb2 : (!a0_2.toList == a1_2.toList) = true := by exact bytes_bne h2
        have E2 := Aside0.mk h2
        clear h2
        go_enter Try.func55, Try.ntmps55
        go_wp2
        go_ret
        exact ⟨ret_bool (same_false (fun h => E2.out (congrArg (fun x : S34 => x.f2) h))), below_two _ _ _⟩
    · have hb1 : (a0_1 != a1_1) = true := by simpa using h1
      have E1 := Aside0.mk h1
      clear h1
      go_enter Try.func55, Try.ntmps55
      go_wp2
      go_ret
      exact ⟨ret_bool (same_false (fun h => E1.out (congrArg (fun x : S34 => x.f1) h))), below_two _ _ _⟩
  · have hb0 : (a0_0 != a1_0) = true := by simpa using h0
    have E0 := Aside0.mk h0
    clear h0
    go_enter Try.func55, Try.ntmps55
    go_wp2
    go_ret
    exact ⟨ret_bool (same_false (fun h => E0.out (congrArg (fun x : S34 => x.f0) h))), below_two _ _ _⟩
end Go.Proofs.Ytphmnkcfjgallaa.Q
namespace Go.Proofs.Ytphmnkcfjgallaa.Q
open Go.RowKit Go.Proofs.YtphmnkcfjgallaaW.PrintWords Go.Proofs.YtphmnkcfjgallaaW.PrintLast Go.Proofs.YtphmnkcfjgallaaW.PrintMore
attribute [local go_sem] max2_int min2_int max_two min_two max_three min_three max_four min_four   -- for this text's walks alone
set_option linter.unusedVariables false
set_option linter.unusedSimpArgs false
set_option maxHeartbeats 4000000 in
set_option maxRecDepth 100000 in
theorem laws_eqFrame.calls (A0_0 : Option Addr) (c0_0 : Nat) (l0_0 : List (S131)) (a0_1 : Int) (a0_2 : Int) (A1_0 : Option Addr) (c1_0 : Nat) (l1_0 : List (S131)) (a1_1 : Int) (a1_2 : Int) (w : World) (hr0_0 : Kd.C k131 w A0_0 l0_0.length l0_0) (hr1_0 : Kd.C k131 w A1_0 l1_0.length l1_0) :
    Calls Try.prog 41 #[.agg #[.slice A0_0 l0_0.length c0_0, .int .i64 a0_1, .int .i64 a0_2], .agg #[.slice A1_0 l1_0.length c1_0, .int .i64 a1_1, .int .i64 a1_2]] w fun e w' => e = .returned (.bool (same ((⟨l0_0, a0_1, a0_2⟩ : S26) : S26) ((⟨l1_0, a1_1, a1_2⟩ : S26) : S26))) ∧ Below w.heap.size w w' := by
  have Hl0_0 := Aside0.mk hr0_0
  clear hr0_0
  have Hl1_0 := Aside0.mk hr1_0
  clear hr1_0
  go_enter Try.func41, Try.ntmps41
  go_wp2_with fail
  refine (laws_eqAccountS.calls A0_0 c0_0 l0_0 A1_0 c1_0 l1_0 _ (Kd.C_below Hl0_0.out (by repeat (first | exact Below.refl _ _ | refine below_alloc ?_ _ | refine below_drew1 ?_ | refine pw_below_drewN ?_ _))) (Kd.C_below Hl1_0.out (by repeat (first | exact Below.refl _ _ | refine below_alloc ?_ _ | refine below_drew1 ?_ | refine pw_below_drewN ?_ _)))).mono ?_
  rintro e w10 ⟨rfl, hb⟩
  have s0_a1 : w10.cell? ⟨w.heap.size, 1, none⟩ = some (.int .i64 a0_1) := pw_cell_below hb (by first | assumption | (go_simp; done))
  have s0_a2 : w10.cell? ⟨w.heap.size, 2, none⟩ = some (.int .i64 a0_2) := pw_cell_below hb (by first | assumption | (go_simp; done))
  have s0_b1 : w10.cell? ⟨w.heap.size + 1, 1, none⟩ = some (.int .i64 a1_1) := pw_cell_below hb (by first | assumption | (go_simp; done))
  have s0_b2 : w10.cell? ⟨w.heap.size + 1, 2, none⟩ = some (.int .i64 a1_2) := pw_cell_below hb (by first | assumption | (go_simp; done))
  have HB0 := Aside0.mk (below_into (w := w) hb (by repeat (first | exact Below.refl _ _ | refine below_alloc ?_ _ | refine below_drew1 ?_ | refine pw_below_drewN ?_ _)))
  clear hb
  by_cases h0 : l0_0 = l1_0
  · rw [← same_true h0]
    have E0 := Aside0.mk h0
    clear h0
    by_cases h1 : a0_1 = a1_1
    · have hb1 : (a0_1 != a1_1) = false := by rw [h1]; simp
      have E1 := Aside0.mk h1
      clear h1
      by_cases h2 : a0_2 = a1_2
      · have hb2 : (a0_2 != a1_2) = false := by rw [h2]; simp
        have E2 := Aside0.mk h2
        clear h2
        go_wp2
        go_ret
        exact ⟨ret_bool (same_true (by rw [E0.out, E1.out, E2.out])), HB0.out⟩
      · have hb2 : (a0_2 != a1_2) = true := by simpa using h2
        have E2 := Aside0.mk h2
        clear h2
        go_wp2
        go_ret
        exact ⟨ret_bool (same_false (fun h => E2.out (congrArg (fun x : S26 => x.f2) h))), HB0.out⟩
    · have hb1 : (a0_1 != a1_1) = true := by simpa using h1
      have E1 := Aside0.mk h1
      clear h1
      go_wp2
      go_ret
      exact ⟨ret_bool (same_false (fun h => E1.out (congrArg (fun x : S26 => x.f1) h))), HB0.out⟩
  · rw [← same_false h0]
    have E0 := Aside0.mk h0
    clear h0
    go_wp2
    go_ret
    exact ⟨ret_bool (same_false (fun h => E0.out (congrArg (fun x : S26 => x.f0) h))), HB0.out⟩
end Go.Proofs.Ytphmnkcfjgallaa.Q
namespace Go.Proofs.Ytphmnkcfjgallaa.Q
open Go.RowKit Go.Proofs.YtphmnkcfjgallaaW.PrintWords Go.Proofs.YtphmnkcfjgallaaW.PrintLast Go.Proofs.YtphmnkcfjgallaaW.PrintMore
attribute [local go_sem] max2_int min2_int max_two min_two max_three min_three max_four min_four   -- for this text's walks alone
set_option linter.unusedVariables false
set_option linter.unusedSimpArgs false
noncomputable def laws_markFrame.f (k : Nat) (l0_0 : List (S131)) (a0_1 : Int) (a0_2 : Int) (a1 : Int) : Option (Int × (List (S131))) := (laws_markAccountS.f k l0_0 a1).bind fun bt44002 => (some (bt44002.1, bt44002.2))
set_option maxHeartbeats 8000000 in
set_option maxRecDepth 100000 in
theorem laws_markFrame.calls (k : Nat) (P0_0_ : Nat → Prop) (u9000_ : Value) (l0_0 : List (S131)) (a0_1 : Int) (a0_2 : Int) (a1 : Int) (r1 : Int) (r2 : List (S131)) (w0 w : World) (hB : Below w0.heap.size w0 w) (ho0_0 : Kd.R k131 131 w w0.heap.size P0_0_ u9000_ l0_0) (h : laws_markFrame.f k l0_0 a0_1 a0_2 a1 = some (r1, r2)) :
    Calls Try.prog 43 #[.agg #[u9000_, .int .i64 a0_1, .int .i64 a0_2], .int .i64 a1] w fun e w' => e = .returned (.int .i64 r1) ∧ Kd.R k131 131 w' w0.heap.size (fun k_ => (P0_0_ k_ ∨ w.heap.size ≤ k_)) u9000_ r2 ∧ Below w0.heap.size w0 w' ∧ Kept w w' (fun k_ => P0_0_ k_) := by
  have hu26 := Try.underlying26
  have HO0_0 := Aside0.mk (show Kd.R k131 131 w w0.heap.size (fun k_ => (P0_0_ k_ ∨ w.heap.size ≤ k_)) u9000_ l0_0 from Kd.R_mono ho0_0 (fun k_ hk => (.inl hk)))
  have HK := Aside0.mk (Kept.refl w (fun k_ => P0_0_ k_))
  have HW0 := Aside0.mk hB.size
  have HB := Aside0.mk hB
  clear hB
  have H : ((laws_markAccountS.f k l0_0 a1).bind fun bt44002 => (some (bt44002.1, bt44002.2))) = some (r1, r2) := h
  clear h
  replace H := Option.bind_eq_some_iff.mp H
  obtain ⟨⟨t44002, t44003⟩, A30, H⟩ := H
  replace H : (some (t44002, t44003)) = some (r1, r2) := H
  have A3 := Aside0.mk A30
  clear A30
  simp only [Option.some.injEq, Prod.mk.injEq] at H
  obtain ⟨rfl, rfl⟩ := H
  obtain ⟨Ao4, co4, eo4⟩ := Kd.R_slice HO0_0.out
  subst eo4
  go_enter Try.func43, Try.ntmps43
  go_wp2_with (first | ((with_reducible refine gate_dst (N := 2) rfl ?_); refine box_event ?hg (N := 2) ?hd (cs := #[.slice Ao4 l0_0.length co4, .int .i64 a0_1, .int .i64 a0_2]) (t := 26) ?hr ?_; (case hd => rfl); (case hg => rfl); (case hr => first | (go_simp; done) | (go_simp; rfl)); intro gb44001 hg w5 hbox hb; have n0_ := Aside0.mk (Kd.R_below (by (with_reducible repeat (first | apply Kd.R_alloc | apply Kd.R_drewN | apply Kd.R_drew)); exact HO0_0.out) hb); have n1_ := Aside0.mk (Kept.below (S := (fun k_ => P0_0_ k_)) (by repeat (first | (with_reducible first | exact HK.out | apply Kept.alloc | apply Kept.drewN | apply Kept.drew) | exact HK.out)) hb); have n2_ := Aside0.mk (below_step (by repeat (first | (with_reducible first | exact HB.out | apply below_alloc | apply pw_below_drewN | apply below_drew1) | exact HB.out)) hb); have n3_ := Aside0.mk (hbox); have n4_ := Aside0.mk ((by rw [hg]; exact (by first | exact HK.out.1 | exact (show Kept w _ (fun k_ => P0_0_ k_) from by repeat (first | (with_reducible first | exact HK.out | apply Kept.alloc | apply Kept.drewN | apply Kept.drew) | exact HK.out)).1) : w.heap.size ≤ gb44001)); have n5_ := Aside0.mk ((by rw [hg]; exact (below_size (by repeat (first | (with_reducible first | exact HB.out | apply below_alloc | apply pw_below_drewN | apply below_drew1) | exact HB.out))) : w0.heap.size ≤ gb44001)); clear HO0_0; clear HK; clear HB; have HO0_0 := n0_; have HK := n1_; have HB := n2_; have BK44001 := n3_; have GW44001 := n4_; have GE44001 := n5_; clear n0_ n1_ n2_ n3_ n4_ n5_; clear hb hbox hg; have hcz6_0 : w5.cell? ⟨gb44001, 0, none⟩ = some (.slice Ao4 l0_0.length co4) := (blk_cell BK44001.out 0).trans rfl; have hcz6_1 : w5.cell? ⟨gb44001, 1, none⟩ = some (.int .i64 a0_1) := (blk_cell BK44001.out 1).trans rfl; have hcz6_2 : w5.cell? ⟨gb44001, 2, none⟩ = some (.int .i64 a0_2) := (blk_cell BK44001.out 2).trans rfl; have hfz6_0 := blk_frozen BK44001.out 0; have hfz6_1 := blk_frozen BK44001.out 1; have hfz6_2 := blk_frozen BK44001.out 2) | ((with_reducible refine gate_callee (f := 110) rfl ?_); refine goesL_ (some 8) rfl rfl Try.func110 (by kernel_rfl) rfl #[.slice Ao4 l0_0.length co4, .int .i64 a1] rfl (by (try simp only [List.map_toArray, List.map_cons, List.map_nil]); first | done | rfl | (simp only [List.length_drop, List.length_take]; rfl)) ?_; (with_reducible refine (laws_markAccountS.calls k (fun k_ => some k_ = (.slice Ao4 l0_0.length co4 : Value).ownBlock) (.slice Ao4 l0_0.length co4) l0_0 a1 t44002 t44003 w0 _ ?side1 ?side2 A3.out).mono ?_); (case side1 => repeat (first | (with_reducible first | exact HB.out | apply below_alloc | apply pw_below_drewN | apply below_drew1 | refine below_set ?_ GE44001.out) | exact HB.out)); (case side2 => exact Kd.R_tight rfl HO0_0.out); rintro e w7 ⟨rfl, hy0, hb, hkp⟩; refine ⟨_, rfl, ?_⟩; have n0_ := Aside0.mk (Kd.R_reok rfl hy0 (fun k_ e_ => HO0_0.out.1 k_ e_)); have n1_ := Aside0.mk (blk_kept (by (with_reducible repeat (first | refine blk_drewN ?_ _ | refine blk_drew ?_ | refine blk_alloc ?_ _)); exact BK44001.out) hkp (fun hs_ => (fun e_ => (Kd.R_ne HO0_0.out BK44001.out (by decide)) e_) hs_)); have n2_ := Aside0.mk (Kept.then_ (S := (fun k_ => P0_0_ k_)) (by repeat (first | (with_reducible first | exact HK.out | apply Kept.alloc | apply Kept.drewN | apply Kept.drew | refine Kept.setCell ?_ (.inr GW44001.out) _) | exact HK.out)) hkp (fun k_ hs_ => (fun e_ => (HO0_0.out.1 k_ e_.symm)) hs_)); have n3_ := Aside0.mk (hb); clear HO0_0; clear BK44001; clear HK; clear HB; have HO0_0 := n0_; have BK44001 := n1_; have HK := n2_; have HB := n3_; clear n0_ n1_ n2_ n3_; (try clear hb); (try clear hkp); (try clear hy0)))
  go_ret
  exact ⟨by first | rfl | (simp [errW_none, errW_some] <;> rfl) | (simp [*, errW_none, errW_some] <;> rfl), by (with_reducible repeat (first | apply Kd.R_alloc | apply Kd.R_drewN | apply Kd.R_drew)); exact HO0_0.out, by repeat (first | (with_reducible first | exact HB.out | apply below_alloc | apply pw_below_drewN | apply below_drew1 | refine below_set ?_ GE44001.out) | exact HB.out), by repeat (first | (with_reducible first | exact HK.out | apply Kept.alloc | apply Kept.drewN | apply Kept.drew | refine Kept.setCell ?_ (.inr GW44001.out) _) | exact HK.out)⟩
end Go.Proofs.Ytphmnkcfjgallaa.Q
