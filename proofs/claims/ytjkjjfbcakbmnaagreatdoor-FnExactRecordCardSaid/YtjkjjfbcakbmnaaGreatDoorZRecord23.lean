/- Parts of the proof: what functions of the program and of the reference answer.
   No condition. -/
import Derived.Test.YtjkjjfbcakbmnaaGreatDoorZRecord1
import Derived.Test.YtjkjjfbcakbmnaaGreatDoorZRecord6
import Derived.Test.YtjkjjfbcakbmnaaGreatDoorZRecord5
import Derived.Test.YtjkjjfbcakbmnaaGreatDoorZRecord21
import Derived.Test.YtjkjjfbcakbmnaaGreatDoorZRecord3
import Derived.Test.YtjkjjfbcakbmnaaGreatDoorZRecord10
import Derived.Test.YtjkjjfbcakbmnaaGreatDoorZRecord2
import Derived.Test.YtjkjjfbcakbmnaaGreatDoorZRecord7
import Derived.Test.YtjkjjfbcakbmnaaGreatDoorZRecord17
import Derived.Test.YtjkjjfbcakbmnaaGreatDoorZRecord18
namespace Go.Proofs.YtjkjjfbcakbmnaaGreatDoor.Q
open Go.RowKit Go.Proofs.YtjkjjfbcakbmnaaGreatDoorW.PrintWords Go.Proofs.YtjkjjfbcakbmnaaGreatDoorW.PrintLast Go.Proofs.YtjkjjfbcakbmnaaGreatDoorW.PrintMore
set_option linter.unusedVariables false
set_option linter.unusedSimpArgs false
theorem laws_heldLineS_is (l : List Lin) (k : Nat) (a : Int) (hk : l.length < k) (hl : l.length ≤ 1048576) (h0 : 0 ≤ a) (h1 : a ≤ 1000000000000000) : laws_heldLineS.f k (mAll mLine nLine a l) a = some (nAll nLine a l) := by
  have := held_loop laws_heldLineS.l0 mLine nLine z88 0 5 4611686018427387000 (by omega) (fun _ => True) (fun x _ b => by unfold nLine; omega) (fun k y x a i _ hi hi2 hl h0 hB _ hy => by
    have hy' : rd_T88 y i = mLine a x := hy
    simp only [laws_heldLineS.l0]
    rw [if_pos hi2, if_pos hi, hy', wr1 h0 (by omega), wr1 (a := a + 1) (by omega) (by omega), wr1 (a := a + 1 + 1) (by omega) (by omega), wr1 (a := a + 1 + 1 + 1) (by omega) (by omega), wr1 (a := a + 1 + 1 + 1 + 1) (by omega) (by omega), wr1 hi (by omega)]
    simp only [mLine, if_true]
    rfl) (fun k x a i h => by simp only [laws_heldLineS.l0]; rw [if_neg (by omega)]) l [] k a (by omega) (by simpa using hl) h0 (by omega) (fun _ _ => trivial)
  exact this
theorem mAll_at {α : Type} (m : Int → α → α) (nx : Int → α → Int) (z : α) : ∀ (l : List α) (a : Int) (i : Nat), i < l.length → (mAll m nx a l).getD i z = m (nAll nx a (l.take i)) (l.getD i z)
  | [], a, i, h => by simp at h
  | x :: l, a, 0, h => rfl
  | x :: l, a, i + 1, h => by
    have := mAll_at m nx z l (nx a x) i (by simpa using h)
    simpa [mAll, nAll] using this
theorem nAll_step {α : Type} (nx : Int → α → Int) (z : α) (l : List α) (a : Int) (i : Int) (h0 : 0 ≤ i) (h1 : i < (l.length : Int)) : nAll nx a (l.take (i + 1).toNat) = nx (nAll nx a (l.take i.toNat)) (l.getD i.toNat z) := by
  rw [show (i + 1).toNat = i.toNat + 1 by omega, List.take_add_one, List.getElem?_eq_getElem (by omega), List.getD_eq_getElem?_getD, List.getElem?_eq_getElem (by omega)]
  exact nAll_snoc nx _ _ a
set_option maxHeartbeats 16000000 in
set_option maxRecDepth 100000 in
theorem laws_heldEntryS.to (A : Option Addr) (c : Nat) (l : List Ent) (a1 : Int) (w : World) (hr : Kd.C k41 w A l.length (mAll mEnt nEnt a1 l)) (h0 : 0 ≤ a1) (h1 : a1 ≤ 100000000000000) (hl : l.length ≤ 1048576) (hs : ∀ x ∈ l, x.f3.length ≤ 1048576) :
    Calls Tryz.prog 118 #[.slice A l.length c, .int .i64 a1] w fun e w' => e = .returned (.int .i64 (nAll nEnt a1 l)) ∧ Below w.heap.size w w' := by
  have HR := Aside0.mk hr
  have HL := Aside0.mk hs
  have ha1 := h1
  clear hr hs
  go_enter Tryz.func118, Tryz.ntmps118
  go_wp2_with fail
  go_loopw [1, 5] (fun v u wr => ∃ i a : Int, 0 ≤ i ∧ i ≤ (l.length : Int) ∧ u = .int .i64 i ∧ v = .int .i64 a ∧ 0 ≤ a ∧ a ≤ 100000000000000 + 5242883 * 1048576 ∧ Aside0 (a = nAll nEnt a1 (l.take i.toNat)) ∧ Aside0 (Below w.heap.size w wr)) (fun _ u _ => (l.length - (intOf u).toNat))
  case atStart => exact ⟨0, a1, by omega, by omega, rfl, rfl, h0, by omega, ⟨rfl⟩, ⟨Below.refl _ _⟩⟩
  case round =>
    clear h0 h1
    obtain ⟨i, a, hi0, hi1, rfl, rfl, h0, h1, HA, HB⟩ := hrel
    by_cases hlt : i < (l.length : Int)
    · obtain ⟨ad, A3, c3, e0, x0, x1, x2, x3, hc3, hC3⟩ := at_T41 (Kd.C_below HR.out HB.out) i hi0 hlt
      cases e0
      have hm : rd_T41 (mAll mEnt nEnt a1 l) i = mEnt a (rd_T41 l i) := by
        rw [HA.out]
        exact mAll_at mEnt nEnt z41 l a1 i.toNat (by omega)
      rw [hm] at x0 x1 x2 x3 hc3 hC3
      have hxl : (rd_T41 l i).f3.length ≤ 1048576 := all_at (z := z41) (p := fun x => x.f3.length ≤ 1048576) hi0 hlt HL.out
      have hnx : nAll nEnt a1 (l.take (i + 1).toNat) = nEnt a (rd_T41 l i) := by rw [HA.out]; exact nAll_step nEnt z41 l a1 i hi0 hlt
      have hnb := nEnt_b (l.take (i + 1).toNat) (fun x hx => HL.out x (List.mem_of_mem_take hx)) a1
      have htl : (l.take (i + 1).toNat).length ≤ 1048576 := by rw [List.length_take]; omega
      rw [hnx] at hnb
      have HNX := Aside0.mk hnx
      simp only [mEnt] at x0 x1 x2 x3 hc3 hC3
      have HLI := Aside0.mk (laws_heldLineS_is (rd_T41 l i).f3 ((rd_T41 l i).f3.length + 1) (a + 1 + 1 + 1) (by omega) hxl (by omega) (by omega))
      have hne : nEnt a (rd_T41 l i) = nAll nLine (a + 1 + 1 + 1) (rd_T41 l i).f3 := rfl
      rw [hne] at hnb
      have HNE := Aside0.mk hne
      have hln := nLine_b (rd_T41 l i).f3 (a + 1 + 1 + 1)
      generalize (rd_T41 l i).f3 = ls at *
      generalize nAll nLine (a + 1 + 1 + 1) ls = nk at *
      generalize mAll mLine nLine (a + 1 + 1 + 1) ls = ml at *
      have MT := Aside0.mk (laws_markText_is (a := a + 1 + 1) (by omega) (by omega) (Nat.le_refl 100))
      generalize mText (a + 1 + 1) = mt at *
      have X3 := Aside0.mk x3
      have HC3 := Aside0.mk hC3
      have HCC := Aside0.mk hc3
      have w1 : IntKind.i64.wrap (a + 1 + 1) = a + 1 + 1 := by rw [IntKind.wrap_i64]; omega
      have hq : decide (nk < 0) = false := decide_eq_false (by omega)
      clear hm hnx hne hC3 hc3
      go_wp2_with fail
      have HV := Aside0.mk (Below.refl wr.heap.size wr)
      go_region_held3 (fun w' => w'.cell? ⟨(ad.add (i.toNat * 4)).block, (ad.add (i.toNat * 4)).off + 2, none⟩ = some (.string mt) ∧ w'.cell? ⟨(ad.add (i.toNat * 4)).block, (ad.add (i.toNat * 4)).off + 3, none⟩ = some (.slice A3 ml.length c3)) ((first | go_keep | exact ⟨y00 hb (by assumption), y00 hb (by assumption)⟩))
        ((go_at_call 133; refine (laws_markText.calls 100 (a + 1 + 1) mt _ MT.out).mono ?_; rintro x w2 ⟨rfl, hb⟩; have HV2 := Aside0.mk (y10 (w := wr) hb (by repeat (first | exact HV.out | refine y04 ?_ | refine y02 ?_ _)))))
      clear x0 x1 x2 x3 w1
      have hH := ‹_ ∧ _›
      obtain ⟨x2, x3⟩ := hH
      have hmb : (!mt.toList == mt.toList) = false := by simp
      have HB2 := Aside0.mk (y10 (w := w) HV2.out HB.out)
      have HC4 := Aside0.mk (Kd.C_below HC3.out HV2.out)
      have w1 : IntKind.i64.wrap (a + 1 + 1 + 1) = a + 1 + 1 + 1 := by rw [IntKind.wrap_i64]; omega
      go_wp2_with fail
      refine (laws_heldLineS.calls (ls.length + 1) A3 c3 ml (a + 1 + 1 + 1) nk _ HC4.out HCC.out HLI.out).mono ?_
      rintro x w3 ⟨rfl, hd⟩
      have HB3 := Aside0.mk (y10 (w := w) hd.below HB2.out)
      clear hd
      go_wp2_with fail
      go_roundw
      case rel => exact ⟨i + 1, nk, by omega, by omega, rfl, rfl, by omega, by omega, ⟨by rw [HNX.out]; exact HNE.out.symm⟩, HB3⟩
      case measure => simp [intOf]; omega
    · go_wp2_with fail
      go_ret
      exact ⟨ret_i (by rw [HA.out, List.take_of_length_le (by omega)]), HB.out⟩
theorem mark_step {l : List Ent} {a : Int} {i : Int} (h0 : 0 ≤ i) (h1 : i < (l.length : Int)) {x' : Ent} (hx : x' = mEnt (nAll nEnt a (l.take i.toNat)) (rd_T41 l i)) :
    (mAll mEnt nEnt a (l.take i.toNat) ++ l.drop i.toNat).set i.toNat x' = mAll mEnt nEnt a (l.take (i + 1).toNat) ++ l.drop (i + 1).toNat ∧ nAll nEnt a (l.take (i + 1).toNat) = nEnt (nAll nEnt a (l.take i.toNat)) (rd_T41 l i) ∧ rd_T41 (mAll mEnt nEnt a (l.take i.toNat) ++ l.drop i.toNat) i = rd_T41 l i := by
  subst hx
  have ht : l.take (i + 1).toNat = l.take i.toNat ++ [rd_T41 l i] := by
    rw [show (i + 1).toNat = i.toNat + 1 by omega, List.take_add_one, List.getElem?_eq_getElem (by omega)]
    unfold rd_T41
    rw [List.getD_eq_getElem?_getD, List.getElem?_eq_getElem (by omega)]
    rfl
  have hl : (mAll mEnt nEnt a (l.take i.toNat)).length = i.toNat := by rw [mAll_length, List.length_take]; omega
  have hd : l.drop i.toNat = rd_T41 l i :: l.drop (i + 1).toNat := by
    rw [show (i + 1).toNat = i.toNat + 1 by omega, List.drop_eq_getElem_cons (by omega)]
    unfold rd_T41
    rw [List.getD_eq_getElem?_getD, List.getElem?_eq_getElem (by omega)]
    rfl
  refine ⟨?_, ?_, ?_⟩
  · rw [ht, mAll_snoc, hd, List.set_append_right _ _ (by omega), hl, Nat.sub_self]
    simp
  · rw [ht, nAll_snoc]
  · rw [hd]
    show ((mAll mEnt nEnt a (l.take i.toNat)) ++ rd_T41 l i :: l.drop (i + 1).toNat).getD i.toNat z41 = _
    rw [List.getD_eq_getElem?_getD, List.getElem?_append_right (by omega), hl, Nat.sub_self]
    rfl
set_option maxHeartbeats 16000000 in
set_option maxRecDepth 100000 in
theorem laws_markEntryS.to (P0_ : Nat → Prop) (A : Option Addr) (c : Nat) (l0 : List Ent) (a1 : Int) (w0 w : World) (hB : Below w0.heap.size w0 w) (hS : Kd.S k41 41 w w0.heap.size P0_ (.slice A l0.length c) l0) (h0 : 0 ≤ a1) (h1 : a1 ≤ 100000000000000) (hl : l0.length ≤ 1048576) (hs : ∀ x ∈ l0, x.f3.length ≤ 1048576) :
    Calls Tryz.prog 116 #[.slice A l0.length c, .int .i64 a1] w fun e w' => e = .returned (.int .i64 (nAll nEnt a1 l0)) ∧ Kd.S k41 41 w' w0.heap.size P0_ (.slice A l0.length c) (mAll mEnt nEnt a1 l0) ∧ Below w0.heap.size w0 w' ∧ Kept w w' P0_ := by
  have HB := Aside0.mk hB
  have HS := Aside0.mk (show Kd.S k41 41 w w0.heap.size P0_ (.slice A l0.length c) (mAll mEnt nEnt a1 (l0.take (0 : Int).toNat) ++ l0.drop (0 : Int).toNat) from hS)
  have HL := Aside0.mk hs
  clear hB hS hs
  go_enter Tryz.func116, Tryz.ntmps116
  go_wp2_with fail
  go_loopw [1, 5] (fun v u wr => ∃ i a : Int, 0 ≤ i ∧ i ≤ (l0.length : Int) ∧ u = .int .i64 i ∧ v = .int .i64 a ∧ 0 ≤ a ∧ a ≤ 100000000000000 + 5242883 * 1048576 ∧ Aside0 (a = nAll nEnt a1 (l0.take i.toNat)) ∧ Aside0 (Kd.S k41 41 wr w0.heap.size P0_ (.slice A l0.length c) (mAll mEnt nEnt a1 (l0.take i.toNat) ++ l0.drop i.toNat)) ∧ Aside0 (Below w0.heap.size w0 wr) ∧ Aside0 (Kept w wr P0_)) (fun _ u _ => (l0.length - (intOf u).toNat))
  case atStart => exact ⟨0, a1, by omega, by omega, rfl, rfl, h0, by omega, ⟨rfl⟩, HS, HB, ⟨Kept.refl w P0_⟩⟩
  case round =>
    have A1 := h1
    clear HS HB h0 h1
    obtain ⟨i, a, hi0, hi1, rfl, rfl, h0, h1, HA, HS, HB, HK⟩ := hrel
    by_cases hlt : i < (l0.length : Int)
    · have hcl : (mAll mEnt nEnt a1 (l0.take i.toNat) ++ l0.drop i.toNat).length = l0.length := by rw [List.length_append, mAll_length, List.length_take, List.length_drop]; omega
      obtain ⟨g, cap, e1, hg0, hg1, _⟩ := Kd.S_form HS.out (by rw [hcl]; omega)
      rw [hcl] at e1
      have HCL := Aside0.mk hcl
      clear hcl
      cases e1
      have MS := Aside0.mk (mark_step (a := a1) hi0 hlt rfl)
      have HPG := Aside0.mk ((Kd.S_R HS.out).1 g rfl)
      obtain ⟨XS, hXS⟩ : ∃ X, X = mAll mEnt nEnt a1 (l0.take i.toNat) ++ l0.drop i.toNat := ⟨_, rfl⟩
      rw [← hXS] at HS MS
      have HXS := Aside0.mk hXS
      clear hXS
      obtain ⟨oki, cs, hcl, hM, hcc, hfr, hoki, hH⟩ := Kd.S_elem HS.out z41 i hi0 hlt
      rw [show XS.getD i.toNat z41 = rd_T41 l0 i from MS.out.2.2] at hM
      obtain ⟨v3, rfl, hR⟩ := k41_openM hM
      obtain ⟨A3, c3, rfl, hc3, hC3⟩ := Kd.R_reads hR
      have x0 := hcc 0 _ rfl
      have x1 := hcc 1 _ rfl
      have x2 := hcc 2 _ rfl
      have x3 := hcc 3 _ rfl
      have f0 := hfr 0
      have f1 := hfr 1
      have f2 := hfr 2
      simp only [show k41.sz = 4 from rfl, Nat.add_zero] at x0 x1 x2 x3 f0 f1 f2
      have HH := Aside0.mk hH
      have HR := Aside0.mk hR
      have HOK := Aside0.mk hoki
      have w1 : IntKind.i64.wrap (a + 1) = a + 1 := by unfold IntKind.wrap; simp [IntKind.bits]; omega
      have hxl : (rd_T41 l0 i).f3.length ≤ 1048576 := all_at (z := z41) (p := fun x => x.f3.length ≤ 1048576) hi0 hlt HL.out
      clear hcl hM hcc hfr hoki hH hR hC3 HS
      generalize hls : (rd_T41 l0 i).f3 = ls at *
      have HLS := Aside0.mk hls
      clear hls
      go_wp2_with fail
      refine (laws_markText.calls 100 (a + 1 + 1) (mText (a + 1 + 1)) _ (laws_markText_is (by omega) (by omega) (Nat.le_refl _))).mono ?_
      rintro e w2 ⟨rfl, hb⟩
      have x2' : w2.cell? ⟨g, i.toNat * 4 + 2, none⟩ = some (.string (rd_T41 l0 i).f2) := y00 hb (by go_simp)
      have x3' : w2.cell? ⟨g, i.toNat * 4 + 3, none⟩ = some (.slice A3 ls.length c3) := y00 hb (by go_simp)
      have f2' : w2.frozen? ⟨g, i.toNat * 4 + 2, none⟩ = false := (hb.frozen (p := ⟨g, i.toNat * 4 + 2, none⟩) (by simp; omega)).trans (by go_simp)
      have HH1 : Kd.H k41 41 (wr.setCell ⟨g, i.toNat * 4, none⟩ (.int .i64 a)) w0.heap.size P0_ (.slice (some ⟨g, 0, none⟩) l0.length c) XS i oki [.int .i64 a, .int .i64 (rd_T41 l0 i).f1, .string (rd_T41 l0 i).f2, .slice A3 ls.length c3] := (Kd.H_seg HH.out hi0 hlt (seg := [.int .i64 a]) (j := 0) (show 1 ≤ 4 from by decide) (by simp [Value.oneCell'])).1
      have HH2 : Kd.H k41 41 ((wr.setCell ⟨g, i.toNat * 4, none⟩ (.int .i64 a)).setCell ⟨g, i.toNat * 4 + 1, none⟩ (.int .i64 (a + 1))) w0.heap.size P0_ (.slice (some ⟨g, 0, none⟩) l0.length c) XS i oki [.int .i64 a, .int .i64 (a + 1), .string (rd_T41 l0 i).f2, .slice A3 ls.length c3] := (Kd.H_seg HH1 hi0 hlt (seg := [.int .i64 (a + 1)]) (j := 1) (show 2 ≤ 4 from by decide) (by simp [Value.oneCell'])).1
      have HH3 := Kd.H_below HH2 hb
      have HH4 : Kd.H k41 41 (w2.setCell ⟨g, i.toNat * 4 + 2, none⟩ (.string (mText (a + 1 + 1)))) w0.heap.size P0_ (.slice (some ⟨g, 0, none⟩) l0.length c) XS i oki [.int .i64 a, .int .i64 (a + 1), .string (mText (a + 1 + 1)), .slice A3 ls.length c3] := (Kd.H_seg HH3 hi0 hlt (seg := [.string (mText (a + 1 + 1))]) (j := 2) (show 3 ≤ 4 from by decide) (by simp [Value.oneCell'])).1
      have hne : ∀ k, oki k → k ≠ g := fun k hk => (HOK.out k hk).2
      have hR3 := Aside0.mk (Kd.R_far (p := ⟨g, i.toNat * 4 + 2, none⟩) (Kd.R_below (Kd.R_far (p := ⟨g, i.toNat * 4 + 1, none⟩) (Kd.R_far (p := ⟨g, i.toNat * 4, none⟩) HR.out hne (.int .i64 a)) hne (.int .i64 (a + 1))) hb) hne (.string (mText (a + 1 + 1))))
      have HB3 := Aside0.mk (y08 (j := i.toNat * 4 + 2) (v := .string (mText (a + 1 + 1))) (y10 (w := w0) hb (y08 (y08 HB.out hg0) hg0)) hg0)
      have HK3 := Aside0.mk (Kept.setCell (Kept.below (Kept.setCell (Kept.setCell HK.out (p := ⟨g, i.toNat * 4, none⟩) (.inl HPG.out) (.int .i64 a)) (p := ⟨g, i.toNat * 4 + 1, none⟩) (.inl HPG.out) (.int .i64 (a + 1))) hb) (p := ⟨g, i.toNat * 4 + 2, none⟩) (.inl HPG.out) (.string (mText (a + 1 + 1))))
      replace HH := Aside0.mk HH4
      have HNE := Aside0.mk hne
      clear HH1 HH2 HH3 HH4 hne hb x0 x1 x2 x3 f0 f1 f2 w1
      go_wp2_with fail
      refine (laws_markLineS.calls (ls.length + 1) oki (.slice A3 ls.length c3) ls (a + 1 + 1 + 1) _ _ w0 _ HB3.out hR3.out (laws_markLineS_is ls _ _ (by omega) hxl (by omega) (by omega))).mono ?_
      rintro e w4 ⟨rfl, hR4, hB4, hK4⟩
      have HX : (⟨a, a + 1, mText (a + 1 + 1), mAll mLine nLine (a + 1 + 1 + 1) ls⟩ : Ent) = mEnt (nAll nEnt a1 (l0.take i.toNat)) (rd_T41 l0 i) := by rw [← HA.out]; unfold mEnt; rw [HLS.out]
      have HS4 := Aside0.mk (Kd.H_back (Kd.H_step HH.out (fun k _ hn hlt => hK4.2 k hlt hn)) (k41_mkM _ _ _ (⟨a, a + 1, mText (a + 1 + 1), mAll mLine nLine (a + 1 + 1 + 1) ls⟩ : Ent) (Kd.R_tight rfl hR4)) (fun k hk => HR.out.1 k hk.symm))
      have HB4 := Aside0.mk hB4
      have HK4 := Aside0.mk (HK3.out.then_ hK4 (fun k hk => .inl (HOK.out k hk).1))
      have hnb := nEnt_b (l0.take (i + 1).toNat) (fun x hx => HL.out x (List.mem_of_mem_take hx)) a1
      have hnx : nAll nEnt a1 (l0.take (i + 1).toNat) = nAll nLine (a + 1 + 1 + 1) ls := by rw [MS.out.2.1, ← HA.out]; unfold nEnt; rw [HLS.out]
      have hnl := nLine_b ls (a + 1 + 1 + 1)
      have htl : (l0.take (i + 1).toNat).length ≤ 1048576 := by rw [List.length_take]; omega
      rw [hnx] at hnb
      have HNX := Aside0.mk hnx
      clear hR4 hB4 hK4 hnx
      go_wp2_with fail
      go_roundw
      case rel => exact ⟨i + 1, nAll nLine (a + 1 + 1 + 1) ls, by omega, by omega, rfl, rfl, by omega, by omega, ⟨HNX.out.symm⟩, ⟨by have := HS4.out; rw [HX, MS.out.1] at this; exact this⟩, HB4, HK4⟩
      case measure => simp [intOf]; omega
    · go_wp2_with fail
      go_ret
      have e1 : l0.take i.toNat = l0 := List.take_of_length_le (by omega)
      have e2 : l0.drop i.toNat = [] := List.drop_of_length_le (by omega)
      have h := HS.out
      have ha := HA.out
      rw [e1] at ha h
      rw [e2, List.append_nil] at h
      exact ⟨ret_i ha, h, HB.out, HK.out⟩
theorem laws_markEntry_is (a0 a1 : Int) (a2 : ByteArray) (l : List Lin) (k : Nat) (a : Int) (hk : l.length < k) (hl : l.length ≤ 1048576) (h0 : 0 ≤ a) (h1 : a ≤ 1000000000000000) : laws_markEntry.f k a0 a1 a2 l a = some (nAll nLine a l, mAll mLine nLine a l) := by
  unfold laws_markEntry.f
  rw [laws_markLineS_is l k a hk hl h0 h1]
  rfl
end Go.Proofs.YtjkjjfbcakbmnaaGreatDoor.Q
namespace Go.Proofs.YtjkjjfbcakbmnaaGreatDoor.Q
open Go.RowKit Go.Proofs.YtjkjjfbcakbmnaaGreatDoorW.PrintWords Go.Proofs.YtjkjjfbcakbmnaaGreatDoorW.PrintLast Go.Proofs.YtjkjjfbcakbmnaaGreatDoorW.PrintMore
attribute [local go_sem] max2_int min2_int max_two min_two max_three min_three max_four min_four   -- for this text's walks alone
set_option linter.unusedVariables false
set_option linter.unusedSimpArgs false
theorem curSum_step {l : List Lin} {i : Int} (c : Int) (h0 : 0 ≤ i) (h1 : i < (l.length : Int)) : curSum (l.take (i + 1).toNat) c = curSum (l.take i.toNat) c + if (rd_T88 l i).f2 = c then (rd_T88 l i).f3 else 0 := by rw [take_snoc h0 h1, curSum_snoc]
theorem dimSum_step {l : List Lin} {i : Int} (c : Int) (h0 : 0 ≤ i) (h1 : i < (l.length : Int)) : dimSum (l.take (i + 1).toNat) c = dimSum (l.take i.toNat) c + if (rd_T88 l i).f1 = c then (rd_T88 l i).f4 else 0 := by rw [take_snoc h0 h1, dimSum_snoc]
theorem sums_bounds {l : List Lin} (h : ∀ x ∈ l, (-100000000000 ≤ x.f3 ∧ x.f3 ≤ 100000000000) ∧ (-100000000000 ≤ x.f4 ∧ x.f4 ≤ 100000000000)) (hl : l.length ≤ 60) (n : Nat) (c d : Int) : (-6000000000000 ≤ curSum (l.take n) c ∧ curSum (l.take n) c ≤ 6000000000000) ∧ (-6000000000000 ≤ dimSum (l.take n) d ∧ dimSum (l.take n) d ≤ 6000000000000) := by
  have hs : smallLines (l.take n) := fun y hy => h y (List.mem_of_mem_take hy)
  have h1 := curSum_small hs c
  have h2 := dimSum_small hs d
  have h3 : ((l.take n).length : Int) ≤ 60 := by rw [List.length_take]; omega
  omega
theorem frame_parts {chart : List Acc} {dims curs : Int} (h : frameB chart dims curs = true) : chartOk chart = true ∧ (1 ≤ dims ∧ dims ≤ 20) ∧ (1 ≤ curs ∧ curs ≤ 20) := by
  unfold frameB at h
  rw [Bool.and_eq_true, Bool.and_eq_true] at h
  exact ⟨h.1, inB_true.1 h.2.1, inB_true.1 h.2.2⟩
theorem and_l {a b c : Bool} (h : a = true) (k : c = b) : c = (a && b) := by rw [h, Bool.true_and]; exact k
theorem and_r {a b : Bool} (h : a = false) : false = (a && b) := by rw [h]; rfl
set_option maxHeartbeats 16000000 in
set_option maxRecDepth 100000 in
theorem spec_EntryOk.to (A0 : Option Addr) (c0 : Nat) (l0 : List Acc) (dims curs : Int) (e : Ent) (A3 : Option Addr) (c3 : Nat) (w : World) (hr0 : Kd.C k48 w A0 l0.length l0) (hs : ∀ x ∈ l0, x.f0.size ≤ maxLen) (hr3 : Kd.C k88 w A3 e.f3.length e.f3) (hm : e.f2.size ≤ maxLen) :
    Calls Tryz.prog 44 #[.agg #[.slice A0 l0.length c0, .int .i64 dims, .int .i64 curs], .agg #[.int .i64 e.f0, .int .i64 e.f1, .string e.f2, .slice A3 e.f3.length c3]] w fun x w' => x = .returned (.bool (frameB l0 dims curs && entryB l0 dims curs e)) ∧ Below w.heap.size w w' := by
  have hl0 := hr0.2.1
  have hlen := hr3.2.1
  have H0 := Aside0.mk hr0
  have H3 := Aside0.mk hr3
  have HS := Aside0.mk hs
  have HM := Aside0.mk hm
  have H00 := Aside0.mk (Kd.C_below hr0 (below_two w (.cells #[.slice A0 l0.length c0, .int .i64 dims, .int .i64 curs] 26) (.cells #[.int .i64 e.f0, .int .i64 e.f1, .string e.f2, .slice A3 e.f3.length c3] 41)))
  clear hr0 hr3 hs hm
  go_enter Tryz.func44, Tryz.ntmps44
  go_wp2_with fail
  refine (spec_FrameOk.to A0 c0 l0 dims curs _ H00.out HS.out).mono ?_
  rintro x w1 ⟨rfl, hb⟩
  have HB := Aside0.mk (y10 (w := w) hb (below_two _ _ _))
  have f0 : w1.cell? ⟨w.heap.size, 0, none⟩ = some (.slice A0 l0.length c0) := y00 hb (by go_simp)
  have f1 : w1.cell? ⟨w.heap.size, 1, none⟩ = some (.int .i64 dims) := y00 hb (by go_simp)
  have f2 : w1.cell? ⟨w.heap.size, 2, none⟩ = some (.int .i64 curs) := y00 hb (by go_simp)
  have y0 : w1.cell? ⟨w.heap.size + 1, 0, none⟩ = some (.int .i64 e.f0) := y00 hb (by go_simp)
  have y1 : w1.cell? ⟨w.heap.size + 1, 1, none⟩ = some (.int .i64 e.f1) := y00 hb (by go_simp)
  have y2 : w1.cell? ⟨w.heap.size + 1, 2, none⟩ = some (.string e.f2) := y00 hb (by go_simp)
  have y3 : w1.cell? ⟨w.heap.size + 1, 3, none⟩ = some (.slice A3 e.f3.length c3) := y00 hb (by go_simp)
  clear hb H00
  cases hfr : frameB l0 dims curs with
  | false =>
    have HF := Aside0.mk hfr
    clear hfr
    go_wp2_with fail
    go_ret
    exact ⟨ret_bool (and_r HF.out), HB.out⟩
  | true =>
    obtain ⟨hch, hd, hc⟩ := frame_parts hfr
    have HCH := Aside0.mk hch
    have HD := Aside0.mk hd
    have HC := Aside0.mk hc
    have HF := Aside0.mk hfr
    clear hfr hch hd hc
    go_wp2_with fail
    refine (spec_l2Day.to _ _).mono ?_
    rintro x w' ⟨rfl, rfl⟩
    cases h1 : inB e.f0 0 40000 with
    | false =>
      have HN := Aside0.mk (entryB_not (fun q => inB_false.1 h1 q.1) : false = entryB l0 dims curs e)
      clear h1
      go_wp2_with fail
      go_ret
      exact ⟨ret_bool (and_l HF.out HN.out), HB.out⟩
    | true =>
      have P1 := Aside0.mk (inB_true.1 h1)
      clear h1
      go_wp2_with fail
      refine (spec_l1In.to _ _ _ _).mono ?_
      rintro x w' ⟨rfl, rfl⟩
      cases h2 : inB e.f1 0 1000 with
      | false =>
        have HN := Aside0.mk (entryB_not (fun q => inB_false.1 h2 q.2.1) : false = entryB l0 dims curs e)
        clear h2
        go_wp2_with fail
        go_ret
        exact ⟨ret_bool (and_l HF.out HN.out), HB.out⟩
      | true =>
        have P2 := Aside0.mk (inB_true.1 h2)
        clear h2
        go_wp2_with fail
        refine (spec_l5TextOk.to _ _ HM.out).mono ?_
        rintro x w' ⟨rfl, rfl⟩
        cases h3 : textB e.f2 with
        | false =>
          have HN := Aside0.mk (entryB_not (fun q => by have := textB_iff.2 ⟨q.2.2.2.2.1, q.2.2.1⟩; rw [h3] at this; cases this) : false = entryB l0 dims curs e)
          clear h3
          go_wp2_with fail
          go_ret
          exact ⟨ret_bool (and_l HF.out HN.out), HB.out⟩
        | true =>
          have P3 := Aside0.mk (textB_iff.1 h3)
          clear h3
          go_wp2_with fail
          refine (spec_l1In.to _ _ _ _).mono ?_
          rintro x w' ⟨rfl, rfl⟩
          cases h4 : inB (e.f3.length : Int) 2 60 with
          | false =>
            have HN := Aside0.mk (entryB_not (fun q => inB_false.1 h4 (by have := q.2.2.2.1; omega)) : false = entryB l0 dims curs e)
            clear h4
            go_wp2_with fail
            go_ret
            exact ⟨ret_bool (and_l HF.out HN.out), HB.out⟩
          | true =>
            obtain ⟨hn0, hn1⟩ := inB_true.1 h4
            clear h4
            have HB1 := Aside0.mk (Below.refl w'.heap.size w')
            have F0 := Aside0.mk f0
            have F1 := Aside0.mk f1
            have F2 := Aside0.mk f2
            have Y3 := Aside0.mk y3
            go_wp2_with fail
            clear f0 f1 f2 y0 y1 y2 y3
            go_loopw [5] (fun v wr => ∃ i : Int, 0 ≤ i ∧ i ≤ (e.f3.length : Int) ∧ v = .int .i64 i ∧ Aside0 (Below w'.heap.size w' wr) ∧ Aside0 (∀ x ∈ e.f3.take i.toNat, lineP l0 dims curs x)) (fun v _ => (e.f3.length - (intOf v).toNat))
            case atStart => exact ⟨0, by omega, by omega, rfl, HB1, ⟨fun x hx => by cases hx⟩⟩
            case round =>
              clear HB1
              obtain ⟨i, hi0, hi1, rfl, HB1, HO⟩ := hrel
              have f0 := y00 HB1.out F0.out
              have f1 := y00 HB1.out F1.out
              have f2 := y00 HB1.out F2.out
              have y3 := y00 HB1.out Y3.out
              have HBW := Aside0.mk (y10 HB1.out HB.out)
              by_cases hlt : i < (e.f3.length : Int)
              · obtain ⟨ad, e0, x0, x1, x2, x3, x4⟩ := at_T88 (Kd.C_below H3.out HBW.out) i hi0 hlt
                cases e0
                have HC0 := Aside0.mk (Kd.C_below H0.out HBW.out)
                go_wp2_with fail
                go_region_held3 (fun w' => w'.cell? ⟨w.heap.size, 0, none⟩ = some (.slice A0 l0.length c0) ∧ w'.cell? ⟨w.heap.size, 1, none⟩ = some (.int .i64 dims) ∧ w'.cell? ⟨w.heap.size, 2, none⟩ = some (.int .i64 curs) ∧ w'.cell? ⟨w.heap.size + 1, 3, none⟩ = some (.slice (some ad) e.f3.length c3) ∧ w'.cell? (ad.add (i.toNat * 5)) = some (.int .i64 (rd_T88 e.f3 i).f0) ∧ w'.cell? ⟨(ad.add (i.toNat * 5)).block, (ad.add (i.toNat * 5)).off + 1, none⟩ = some (.int .i64 (rd_T88 e.f3 i).f1) ∧ w'.cell? ⟨(ad.add (i.toNat * 5)).block, (ad.add (i.toNat * 5)).off + 2, none⟩ = some (.int .i64 (rd_T88 e.f3 i).f2) ∧ w'.cell? ⟨(ad.add (i.toNat * 5)).block, (ad.add (i.toNat * 5)).off + 3, none⟩ = some (.int .i64 (rd_T88 e.f3 i).f3) ∧ w'.cell? ⟨(ad.add (i.toNat * 5)).block, (ad.add (i.toNat * 5)).off + 4, none⟩ = some (.int .i64 (rd_T88 e.f3 i).f4)) ((first | go_keep | exact ⟨y00 hb (by assumption), y00 hb (by assumption), y00 hb (by assumption), y00 hb (by assumption), y00 hb (by assumption), y00 hb (by assumption), y00 hb (by assumption), y00 hb (by assumption), y00 hb (by assumption)⟩))
                  ((go_at_call 100; refine (spec_l5LineOk.to A0 c0 l0 dims curs (rd_T88 e.f3 i) _ (by repeat (first | exact HC0.out | refine Kd.C_drew ?_)) HS.out HCH.out HD.out HC.out).mono ?_; rintro x w2 ⟨rfl, hb⟩))
                have HB2 := Aside0.mk (y10 (w := w') hb (below_drew HB1.out))
                clear hb
                cases hlb : lineB l0 dims curs (rd_T88 e.f3 i) with
                | false =>
                  have HN := Aside0.mk (entryB_not (fun q => by have := lineB_true.2 (all_at (z := z88) (p := lineP l0 dims curs) hi0 hlt q.2.2.2.2.2.1); rw [show lineB l0 dims curs (e.f3.getD i.toNat z88) = false from hlb] at this; cases this) : false = entryB l0 dims curs e)
                  have HBF := Aside0.mk (y10 HB2.out HB.out)
                  clear hlb HB2
                  go_wp2_with fail
                  go_ret
                  exact ⟨ret_bool (and_l HF.out HN.out), HBF.out⟩
                | true =>
                  have HO2 := Aside0.mk (all_step (z := z88) (p := lineP l0 dims curs) hi0 hlt HO.out (lineB_true.1 hlb))
                  clear hlb
                  go_wp2_with fail
                  go_roundw
                  case rel => exact ⟨i + 1, by omega, by omega, rfl, HB2, HO2⟩
                  case measure => simp [intOf]; omega
              · have HOK := Aside0.mk (all_end (by omega) HO.out : ∀ x ∈ e.f3, lineP l0 dims curs x)
                have HSB := Aside0.mk (fun n c d => sums_bounds (l := e.f3) (fun x hx => ⟨(HOK.out x hx).2.2.2.1, (HOK.out x hx).2.2.2.2.1⟩) (by omega) n c d)
                have HAM := Aside0.mk (fun (k : Int) (h0 : 0 ≤ k) (h1 : k < (e.f3.length : Int)) => (all_at (z := z88) (p := fun x => (-100000000000 ≤ x.f3 ∧ x.f3 ≤ 100000000000) ∧ (-100000000000 ≤ x.f4 ∧ x.f4 ≤ 100000000000)) h0 h1 (fun x hx => ⟨(HOK.out x hx).2.2.2.1, (HOK.out x hx).2.2.2.2.1⟩)))
                clear HO
                go_wp2_with fail
                clear f0 f1 f2 y3
                go_loopw [6] (fun v wr => ∃ i : Int, 0 ≤ i ∧ i ≤ (e.f3.length : Int) ∧ v = .int .i64 i ∧ Aside0 (Below w'.heap.size w' wr) ∧ Aside0 (∀ x ∈ e.f3.take i.toNat, curSum e.f3 x.f2 = 0 ∧ dimSum e.f3 x.f1 = 0)) (fun v _ => (e.f3.length - (intOf v).toNat))
                case atStart => exact ⟨0, by omega, by omega, rfl, HB1, ⟨fun x hx => by cases hx⟩⟩
                case round =>
                  clear HB1 HBW
                  obtain ⟨j, hj0, hj1, rfl, HB1, HZ⟩ := hrel
                  have y3 := y00 HB1.out Y3.out
                  by_cases hlt2 : j < (e.f3.length : Int)
                  · go_wp2_with fail
                    clear y3
                    go_loopw [7, 8, 9] (fun vc vd vk wr => ∃ k : Int, 0 ≤ k ∧ k ≤ (e.f3.length : Int) ∧ vk = .int .i64 k ∧ vc = .int .i64 (curSum (e.f3.take k.toNat) (rd_T88 e.f3 j).f2) ∧ vd = .int .i64 (dimSum (e.f3.take k.toNat) (rd_T88 e.f3 j).f1) ∧ Aside0 (Below w'.heap.size w' wr)) (fun _ _ vk _ => (e.f3.length - (intOf vk).toNat))
                    case atStart => exact ⟨0, by omega, by omega, rfl, rfl, rfl, HB1⟩
                    case round =>
                      clear HB1
                      obtain ⟨k, hk0, hk1, rfl, rfl, rfl, HB1⟩ := hrel
                      have y3 := y00 HB1.out Y3.out
                      have HBW := Aside0.mk (y10 HB1.out HB.out)
                      by_cases hlt3 : k < (e.f3.length : Int)
                      · obtain ⟨ad, e0, x0, x1, x2, x3, x4⟩ := at_T88 (Kd.C_below H3.out HBW.out) k hk0 hlt3
                        obtain ⟨bd, e1, z0, z1, z2, z3, z4⟩ := at_T88 (Kd.C_below H3.out HBW.out) j hj0 hlt2
                        cases e0
                        obtain rfl : ad = bd := by injection e1
                        have HC1 := Aside0.mk (curSum_step (l := e.f3) (rd_T88 e.f3 j).f2 hk0 hlt3)
                        have HD1 := Aside0.mk (dimSum_step (l := e.f3) (rd_T88 e.f3 j).f1 hk0 hlt3)
                        obtain ⟨⟨b0, b1⟩, b2, b3⟩ := HSB.out k.toNat (rd_T88 e.f3 j).f2 (rd_T88 e.f3 j).f1
                        obtain ⟨⟨m0, m1⟩, m2, m3⟩ := show (-100000000000 ≤ (rd_T88 e.f3 k).f3 ∧ (rd_T88 e.f3 k).f3 ≤ 100000000000) ∧ (-100000000000 ≤ (rd_T88 e.f3 k).f4 ∧ (rd_T88 e.f3 k).f4 ≤ 100000000000) from HAM.out k hk0 hlt3
                        generalize curSum (e.f3.take k.toNat) (rd_T88 e.f3 j).f2 = cs at *
                        generalize dimSum (e.f3.take k.toNat) (rd_T88 e.f3 j).f1 = ds at *
                        cases hq : ((rd_T88 e.f3 k).f2 == (rd_T88 e.f3 j).f2) with
                        | true =>
                          cases hr : ((rd_T88 e.f3 k).f1 == (rd_T88 e.f3 j).f1) with
                          | true =>
                            go_wp2_with fail
                            go_quiet (fail)
                            go_wp2_with fail
                            go_quiet (fail)
                            go_wp2_with fail
                            go_roundw
                            case rel => exact ⟨k + 1, by omega, by omega, rfl, by rw [HC1.out, if_pos (beq_iff_eq.1 hq)], by rw [HD1.out, if_pos (beq_iff_eq.1 hr)], ⟨y02 HB1.out _⟩⟩
                            case measure => simp [intOf]; omega
                          | false =>
                            go_wp2_with fail
                            go_quiet (fail)
                            go_wp2_with fail
                            go_quiet (fail)
                            go_wp2_with fail
                            go_roundw
                            case rel => exact ⟨k + 1, by omega, by omega, rfl, by rw [HC1.out, if_pos (beq_iff_eq.1 hq)], by rw [HD1.out, if_neg (beq_eq_false_iff_ne.1 hr), Int.add_zero], ⟨y02 HB1.out _⟩⟩
                            case measure => simp [intOf]; omega
                        | false =>
                          cases hr : ((rd_T88 e.f3 k).f1 == (rd_T88 e.f3 j).f1) with
                          | true =>
                            go_wp2_with fail
                            go_quiet (fail)
                            go_wp2_with fail
                            go_quiet (fail)
                            go_wp2_with fail
                            go_roundw
                            case rel => exact ⟨k + 1, by omega, by omega, rfl, by rw [HC1.out, if_neg (beq_eq_false_iff_ne.1 hq), Int.add_zero], by rw [HD1.out, if_pos (beq_iff_eq.1 hr)], ⟨y02 HB1.out _⟩⟩
                            case measure => simp [intOf]; omega
                          | false =>
                            go_wp2_with fail
                            go_quiet (fail)
                            go_wp2_with fail
                            go_quiet (fail)
                            go_wp2_with fail
                            go_roundw
                            case rel => exact ⟨k + 1, by omega, by omega, rfl, by rw [HC1.out, if_neg (beq_eq_false_iff_ne.1 hq), Int.add_zero], by rw [HD1.out, if_neg (beq_eq_false_iff_ne.1 hr), Int.add_zero], ⟨y02 HB1.out _⟩⟩
                            case measure => simp [intOf]; omega
                      · have HKE : k = (e.f3.length : Int) := by omega
                        subst HKE
                        have hcd := Aside0.mk (show curSum (e.f3.take (e.f3.length : Int).toNat) (rd_T88 e.f3 j).f2 = curSum e.f3 (rd_T88 e.f3 j).f2 ∧ dimSum (e.f3.take (e.f3.length : Int).toNat) (rd_T88 e.f3 j).f1 = dimSum e.f3 (rd_T88 e.f3 j).f1 by rw [List.take_of_length_le (by omega)]; exact ⟨rfl, rfl⟩)
                        generalize curSum (e.f3.take (e.f3.length : Int).toNat) (rd_T88 e.f3 j).f2 = cs at *
                        generalize dimSum (e.f3.take (e.f3.length : Int).toNat) (rd_T88 e.f3 j).f1 = ds at *
                        by_cases z1 : cs = 0
                        · have z1b : (cs != 0) = false := by rw [z1]; rfl
                          by_cases z2 : ds = 0
                          · have z2b : (ds != 0) = false := by rw [z2]; rfl
                            have HZ2 := Aside0.mk (all_step (z := z88) (p := fun x => curSum e.f3 x.f2 = 0 ∧ dimSum e.f3 x.f1 = 0) hj0 hlt2 HZ.out ⟨hcd.out.1 ▸ z1, hcd.out.2 ▸ z2⟩)
                            clear hcd
                            go_wp2_with fail
                            go_roundw
                            case rel => exact ⟨j + 1, by omega, by omega, rfl, HB1, HZ2⟩
                            case measure => simp [intOf]; omega
                          · have z2b : (ds != 0) = true := bne_iff_ne.2 z2
                            have HN := Aside0.mk (entryB_not (fun q => z2 (hcd.out.2.trans (all_at (z := z88) (p := fun x => curSum e.f3 x.f2 = 0 ∧ dimSum e.f3 x.f1 = 0) hj0 hlt2 q.2.2.2.2.2.2).2)) : false = entryB l0 dims curs e)
                            clear hcd
                            go_wp2_with fail
                            go_ret
                            exact ⟨ret_bool (and_l HF.out HN.out), HBW.out⟩
                        · have z1b : (cs != 0) = true := bne_iff_ne.2 z1
                          have HN := Aside0.mk (entryB_not (fun q => z1 (hcd.out.1.trans (all_at (z := z88) (p := fun x => curSum e.f3 x.f2 = 0 ∧ dimSum e.f3 x.f1 = 0) hj0 hlt2 q.2.2.2.2.2.2).1)) : false = entryB l0 dims curs e)
                          clear hcd
                          go_wp2_with fail
                          go_ret
                          exact ⟨ret_bool (and_l HF.out HN.out), HBW.out⟩
                  · have HBW := Aside0.mk (y10 HB1.out HB.out)
                    have HE := Aside0.mk (show entryP l0 dims curs e from ⟨P1.out, P2.out, P3.out.2, ⟨by omega, by omega⟩, P3.out.1, HOK.out, all_end (by omega) HZ.out⟩)
                    go_wp2_with fail
                    go_ret
                    exact ⟨ret_bool (and_l HF.out (entryB_true.2 HE.out).symm), HBW.out⟩
end Go.Proofs.YtjkjjfbcakbmnaaGreatDoor.Q
