/- Parts of the proof: what functions of the program and of the reference answer.
   No condition. -/
import Derived.Test.YtjkjjfbcakbmnaaGreatDoorZRecord1
import Derived.Test.YtjkjjfbcakbmnaaGreatDoorZRecord11
import Derived.Test.YtjkjjfbcakbmnaaGreatDoorZRecord12
import Derived.Test.YtjkjjfbcakbmnaaGreatDoorZRecord13
import Derived.Test.YtjkjjfbcakbmnaaGreatDoorZRecord5
import Derived.Test.YtjkjjfbcakbmnaaGreatDoorZRecord6
import Derived.Test.YtjkjjfbcakbmnaaGreatDoorZRecord7
import Derived.Stop.LaidErr
import Derived.MakeChecks
import Derived.LaidMore
namespace Go.Proofs.YtjkjjfbcakbmnaaGreatDoor.Q
open Go.RowKit Go.Proofs.YtjkjjfbcakbmnaaGreatDoorW.PrintWords Go.Proofs.YtjkjjfbcakbmnaaGreatDoorW.PrintLast Go.Proofs.YtjkjjfbcakbmnaaGreatDoorW.PrintMore
attribute [local go_sem] max2_int min2_int max_two min_two max_three min_three max_four min_four   -- for this text's walks alone
set_option linter.unusedVariables false
set_option linter.unusedSimpArgs false
noncomputable def spec_l5Ledger.f (k : Nat) (l0_0 : List (S41)) (a0_1 : Int) : Option ((List (S41)) × Int) := (spec_l5Entries.f k l0_0).bind fun t106003 => (some (t106003, a0_1))
set_option maxHeartbeats 8000000 in
set_option maxRecDepth 100000 in
theorem spec_l5Ledger.calls (k : Nat) (A0_0 : Option Addr) (c0_0 : Nat) (l0_0 : List (S41)) (a0_1 : Int) (r1 : List (S41)) (r2 : Int) (w : World) (hr0_0 : Kd.C k41 w A0_0 l0_0.length l0_0) (hc0_0 : l0_0.length ≤ c0_0) (h : spec_l5Ledger.f k l0_0 a0_1 = some (r1, r2)) :
    Calls Tryz.prog 105 #[.agg #[.slice A0_0 l0_0.length c0_0, .int .i64 a0_1]] w fun e w' => ∃ v0_ : Value, e = .returned (.agg #[v0_, .int .i64 r2]) ∧ Kd.S k41 41 w' w.heap.size (fun _ => True) v0_ r1 ∧ Below w.heap.size w w' := by
  have hu29 := Tryz.underlying29
  have HR0_0 := Aside0.mk hr0_0
  have HC0_0 := Aside0.mk hc0_0
  clear hr0_0 hc0_0
  have HB := Aside0.mk (Below.refl w.heap.size w)
  have H : ((spec_l5Entries.f k l0_0).bind fun t106003 => (some (t106003, a0_1))) = some (r1, r2) := h
  clear h
  replace H := Option.bind_eq_some_iff.mp H
  obtain ⟨t106003, A20, H⟩ := H
  replace H : (some (t106003, a0_1)) = some (r1, r2) := H
  have A2 := Aside0.mk A20
  clear A20
  simp only [Option.some.injEq, Prod.mk.injEq] at H
  obtain ⟨rfl, rfl⟩ := H
  go_enter Tryz.func105, Tryz.ntmps105
  try go_wp2_with (first | ((with_reducible refine gate_dst (N := 1) rfl ?_); refine box_event ?hg (N := 1) ?hd (cs := #[.slice A0_0 l0_0.length c0_0, .int .i64 a0_1]) (t := 29) ?hr ?_; (case hd => rfl); (case hg => rfl); (case hr => first | (go_simp; done) | (go_simp; rfl)); intro gb106001 hg w3 hbox hb; have n0_ := Aside0.mk (below_step (by repeat (first | (with_reducible first | exact HB.out | apply y01 | apply y02 | apply y04) | exact HB.out)) hb); have n1_ := Aside0.mk (hbox); have n2_ := Aside0.mk ((by rw [hg]; exact (below_size (by repeat (first | (with_reducible first | exact HB.out | apply y01 | apply y02 | apply y04) | exact HB.out))) : w.heap.size ≤ gb106001)); have n3_ := Aside0.mk ((by rw [hg]; exact (below_size (by repeat (first | (with_reducible first | exact HB.out | apply y01 | apply y02 | apply y04) | exact HB.out))) : w.heap.size ≤ gb106001)); clear HB; have HB := n0_; have BK106001 := n1_; have GW106001 := n2_; have GE106001 := n3_; clear n0_ n1_ n2_ n3_; clear hb hbox hg) | ((with_reducible refine gate_dst (N := 2) rfl ?_); refine box_event ?hg (N := 2) ?hd (cs := #[.slice none 0 0, .int .i64 0]) (t := 29) ?hr ?_; (case hd => rfl); (case hg => rfl); (case hr => first | (go_simp; done) | (go_simp; rfl)); intro gb106002 hg w4 hbox hb; have n0_ := Aside0.mk (blk_below (g := gb106001) (o := .cells #[.slice A0_0 l0_0.length c0_0, .int .i64 a0_1] 29 (0, 0)) (by (with_reducible repeat (first | refine y07 ?_ _ | refine y09 ?_ | refine y06 ?_ _)); exact BK106001.out) hb); have n1_ := Aside0.mk (below_step (by repeat (first | (with_reducible first | exact HB.out | apply y01 | apply y02 | apply y04 | refine y08 ?_ GE106001.out) | exact HB.out)) hb); have n2_ := Aside0.mk (hbox); have n3_ := Aside0.mk ((by rw [hg]; exact (below_size (by repeat (first | (with_reducible first | exact HB.out | apply y01 | apply y02 | apply y04 | refine y08 ?_ GE106001.out) | exact HB.out))) : w.heap.size ≤ gb106002)); have n4_ := Aside0.mk ((by rw [hg]; exact (below_size (by repeat (first | (with_reducible first | exact HB.out | apply y01 | apply y02 | apply y04 | refine y08 ?_ GE106001.out) | exact HB.out))) : w.heap.size ≤ gb106002)); have n5_ := Aside0.mk ((by rw [hg]; exact Nat.ne_of_lt (blk_lt (g := gb106001) (o := .cells #[.slice A0_0 l0_0.length c0_0, .int .i64 a0_1] 29 (0, 0)) (by (with_reducible repeat (first | refine y07 ?_ _ | refine y09 ?_ | refine y06 ?_ _)); exact BK106001.out)) : gb106001 ≠ gb106002)); have n6_ := Aside0.mk ((by rw [hg]; exact Nat.ne_of_gt (blk_lt (g := gb106001) (o := .cells #[.slice A0_0 l0_0.length c0_0, .int .i64 a0_1] 29 (0, 0)) (by (with_reducible repeat (first | refine y07 ?_ _ | refine y09 ?_ | refine y06 ?_ _)); exact BK106001.out)) : gb106002 ≠ gb106001)); clear BK106001; clear HB; have BK106001 := n0_; have HB := n1_; have BK106002 := n2_; have GW106002 := n3_; have GE106002 := n4_; have NB106001_106002 := n5_; have NB106002_106001 := n6_; clear n0_ n1_ n2_ n3_ n4_ n5_ n6_; clear hb hbox hg))
  have n0_ := Aside0.mk (y09 BK106001.out)
  have n1_ := Aside0.mk (y09 BK106002.out)
  have n2_ := Aside0.mk (y04 HB.out)
  clear BK106001
  clear BK106002
  clear HB
  have BK106001 := n0_
  have BK106002 := n1_
  have HB := n2_
  clear n0_ n1_ n2_
  refine start_ (n := 7) (S := fun w' => w'.cell? ⟨gb106001, 0, none⟩ = some (.slice A0_0 l0_0.length c0_0) ∧ w'.cell? ⟨gb106001, 1, none⟩ = some (.int .i64 a0_1)) (ds := []) #[false, false, false, false, false, false, false] (by kernel_rfl) rfl rfl ⟨(y03 BK106001.out 0).trans rfl, (y03 BK106001.out 1).trans rfl⟩ (fun hHeld => ?_)
  generalize w4.drew = w5 at BK106001 BK106002 HB hHeld ⊢
  refine pure_ (i := 0) (N := some 3) (v := ?_) (a' := ?_) #[true, false, false, false, false, false, false] rfl rfl (by kernel_rfl) (fun _ _ _ h => h) (Or.inl ⟨by rfl, ?_⟩) ?_ ?_
  rotate_left
  · intro w'
    go_simp
    with_reducible rfl
  rotate_left
  · simp only [Act.put, List.setIfInBounds_toArray, List.set_cons_zero, List.set_cons_succ, i64_w, i32_w]
    rfl
  refine pure_ (i := 3) (N := some 6) (v := ?_) (a' := ?_) #[true, false, false, true, false, false, false] rfl rfl (by kernel_rfl) (fun _ _ _ h => h) (Or.inl ⟨by rfl, ?_⟩) ?_ ?_
  rotate_left
  · intro w'
    go_simp
    with_reducible rfl
  rotate_left
  · simp only [Act.put, List.setIfInBounds_toArray, List.set_cons_zero, List.set_cons_succ, i64_w, i32_w]
    rfl
  refine take_ (i := 1) (N := some 4) (v := ?_) (a' := ?_) #[true, true, false, true, false, false, false] rfl rfl (by kernel_rfl) (fun _ _ _ h => h) (Or.inl ⟨by rfl, ?_⟩) hHeld ?_ ?_
  rotate_left
  · rintro w' ⟨s0, s1⟩
    go_simp
    with_reducible rfl
  rotate_left
  · simp only [Act.put, List.setIfInBounds_toArray, List.set_cons_zero, List.set_cons_succ, i64_w, i32_w]
    rfl
  refine take_ (i := 4) (N := some 7) (v := ?_) (a' := ?_) #[true, true, false, true, true, false, false] rfl rfl (by kernel_rfl) (fun _ _ _ h => h) (Or.inl ⟨by rfl, ?_⟩) hHeld ?_ ?_
  rotate_left
  · rintro w' ⟨s0, s1⟩
    go_simp
    with_reducible rfl
  rotate_left
  · simp only [Act.put, List.setIfInBounds_toArray, List.set_cons_zero, List.set_cons_succ, i64_w, i32_w]
    rfl
  refine one_ (i := 2) (N := some 5) #[true, true, true, true, true, false, false] rfl rfl (by kernel_rfl) (by decide) (fun K hK => ?_)
  refine goes_ Tryz.func130 (by kernel_rfl) rfl #[.slice A0_0 l0_0.length c0_0] (by rfl) rfl rfl (by (try simp only [List.map_toArray, List.map_cons, List.map_nil]); first | done | rfl | (simp only [List.length_drop, List.length_take]; rfl)) ?_
  with_reducible refine (spec_l5Entries.calls k _ _ l0_0 t106003 _ ?side1 ?side2 A2.out).mono ?_
  (case side1 => repeat (first | exact (Kd.C_below HR0_0.out HB.out) | (with_reducible refine Kd.C_alloc ?_ _) | (with_reducible refine Kd.C_drewN ?_ _) | (with_reducible refine Kd.C_drew ?_)))
  (case side2 => exact HC0_0.out)
  rintro e w6 ⟨v106004, rfl, ho0, hb⟩
  refine ⟨_, rfl, ?_⟩
  have n0_ := Aside0.mk (Kd.S_lower ho0 (below_size (by repeat (first | (with_reducible first | exact HB.out | apply y01 | apply y02 | apply y04 | refine y08 ?_ GE106001.out | refine y08 ?_ GE106002.out) | exact HB.out))))
  have n1_ := Aside0.mk (blk_below (g := gb106001) (o := .cells #[.slice A0_0 l0_0.length c0_0, .int .i64 a0_1] 29 (0, 0)) (by (with_reducible repeat (first | refine y07 ?_ _ | refine y09 ?_ | refine y06 ?_ _)); exact BK106001.out) hb)
  have n2_ := Aside0.mk (blk_below (g := gb106002) (o := .cells #[.slice none 0 0, .int .i64 0] 29 (0, 0)) (by (with_reducible repeat (first | refine y07 ?_ _ | refine y09 ?_ | refine y06 ?_ _)); exact BK106002.out) hb)
  have n3_ := Aside0.mk (below_step (by repeat (first | (with_reducible first | exact HB.out | apply y01 | apply y02 | apply y04 | refine y08 ?_ GE106001.out | refine y08 ?_ GE106002.out) | exact HB.out)) hb)
  clear BK106001
  clear BK106002
  clear HB
  have HO106005 := n0_
  have BK106001 := n1_
  have BK106002 := n2_
  have HB := n3_
  clear n0_ n1_ n2_ n3_
  (try clear hb)
  (try clear hb2)
  (try clear hk)
  (try clear hi)
  (try clear ho0)
  obtain ⟨Ao7, co7, eo7⟩ := Kd.S_slice HO106005.out
  (first | subst eo7 | (injection eo7 with f1_ f2_ f3_; have f4_ := f1_.symm; have f5_ := f3_.symm; clear f1_ f2_ f3_; subst f4_; subst f5_))
  refine hK.out _ _ ⟨(y03 BK106001.out 0).trans rfl, (y03 BK106001.out 1).trans rfl⟩ (fun hHeld => ?_)
  clear hK K
  refine norm_ (a' := ?_) ?_ ?_
  rotate_left
  · show Act.put _ (some 5) _ = _
    simp only [Act.put, List.setIfInBounds_toArray, List.set_cons_zero, List.set_cons_succ, i64_w, i32_w]
    rfl
  refine pure_ (i := 5) (N := some 8) (v := ?_) (a' := ?_) #[true, true, true, true, true, true, false] rfl rfl (by kernel_rfl) (fun _ _ _ h => h) (Or.inl ⟨by rfl, ?_⟩) ?_ ?_
  rotate_left
  · intro w'
    go_simp
    with_reducible rfl
  rotate_left
  · simp only [Act.put, List.setIfInBounds_toArray, List.set_cons_zero, List.set_cons_succ, i64_w, i32_w]
    rfl
  refine one_ (i := 6) (N := none) #[true, true, true, true, true, true, true] rfl rfl (by kernel_rfl) (by decide) (fun K hK => ?_)
  have hs8 : w6.cell? ⟨gb106002, 0, none⟩ = some (.slice none 0 0) := (y03 BK106002.out 0).trans rfl
  have hfs8 := y05 BK106002.out 0
  have hns8_0 := NB106001_106002.out
  have hms8_0 := NB106002_106001.out
  have hs9 : w6.cell? ⟨gb106002, 1, none⟩ = some (.int .i64 0) := (y03 BK106002.out 1).trans rfl
  have hfs9 := y05 BK106002.out 1
  have hns9_0 := NB106001_106002.out
  have hms9_0 := NB106002_106001.out
  refine skip_ (w1 := ?_) (by rfl) rfl ?_ ?_
  rotate_left
  · go_simp
    rfl
  refine hK.out _ _ ⟨((cell_far (p := ⟨gb106002, _, none⟩) NB106001_106002.out _).trans (((cell_far (p := ⟨gb106002, _, none⟩) NB106001_106002.out _).trans (hHeld.1)))), ((cell_far (p := ⟨gb106002, _, none⟩) NB106001_106002.out _).trans (((cell_far (p := ⟨gb106002, _, none⟩) NB106001_106002.out _).trans (hHeld.2))))⟩ (fun hHeld => ?_)
  clear hK K
  refine done_ (by kernel_rfl) ?_
  try go_wp2
  refine bodyPost_ret (results_cell_row rfl _ _ gb106002 29 #[.slice Ao7 t106003.length co7, .int .i64 a0_1] (0, 0) _ rfl (by (with_reducible repeat (first | refine y07 ?_ _ | refine y09 ?_ | refine y06 ?_ _)); refine blk_put (cs := #[.slice Ao7 t106003.length co7, .int .i64 0]) ?_ 1 _ rfl; (with_reducible repeat (first | refine y07 ?_ _ | refine y09 ?_ | refine y06 ?_ _)); refine blk_put (cs := #[.slice none 0 0, .int .i64 0]) ?_ 0 _ rfl; (with_reducible repeat (first | refine y07 ?_ _ | refine y09 ?_ | refine y06 ?_ _)); exact BK106002.out) Tryz.underlying29 rfl (by kernel_rfl)) rfl ?_
  exact ⟨_, by first | rfl | (simp [errW_none, errW_some] <;> rfl) | (simp [*, errW_none, errW_some] <;> rfl), by (with_reducible repeat (first | apply Kd.S_alloc | apply Kd.S_drewN | apply Kd.S_drew)); exact Kd.S_mono (Kd.S_far (p := ⟨gb106002, 1, none⟩) (Kd.S_far (p := ⟨gb106002, 0, none⟩) (Kd.S_types HO106005.out BK106002.out (by decide)) (fun _ hk => hk.2) (.slice Ao7 t106003.length co7)) (fun _ hk => hk.2) (.int .i64 a0_1)) (fun _ hk => trivial), by repeat (first | (with_reducible first | exact HB.out | apply y01 | apply y02 | apply y04 | refine y08 ?_ GE106001.out | refine y08 ?_ GE106002.out) | exact HB.out)⟩
noncomputable def laws_heldFrame.f (k : Nat) (l0_0 : List (S48)) (a0_1 : Int) (a0_2 : Int) (a1 : Int) : Option (Int) := (laws_heldAccountS.f k l0_0 a1).bind fun t79002 => (if t79002 < 0 then (some (-1)) else (some t79002))
set_option maxHeartbeats 8000000 in
set_option maxRecDepth 100000 in
theorem laws_heldFrame.calls (k : Nat) (A0_0 : Option Addr) (c0_0 : Nat) (l0_0 : List (S48)) (a0_1 : Int) (a0_2 : Int) (a1 : Int) (r : Int) (w : World) (hr0_0 : Kd.C k48 w A0_0 l0_0.length l0_0) (hc0_0 : l0_0.length ≤ c0_0) (h : laws_heldFrame.f k l0_0 a0_1 a0_2 a1 = some r) :
    Calls Tryz.prog 78 #[.agg #[.slice A0_0 l0_0.length c0_0, .int .i64 a0_1, .int .i64 a0_2], .int .i64 a1] w fun e w' => e = .returned (.int .i64 r) ∧ Below w.heap.size w w' := by
  have hu26 := Tryz.underlying26
  have HR0_0 := Aside0.mk hr0_0
  have HC0_0 := Aside0.mk hc0_0
  clear hr0_0 hc0_0
  have HB := Aside0.mk (Below.refl w.heap.size w)
  have H : ((laws_heldAccountS.f k l0_0 a1).bind fun t79002 => (if t79002 < 0 then (some (-1)) else (some t79002))) = some r := h
  clear h
  replace H := Option.bind_eq_some_iff.mp H
  obtain ⟨t79002, A30, H⟩ := H
  replace H : (if t79002 < 0 then (some (-1)) else (some t79002)) = some r := H
  have A3 := Aside0.mk A30
  clear A30
  by_cases c4 : t79002 < 0
  · rw [if_pos c4] at H
    have c4b0 : decide (t79002 < 0) = true := decide_eq_true c4
    clear c4
    obtain rfl := Option.some.inj H
    go_enter Tryz.func78, Tryz.ntmps78
    go_wp2_with (first | ((with_reducible refine gate_dst (N := 2) rfl ?_); refine box_event ?hg (N := 2) ?hd (cs := #[.slice A0_0 l0_0.length c0_0, .int .i64 a0_1, .int .i64 a0_2]) (t := 26) ?hr ?_; (case hd => rfl); (case hg => rfl); (case hr => first | (go_simp; done) | (go_simp; rfl)); intro gb79001 hg w5 hbox hb; have n0_ := Aside0.mk (below_step (by repeat (first | (with_reducible first | exact HB.out | apply y01 | apply y02 | apply y04) | exact HB.out)) hb); have n1_ := Aside0.mk (hbox); have n2_ := Aside0.mk ((by rw [hg]; exact (below_size (by repeat (first | (with_reducible first | exact HB.out | apply y01 | apply y02 | apply y04) | exact HB.out))) : w.heap.size ≤ gb79001)); have n3_ := Aside0.mk ((by rw [hg]; exact (below_size (by repeat (first | (with_reducible first | exact HB.out | apply y01 | apply y02 | apply y04) | exact HB.out))) : w.heap.size ≤ gb79001)); clear HB; have HB := n0_; have BK79001 := n1_; have GW79001 := n2_; have GE79001 := n3_; clear n0_ n1_ n2_ n3_; clear hb hbox hg; have hcz6_0 : w5.cell? ⟨gb79001, 0, none⟩ = some (.slice A0_0 l0_0.length c0_0) := (y03 BK79001.out 0).trans rfl; have hcz6_1 : w5.cell? ⟨gb79001, 1, none⟩ = some (.int .i64 a0_1) := (y03 BK79001.out 1).trans rfl; have hcz6_2 : w5.cell? ⟨gb79001, 2, none⟩ = some (.int .i64 a0_2) := (y03 BK79001.out 2).trans rfl; have hfz6_0 := y05 BK79001.out 0; have hfz6_1 := y05 BK79001.out 1; have hfz6_2 := y05 BK79001.out 2) | ((with_reducible refine gate_callee (f := 117) rfl ?_); refine goesL_ (some 8) rfl rfl Tryz.func117 (by kernel_rfl) rfl #[.slice A0_0 l0_0.length c0_0, .int .i64 a1] rfl (by (try simp only [List.map_toArray, List.map_cons, List.map_nil]); first | done | rfl | (simp only [List.length_drop, List.length_take]; rfl)) ?_; (with_reducible refine (laws_heldAccountS.calls k _ _ l0_0 a1 t79002 _ ?side1 ?side2 A3.out).mono ?_); (case side1 => repeat (first | exact (Kd.C_below HR0_0.out HB.out) | (with_reducible refine Kd.C_alloc ?_ _) | (with_reducible refine Kd.C_drewN ?_ _) | (with_reducible refine Kd.C_drew ?_))); (case side2 => exact HC0_0.out); rintro e w7 ⟨rfl, hb⟩; refine ⟨_, rfl, ?_⟩; have n0_ := Aside0.mk (blk_below (g := gb79001) (o := .cells #[.slice A0_0 l0_0.length c0_0, .int .i64 a0_1, .int .i64 a0_2] 26 (0, 0)) (by (with_reducible repeat (first | refine y07 ?_ _ | refine y09 ?_ | refine y06 ?_ _)); exact BK79001.out) hb); have n1_ := Aside0.mk (below_step (by repeat (first | (with_reducible first | exact HB.out | apply y01 | apply y02 | apply y04 | refine y08 ?_ GE79001.out) | exact HB.out)) hb); clear BK79001; clear HB; have BK79001 := n0_; have HB := n1_; clear n0_ n1_; (try clear hb); (try clear hb2); (try clear hk); (try clear hi)))
    go_ret
    exact ⟨by first | rfl | (simp [errW_none, errW_some] <;> rfl) | (simp [*, errW_none, errW_some] <;> rfl), by repeat (first | (with_reducible first | exact HB.out | apply y01 | apply y02 | apply y04 | refine y08 ?_ GE79001.out) | exact HB.out)⟩
  · rw [if_neg c4] at H
    have c4b0 : decide (t79002 < 0) = false := decide_eq_false c4
    clear c4
    obtain rfl := Option.some.inj H
    go_enter Tryz.func78, Tryz.ntmps78
    go_wp2_with (first | ((with_reducible refine gate_dst (N := 2) rfl ?_); refine box_event ?hg (N := 2) ?hd (cs := #[.slice A0_0 l0_0.length c0_0, .int .i64 a0_1, .int .i64 a0_2]) (t := 26) ?hr ?_; (case hd => rfl); (case hg => rfl); (case hr => first | (go_simp; done) | (go_simp; rfl)); intro gb79001 hg w8 hbox hb; have n0_ := Aside0.mk (below_step (by repeat (first | (with_reducible first | exact HB.out | apply y01 | apply y02 | apply y04) | exact HB.out)) hb); have n1_ := Aside0.mk (hbox); have n2_ := Aside0.mk ((by rw [hg]; exact (below_size (by repeat (first | (with_reducible first | exact HB.out | apply y01 | apply y02 | apply y04) | exact HB.out))) : w.heap.size ≤ gb79001)); have n3_ := Aside0.mk ((by rw [hg]; exact (below_size (by repeat (first | (with_reducible first | exact HB.out | apply y01 | apply y02 | apply y04) | exact HB.out))) : w.heap.size ≤ gb79001)); clear HB; have HB := n0_; have BK79001 := n1_; have GW79001 := n2_; have GE79001 := n3_; clear n0_ n1_ n2_ n3_; clear hb hbox hg; have hcz9_0 : w8.cell? ⟨gb79001, 0, none⟩ = some (.slice A0_0 l0_0.length c0_0) := (y03 BK79001.out 0).trans rfl; have hcz9_1 : w8.cell? ⟨gb79001, 1, none⟩ = some (.int .i64 a0_1) := (y03 BK79001.out 1).trans rfl; have hcz9_2 : w8.cell? ⟨gb79001, 2, none⟩ = some (.int .i64 a0_2) := (y03 BK79001.out 2).trans rfl; have hfz9_0 := y05 BK79001.out 0; have hfz9_1 := y05 BK79001.out 1; have hfz9_2 := y05 BK79001.out 2) | ((with_reducible refine gate_callee (f := 117) rfl ?_); refine goesL_ (some 8) rfl rfl Tryz.func117 (by kernel_rfl) rfl #[.slice A0_0 l0_0.length c0_0, .int .i64 a1] rfl (by (try simp only [List.map_toArray, List.map_cons, List.map_nil]); first | done | rfl | (simp only [List.length_drop, List.length_take]; rfl)) ?_; (with_reducible refine (laws_heldAccountS.calls k _ _ l0_0 a1 t79002 _ ?side1 ?side2 A3.out).mono ?_); (case side1 => repeat (first | exact (Kd.C_below HR0_0.out HB.out) | (with_reducible refine Kd.C_alloc ?_ _) | (with_reducible refine Kd.C_drewN ?_ _) | (with_reducible refine Kd.C_drew ?_))); (case side2 => exact HC0_0.out); rintro e w10 ⟨rfl, hb⟩; refine ⟨_, rfl, ?_⟩; have n0_ := Aside0.mk (blk_below (g := gb79001) (o := .cells #[.slice A0_0 l0_0.length c0_0, .int .i64 a0_1, .int .i64 a0_2] 26 (0, 0)) (by (with_reducible repeat (first | refine y07 ?_ _ | refine y09 ?_ | refine y06 ?_ _)); exact BK79001.out) hb); have n1_ := Aside0.mk (below_step (by repeat (first | (with_reducible first | exact HB.out | apply y01 | apply y02 | apply y04 | refine y08 ?_ GE79001.out) | exact HB.out)) hb); clear BK79001; clear HB; have BK79001 := n0_; have HB := n1_; clear n0_ n1_; (try clear hb); (try clear hb2); (try clear hk); (try clear hi)))
    go_ret
    exact ⟨by first | rfl | (simp [errW_none, errW_some] <;> rfl) | (simp [*, errW_none, errW_some] <;> rfl), by repeat (first | (with_reducible first | exact HB.out | apply y01 | apply y02 | apply y04 | refine y08 ?_ GE79001.out) | exact HB.out)⟩
noncomputable def laws_markFrame.f (k : Nat) (l0_0 : List (S48)) (a0_1 : Int) (a0_2 : Int) (a1 : Int) : Option (Int × (List (S48))) := (laws_markAccountS.f k l0_0 a1).bind fun bt75002 => (some (bt75002.1, bt75002.2))
set_option maxHeartbeats 8000000 in
set_option maxRecDepth 100000 in
theorem laws_markFrame.calls (k : Nat) (P0_0_ : Nat → Prop) (u9000_ : Value) (l0_0 : List (S48)) (a0_1 : Int) (a0_2 : Int) (a1 : Int) (r1 : Int) (r2 : List (S48)) (w0 w : World) (hB : Below w0.heap.size w0 w) (ho0_0 : Kd.R k48 48 w w0.heap.size P0_0_ u9000_ l0_0) (h : laws_markFrame.f k l0_0 a0_1 a0_2 a1 = some (r1, r2)) :
    Calls Tryz.prog 74 #[.agg #[u9000_, .int .i64 a0_1, .int .i64 a0_2], .int .i64 a1] w fun e w' => e = .returned (.int .i64 r1) ∧ Kd.R k48 48 w' w0.heap.size (fun k_ => (P0_0_ k_ ∨ w.heap.size ≤ k_)) u9000_ r2 ∧ Below w0.heap.size w0 w' ∧ Kept w w' (fun k_ => P0_0_ k_) := by
  have hu26 := Tryz.underlying26
  have HO0_0 := Aside0.mk (show Kd.R k48 48 w w0.heap.size (fun k_ => (P0_0_ k_ ∨ w.heap.size ≤ k_)) u9000_ l0_0 from Kd.R_mono ho0_0 (fun k_ hk => (.inl hk)))
  have HK := Aside0.mk (Kept.refl w (fun k_ => P0_0_ k_))
  have HW0 := Aside0.mk hB.size
  have HB := Aside0.mk hB
  clear hB
  have H : ((laws_markAccountS.f k l0_0 a1).bind fun bt75002 => (some (bt75002.1, bt75002.2))) = some (r1, r2) := h
  clear h
  replace H := Option.bind_eq_some_iff.mp H
  obtain ⟨⟨t75002, t75003⟩, A30, H⟩ := H
  replace H : (some (t75002, t75003)) = some (r1, r2) := H
  have A3 := Aside0.mk A30
  clear A30
  simp only [Option.some.injEq, Prod.mk.injEq] at H
  obtain ⟨rfl, rfl⟩ := H
  obtain ⟨Ao4, co4, eo4⟩ := Kd.R_slice HO0_0.out
  subst eo4
  go_enter Tryz.func74, Tryz.ntmps74
  go_wp2_with (first | ((with_reducible refine gate_dst (N := 2) rfl ?_); refine box_event ?hg (N := 2) ?hd (cs := #[.slice Ao4 l0_0.length co4, .int .i64 a0_1, .int .i64 a0_2]) (t := 26) ?hr ?_; (case hd => rfl); (case hg => rfl); (case hr => first | (go_simp; done) | (go_simp; rfl)); intro gb75001 hg w5 hbox hb; have n0_ := Aside0.mk (Kd.R_below (by (with_reducible repeat (first | apply Kd.R_alloc | apply Kd.R_drewN | apply Kd.R_drew)); exact HO0_0.out) hb); have n1_ := Aside0.mk (Kept.below (S := (fun k_ => P0_0_ k_)) (by repeat (first | (with_reducible first | exact HK.out | apply Kept.alloc | apply Kept.drewN | apply Kept.drew) | exact HK.out)) hb); have n2_ := Aside0.mk (below_step (by repeat (first | (with_reducible first | exact HB.out | apply y01 | apply y02 | apply y04) | exact HB.out)) hb); have n3_ := Aside0.mk (hbox); have n4_ := Aside0.mk ((by rw [hg]; exact (by first | exact HK.out.1 | exact (show Kept w _ (fun k_ => P0_0_ k_) from by repeat (first | (with_reducible first | exact HK.out | apply Kept.alloc | apply Kept.drewN | apply Kept.drew) | exact HK.out)).1) : w.heap.size ≤ gb75001)); have n5_ := Aside0.mk ((by rw [hg]; exact (below_size (by repeat (first | (with_reducible first | exact HB.out | apply y01 | apply y02 | apply y04) | exact HB.out))) : w0.heap.size ≤ gb75001)); clear HO0_0; clear HK; clear HB; have HO0_0 := n0_; have HK := n1_; have HB := n2_; have BK75001 := n3_; have GW75001 := n4_; have GE75001 := n5_; clear n0_ n1_ n2_ n3_ n4_ n5_; clear hb hbox hg; have hcz6_0 : w5.cell? ⟨gb75001, 0, none⟩ = some (.slice Ao4 l0_0.length co4) := (y03 BK75001.out 0).trans rfl; have hcz6_1 : w5.cell? ⟨gb75001, 1, none⟩ = some (.int .i64 a0_1) := (y03 BK75001.out 1).trans rfl; have hcz6_2 : w5.cell? ⟨gb75001, 2, none⟩ = some (.int .i64 a0_2) := (y03 BK75001.out 2).trans rfl; have hfz6_0 := y05 BK75001.out 0; have hfz6_1 := y05 BK75001.out 1; have hfz6_2 := y05 BK75001.out 2) | ((with_reducible refine gate_callee (f := 115) rfl ?_); refine goesL_ (some 8) rfl rfl Tryz.func115 (by kernel_rfl) rfl #[.slice Ao4 l0_0.length co4, .int .i64 a1] rfl (by (try simp only [List.map_toArray, List.map_cons, List.map_nil]); first | done | rfl | (simp only [List.length_drop, List.length_take]; rfl)) ?_; (with_reducible refine (laws_markAccountS.calls k (fun k_ => some k_ = (.slice Ao4 l0_0.length co4 : Value).ownBlock) (.slice Ao4 l0_0.length co4) l0_0 a1 t75002 t75003 w0 _ ?side1 ?side2 A3.out).mono ?_); (case side1 => repeat (first | (with_reducible first | exact HB.out | apply y01 | apply y02 | apply y04 | refine y08 ?_ GE75001.out) | exact HB.out)); (case side2 => exact Kd.R_tight rfl HO0_0.out); rintro e w7 ⟨rfl, hy0, hb, hkp⟩; refine ⟨_, rfl, ?_⟩; have n0_ := Aside0.mk (Kd.R_reok rfl hy0 (fun k_ e_ => HO0_0.out.1 k_ e_)); have n1_ := Aside0.mk (blk_kept (by (with_reducible repeat (first | refine y07 ?_ _ | refine y09 ?_ | refine y06 ?_ _)); exact BK75001.out) hkp (fun hs_ => (fun e_ => (Kd.R_ne HO0_0.out BK75001.out (by decide)) e_) hs_)); have n2_ := Aside0.mk (Kept.then_ (S := (fun k_ => P0_0_ k_)) (by repeat (first | (with_reducible first | exact HK.out | apply Kept.alloc | apply Kept.drewN | apply Kept.drew | refine Kept.setCell ?_ (.inr GW75001.out) _) | exact HK.out)) hkp (fun k_ hs_ => (fun e_ => (HO0_0.out.1 k_ e_.symm)) hs_)); have n3_ := Aside0.mk (hb); clear HO0_0; clear BK75001; clear HK; clear HB; have HO0_0 := n0_; have BK75001 := n1_; have HK := n2_; have HB := n3_; clear n0_ n1_ n2_ n3_; (try clear hb); (try clear hkp); (try clear hy0)))
  go_ret
  exact ⟨by first | rfl | (simp [errW_none, errW_some] <;> rfl) | (simp [*, errW_none, errW_some] <;> rfl), by (with_reducible repeat (first | apply Kd.R_alloc | apply Kd.R_drewN | apply Kd.R_drew)); exact HO0_0.out, by repeat (first | (with_reducible first | exact HB.out | apply y01 | apply y02 | apply y04 | refine y08 ?_ GE75001.out) | exact HB.out), by repeat (first | (with_reducible first | exact HK.out | apply Kept.alloc | apply Kept.drewN | apply Kept.drew | refine Kept.setCell ?_ (.inr GW75001.out) _) | exact HK.out)⟩
end Go.Proofs.YtjkjjfbcakbmnaaGreatDoor.Q
namespace Go.Proofs.YtjkjjfbcakbmnaaGreatDoor.Q
open Go.RowKit Go.Proofs.YtjkjjfbcakbmnaaGreatDoorW.PrintWords Go.Proofs.YtjkjjfbcakbmnaaGreatDoorW.PrintLast Go.Proofs.YtjkjjfbcakbmnaaGreatDoorW.PrintMore
set_option linter.unusedVariables false
set_option linter.unusedSimpArgs false
theorem l5Entries_l0 (l : List Ent) (hl : l.length ≤ 1048576) (hs : ∀ x ∈ l, x.f3.length ≤ 1048576) : ∀ (n k : Nat) (i : Int), 0 ≤ i → i + n = (l.length : Int) → n < k → spec_l5Entries.l0 k l (l.take i.toNat) i = some l := by
  intro n
  induction n with
  | zero =>
    intro k i h0 hi hk
    obtain ⟨k, rfl⟩ : ∃ j, k = j + 1 := ⟨k - 1, by omega⟩
    simp only [spec_l5Entries.l0]
    rw [if_neg (by omega), List.take_of_length_le (by omega)]
  | succ n ih =>
    intro k i h0 hi hk
    obtain ⟨k, rfl⟩ : ∃ j, k = j + 1 := ⟨k - 1, by omega⟩
    have hx : (rd_T41 l i).f3.length ≤ 1048576 := all_at (z := z41) (p := fun x => x.f3.length ≤ 1048576) h0 (by omega) hs
    have hlt : (l.take i.toNat).length = i.toNat := by rw [List.length_take]; omega
    have hst : l.take i.toNat ++ [rd_T41 l i] = l.take (i + 1).toNat := by
      rw [show (i + 1).toNat = i.toNat + 1 by omega, List.take_add_one, List.getElem?_eq_getElem (by omega)]
      unfold rd_T41
      rw [List.getD_eq_getElem?_getD, List.getElem?_eq_getElem (by omega)]
      rfl
    simp only [spec_l5Entries.l0, spec_l5Entry.f, Option.bind_some, List.nil_append, List.length_nil, Nat.zero_add]
    rw [if_pos (by omega), if_pos h0, if_pos (by omega)]
    simp only [Option.bind_some]
    rw [if_pos (by rw [hlt]; omega), wr1 h0 (by omega)]
    have := ih k (i + 1) (by omega) (by omega) (by omega)
    rw [← hst] at this
    exact this
def Cur (w0 W : World) (g : Nat) (c : List Int) : Prop := ∃ i h, IsS130 w0 W g c i h ∧ 0 ≤ i ∧ i ≤ (c.length : Int)
structure Drew (w0 w w' : World) (g : Nat) (c : List Int) : Prop where
  cur : Cur w0 w' g c
  bel : Below w0.heap.size w0 w'
  keep : KeepBut w w' g none
theorem Cur.lt {w0 W : World} {g : Nat} {c : List Int} (h : Cur w0 W g c) : g < W.heap.size := by obtain ⟨_, _, h, _⟩ := h; exact h.lt
theorem Cur.below {w0 W W1 : World} {g : Nat} {c : List Int} (h : Cur w0 W g c) (hw : Below W.heap.size W W1) : Cur w0 W1 g c := by obtain ⟨i, j, h, k⟩ := h; exact ⟨i, j, h.below hw, k⟩
theorem Cur.grown {w0 W W1 : World} {g : Nat} {c : List Int} {row : Option Nat} (h : Cur w0 W g c) (hw : W.grownBy W1 row) (hne : some g ≠ row) : Cur w0 W1 g c := by obtain ⟨i, j, h, k⟩ := h; exact ⟨i, j, h.grown hw hne, k⟩
theorem Cur.far {w0 W : World} {g : Nat} {c : List Int} {p : Addr} (h : Cur w0 W g c) (hne : g ≠ p.block) (u : Value) : Cur w0 (W.setCell p u) g c := by obtain ⟨i, j, h, k⟩ := h; exact ⟨i, j, h.far hne u, k⟩
theorem Cur.drewN {w0 W : World} {g : Nat} {c : List Int} (h : Cur w0 W g c) (m : Nat) : Cur w0 (W.drewN m) g c := by obtain ⟨i, j, h, k⟩ := h; exact ⟨i, j, h.drewN m, k⟩
theorem Cur.drew {w0 W : World} {g : Nat} {c : List Int} (h : Cur w0 W g c) : Cur w0 W.drew g c := by obtain ⟨i, j, h, k⟩ := h; exact ⟨i, j, h.drew, k⟩
theorem Cur.own_ne {w0 W : World} {g : Nat} {c : List Int} {α : Type} {d : Kd α} {e : Nat} {base : Nat} {ok : Nat → Prop} {v : Value} {xs : List α} (h : Cur w0 W g c) (ho : d.R e W base ok v xs) (ht : e ≠ 130) : some g ≠ v.ownBlock := by obtain ⟨i, j, h, k⟩ := h; exact h.own_ne ho ht
theorem Cur.apart {w0 W : World} {g : Nat} {c : List Int} {α : Type} {d : Kd α} {e : Nat} {base : Nat} {ok : Nat → Prop} {v : Value} {xs : List α} (h : Cur w0 W g c) (ho : d.R e W base ok v xs) (ht : ∀ q, q ∈ e :: d.E → q ≠ 130) : d.R e W base (fun k => ok k ∧ k ≠ g) v xs := by obtain ⟨i, j, h, k⟩ := h; exact h.apart ho ht
theorem KeepBut.thenK {w w1 w2 : World} {g : Nat} (h : KeepBut w w1 g none) (k : KeepBut w1 w2 g none) : KeepBut w w2 g none := h.trans k (.inl rfl)
theorem KeepBut.cell {w w1 : World} {g : Nat} (h : KeepBut w w1 g none) {p : Addr} {v : Value} (hc : w.cell? p = some v) (hne : p.block ≠ g) : w1.cell? p = some v :=
  (World.cell?_of_block (h.2 p.block (World.block_lt_of_cell? w p hc) hne (by simp))).trans hc
section
variable {w0 w : World} {g : Nat} {c : List Int}
end
theorem laid_sentinels5 {P : Program} {n0 n1 n2 n3 n4 nm : String} {x0 x1 x2 x3 x4 : List UInt8} {W : World} {g0 g1 g2 g3 g4 : Nat} {ti tp te ts : TypeId} {ms : Array (String × TypeId)} {f : Field}
    (h : laidMet P [(n0, .iface nm (.ptr (.agg [.lit (.string x0)]))), (n1, .iface nm (.ptr (.agg [.lit (.string x1)]))), (n2, .iface nm (.ptr (.agg [.lit (.string x2)]))), (n3, .iface nm (.ptr (.agg [.lit (.string x3)]))), (n4, .iface nm (.ptr (.agg [.lit (.string x4)])))] W)
    (hg0 : P.globalNamed n0 = some g0) (ht0 : (P.globals[g0]?).map (·.type) = some ti) (hg1 : P.globalNamed n1 = some g1) (ht1 : (P.globals[g1]?).map (·.type) = some ti) (hg2 : P.globalNamed n2 = some g2) (ht2 : (P.globals[g2]?).map (·.type) = some ti) (hg3 : P.globalNamed n3 = some g3) (ht3 : (P.globals[g3]?).map (·.type) = some ti) (hg4 : P.globalNamed n4 = some g4) (ht4 : (P.globals[g4]?).map (·.type) = some ti)
    (hi : P.underlying ti = some (.interface ms)) (hrow : ∀ u, P.typeName? 3 u = some nm → u = tp) (hp : P.underlying tp = some (.pointer te)) (he : P.underlying te = some (.struct #[f])) (hft : f.type = ts) (hfo : f.offset = 0) (hs : P.underlying ts = some .string) (hc : P.cellsOf te = 1) (hcs : P.cellsOf ts = 1) :
    ∃ (a0 a1 a2 a3 a4 : Addr) (c0 c1 c2 c3 c4 : Array Value) (t0 t1 t2 t3 t4 : TypeId), W.var? P n0 = some #[.iface tp (.pointer (some a0))] ∧ W.var? P n1 = some #[.iface tp (.pointer (some a1))] ∧ W.var? P n2 = some #[.iface tp (.pointer (some a2))] ∧ W.var? P n3 = some #[.iface tp (.pointer (some a3))] ∧ W.var? P n4 = some #[.iface tp (.pointer (some a4))] ∧ W.heap[a0.block]? = some (.cells c0 t0 (0, 0)) ∧ W.heap[a1.block]? = some (.cells c1 t1 (0, 0)) ∧ W.heap[a2.block]? = some (.cells c2 t2 (0, 0)) ∧ W.heap[a3.block]? = some (.cells c3 t3 (0, 0)) ∧ W.heap[a4.block]? = some (.cells c4 t4 (0, 0)) ∧ a0 ≠ a1 ∧ a0 ≠ a2 ∧ a0 ≠ a3 ∧ a0 ≠ a4 ∧ a1 ≠ a2 ∧ a1 ≠ a3 ∧ a1 ≠ a4 ∧ a2 ≠ a3 ∧ a2 ≠ a4 ∧ a3 ≠ a4 := by
  obtain ⟨ps, ⟨g0', t0', cs0, f0, p0, q0, hg0', ht0', hv0, hd0, ⟨g1', t1', cs1, f1, p1, q1, hg1', ht1', hv1, hd1, ⟨g2', t2', cs2, f2, p2, q2, hg2', ht2', hv2, hd2, ⟨g3', t3', cs3, f3, p3, q3, hg3', ht3', hv3, hd3, ⟨g4', t4', cs4, f4, p4, q4, hg4', ht4', hv4, hd4, e_, e4⟩, e3⟩, e2⟩, e1⟩, e0⟩, hnd, hrows⟩ := h
  obtain rfl := Option.some.inj (hg0.symm.trans hg0')
  obtain rfl := Option.some.inj (ht0.symm.trans ht0')
  obtain rfl := Option.some.inj (hg1.symm.trans hg1')
  obtain rfl := Option.some.inj (ht1.symm.trans ht1')
  obtain rfl := Option.some.inj (hg2.symm.trans hg2')
  obtain rfl := Option.some.inj (ht2.symm.trans ht2')
  obtain rfl := Option.some.inj (hg3.symm.trans hg3')
  obtain rfl := Option.some.inj (ht3.symm.trans ht3')
  obtain rfl := Option.some.inj (hg4.symm.trans hg4')
  obtain rfl := Option.some.inj (ht4.symm.trans ht4')
  subst e_
  subst e4
  subst e3
  subst e2
  subst e1
  subst e0
  obtain ⟨l0⟩ := cs0
  obtain ⟨l1⟩ := cs1
  obtain ⟨l2⟩ := cs2
  obtain ⟨l3⟩ := cs3
  obtain ⟨l4⟩ := cs4
  have ok0 : ∀ u v, l0 = [.iface u v] → Value.okWide P W .any 0 u v := fun u v e => by
    subst e
    exact (hrows g0 0 (by simp [MemPlace.row])).2 u v (by simpa using World.var?_cell hg0' hv0 0)
  have ok1 : ∀ u v, l1 = [.iface u v] → Value.okWide P W .any 0 u v := fun u v e => by
    subst e
    exact (hrows g1 0 (by simp [MemPlace.row])).2 u v (by simpa using World.var?_cell hg1' hv1 0)
  have ok2 : ∀ u v, l2 = [.iface u v] → Value.okWide P W .any 0 u v := fun u v e => by
    subst e
    exact (hrows g2 0 (by simp [MemPlace.row])).2 u v (by simpa using World.var?_cell hg2' hv2 0)
  have ok3 : ∀ u v, l3 = [.iface u v] → Value.okWide P W .any 0 u v := fun u v e => by
    subst e
    exact (hrows g3 0 (by simp [MemPlace.row])).2 u v (by simpa using World.var?_cell hg3' hv3 0)
  have ok4 : ∀ u v, l4 = [.iface u v] → Value.okWide P W .any 0 u v := fun u v e => by
    subst e
    exact (hrows g4 0 (by simp [MemPlace.row])).2 u v (by simpa using World.var?_cell hg4' hv4 0)
  obtain ⟨a0, s0, rfl, hc0, hs0, hz0, rfl⟩ := errorString_of_trod hi hrow hp he hft hfo hs hc hcs hd0 ok0
  obtain ⟨a1, s1, rfl, hc1, hs1, hz1, rfl⟩ := errorString_of_trod hi hrow hp he hft hfo hs hc hcs hd1 ok1
  obtain ⟨a2, s2, rfl, hc2, hs2, hz2, rfl⟩ := errorString_of_trod hi hrow hp he hft hfo hs hc hcs hd2 ok2
  obtain ⟨a3, s3, rfl, hc3, hs3, hz3, rfl⟩ := errorString_of_trod hi hrow hp he hft hfo hs hc hcs hd3 ok3
  obtain ⟨a4, s4, rfl, hc4, hs4, hz4, rfl⟩ := errorString_of_trod hi hrow hp he hft hfo hs hc hcs hd4 ok4
  obtain ⟨c0, t0, hb0⟩ := (hrows a0.block a0.off (by simp [MemPlace.row])).1
  obtain ⟨c1, t1, hb1⟩ := (hrows a1.block a1.off (by simp [MemPlace.row])).1
  obtain ⟨c2, t2, hb2⟩ := (hrows a2.block a2.off (by simp [MemPlace.row])).1
  obtain ⟨c3, t3, hb3⟩ := (hrows a3.block a3.off (by simp [MemPlace.row])).1
  obtain ⟨c4, t4, hb4⟩ := (hrows a4.block a4.off (by simp [MemPlace.row])).1
  refine ⟨a0, a1, a2, a3, a4, c0, c1, c2, c3, c4, t0, t1, t2, t3, t4, hv0, hv1, hv2, hv3, hv4, hb0, hb1, hb2, hb3, hb4, ?_, ?_, ?_, ?_, ?_, ?_, ?_, ?_, ?_, ?_⟩
  all_goals (rintro rfl; simp [MemPlace.row] at hnd)
theorem lz_g0 : Tryz.prog.globalNamed "loop.example/g00040/impl.errBad" = some 0 := by kernel_rfl
theorem lz_t0 : (Tryz.prog.globals[0]?).map (·.type) = some 91 := by kernel_rfl
theorem lz_g1 : Tryz.prog.globalNamed "loop.example/g00040/impl.errEntry" = some 1 := by kernel_rfl
theorem lz_t1 : (Tryz.prog.globals[1]?).map (·.type) = some 91 := by kernel_rfl
theorem lz_g2 : Tryz.prog.globalNamed "loop.example/g00040/impl.errNone" = some 2 := by kernel_rfl
theorem lz_t2 : (Tryz.prog.globals[2]?).map (·.type) = some 91 := by kernel_rfl
theorem lz_g3 : Tryz.prog.globalNamed "loop.example/g00040/impl.errShut" = some 3 := by kernel_rfl
theorem lz_t3 : (Tryz.prog.globals[3]?).map (·.type) = some 91 := by kernel_rfl
theorem lz_g4 : Tryz.prog.globalNamed "loop.example/g00040/impl.errFull" = some 4 := by kernel_rfl
theorem lz_t4 : (Tryz.prog.globals[4]?).map (·.type) = some 91 := by kernel_rfl
theorem lz_star : "*" ++ "errors.errorString" = "*errors.errorString" := by decide
theorem lz_row (u : TypeId) (h : Tryz.prog.typeName? 3 u = some "*errors.errorString") : u = 209 :=
  typeName_ptr_named (nm := "errors.errorString") (by rw [lz_star]; kernel_rfl) (by kernel_rfl) (by decide) u (by rw [lz_star]; exact h)
theorem lz_cellsE : Tryz.prog.cellsOf 235 = 1 := by kernel_rfl
theorem lz_cellsS : Tryz.prog.cellsOf 9 = 1 := by kernel_rfl
def pick5 (a0 a1 a2 a3 a4 : Addr) : Nat → Addr
  | 0 => a0
  | 1 => a1
  | 2 => a2
  | 3 => a3
  | _ => a4
theorem sents_of_laid {W : World} {x0 x1 x2 x3 x4 : List UInt8} (h : laidMet Tryz.prog [("loop.example/g00040/impl.errBad", .iface "*errors.errorString" (.ptr (.agg [.lit (.string x0)]))), ("loop.example/g00040/impl.errEntry", .iface "*errors.errorString" (.ptr (.agg [.lit (.string x1)]))), ("loop.example/g00040/impl.errNone", .iface "*errors.errorString" (.ptr (.agg [.lit (.string x2)]))), ("loop.example/g00040/impl.errShut", .iface "*errors.errorString" (.ptr (.agg [.lit (.string x3)]))), ("loop.example/g00040/impl.errFull", .iface "*errors.errorString" (.ptr (.agg [.lit (.string x4)])))] W) :
    ∃ A : Nat → Addr, Sent W A ∧ W.var? Tryz.prog "loop.example/g00040/impl.errBad" = some #[.iface 209 (.pointer (some (A 0)))] ∧ W.var? Tryz.prog "loop.example/g00040/impl.errEntry" = some #[.iface 209 (.pointer (some (A 1)))] ∧ W.var? Tryz.prog "loop.example/g00040/impl.errNone" = some #[.iface 209 (.pointer (some (A 2)))] ∧ W.var? Tryz.prog "loop.example/g00040/impl.errShut" = some #[.iface 209 (.pointer (some (A 3)))] ∧ W.var? Tryz.prog "loop.example/g00040/impl.errFull" = some #[.iface 209 (.pointer (some (A 4)))] := by
  obtain ⟨a0, a1, a2, a3, a4, c0, c1, c2, c3, c4, t0, t1, t2, t3, t4, hv0, hv1, hv2, hv3, hv4, hb0, hb1, hb2, hb3, hb4, n01, n02, n03, n04, n12, n13, n14, n23, n24, n34⟩ := laid_sentinels5 h lz_g0 lz_t0 lz_g1 lz_t1 lz_g2 lz_t2 lz_g3 lz_t3 lz_g4 lz_t4 Tryz.underlying91 lz_row Tryz.underlying209 Tryz.underlying235 rfl rfl Tryz.underlying9 lz_cellsE lz_cellsS
  refine ⟨pick5 a0 a1 a2 a3 a4, ⟨fun i hi => ?_, fun i hi => ?_, fun i j hi hj hne => ?_⟩, hv0, hv1, hv2, hv3, hv4⟩
  · match i, hi with
    | 0, _ => simpa [pick5] using World.var?_cell lz_g0 hv0 0
    | 1, _ => simpa [pick5] using World.var?_cell lz_g1 hv1 0
    | 2, _ => simpa [pick5] using World.var?_cell lz_g2 hv2 0
    | 3, _ => simpa [pick5] using World.var?_cell lz_g3 hv3 0
    | 4, _ => simpa [pick5] using World.var?_cell lz_g4 hv4 0
  · match i, hi with
    | 0, _ => exact ⟨c0, t0, hb0⟩
    | 1, _ => exact ⟨c1, t1, hb1⟩
    | 2, _ => exact ⟨c2, t2, hb2⟩
    | 3, _ => exact ⟨c3, t3, hb3⟩
    | 4, _ => exact ⟨c4, t4, hb4⟩
  · match i, j, hi, hj, hne with
    | 0, 0, _, _, hne => exact absurd rfl hne
    | 0, 1, _, _, hne => exact n01
    | 0, 2, _, _, hne => exact n02
    | 0, 3, _, _, hne => exact n03
    | 0, 4, _, _, hne => exact n04
    | 1, 0, _, _, hne => exact Ne.symm n01
    | 1, 1, _, _, hne => exact absurd rfl hne
    | 1, 2, _, _, hne => exact n12
    | 1, 3, _, _, hne => exact n13
    | 1, 4, _, _, hne => exact n14
    | 2, 0, _, _, hne => exact Ne.symm n02
    | 2, 1, _, _, hne => exact Ne.symm n12
    | 2, 2, _, _, hne => exact absurd rfl hne
    | 2, 3, _, _, hne => exact n23
    | 2, 4, _, _, hne => exact n24
    | 3, 0, _, _, hne => exact Ne.symm n03
    | 3, 1, _, _, hne => exact Ne.symm n13
    | 3, 2, _, _, hne => exact Ne.symm n23
    | 3, 3, _, _, hne => exact absurd rfl hne
    | 3, 4, _, _, hne => exact n34
    | 4, 0, _, _, hne => exact Ne.symm n04
    | 4, 1, _, _, hne => exact Ne.symm n14
    | 4, 2, _, _, hne => exact Ne.symm n24
    | 4, 3, _, _, hne => exact Ne.symm n34
    | 4, 4, _, _, hne => exact absurd rfl hne
theorem vars_read5 {H : Type} (enc : TypeId × Value → H) {W : World} {x0 x1 x2 x3 x4 : Value} (h0 : W.var? Tryz.prog "loop.example/g00040/impl.errBad" = some #[x0]) (h1 : W.var? Tryz.prog "loop.example/g00040/impl.errEntry" = some #[x1]) (h2 : W.var? Tryz.prog "loop.example/g00040/impl.errNone" = some #[x2]) (h3 : W.var? Tryz.prog "loop.example/g00040/impl.errShut" = some #[x3]) (h4 : W.var? Tryz.prog "loop.example/g00040/impl.errFull" = some #[x4]) (i0 : IsIface x0) (i1 : IsIface x1) (i2 : IsIface x2) (i3 : IsIface x3) (i4 : IsIface x4) (sp : Nat → Bool) :
    DataW.TrodVars enc Tryz.prog W sp ["loop.example/g00040/impl.errBad", "loop.example/g00040/impl.errEntry", "loop.example/g00040/impl.errNone", "loop.example/g00040/impl.errShut", "loop.example/g00040/impl.errFull"] [tok enc x0, tok enc x1, tok enc x2, tok enc x3, tok enc x4] [.cell 0 0, .cell 1 0, .cell 2 0, .cell 3 0, .cell 4 0] :=
  ⟨0, 91, #[x0], 1, [], [.cell 1 0, .cell 2 0, .cell 3 0, .cell 4 0], lz_g0, lz_t0, h0, trod_held Tryz.underlying91 i0 0, ⟨1, 91, #[x1], 1, [], [.cell 2 0, .cell 3 0, .cell 4 0], lz_g1, lz_t1, h1, trod_held Tryz.underlying91 i1 0, ⟨2, 91, #[x2], 1, [], [.cell 3 0, .cell 4 0], lz_g2, lz_t2, h2, trod_held Tryz.underlying91 i2 0, ⟨3, 91, #[x3], 1, [], [.cell 4 0], lz_g3, lz_t3, h3, trod_held Tryz.underlying91 i3 0, ⟨4, 91, #[x4], 1, [], [], lz_g4, lz_t4, h4, trod_held Tryz.underlying91 i4 0, rfl, rfl⟩, rfl⟩, rfl⟩, rfl⟩, rfl⟩
theorem var_below {W W' : World} {n : String} {g : Nat} {cs : Array Value} (hg : Tryz.prog.globalNamed n = some g) (h : W.var? Tryz.prog n = some cs) (hb : Below W.heap.size W W') : W'.var? Tryz.prog n = some cs := by
  unfold World.var? at h ⊢
  rw [hg] at h ⊢
  simp only [Option.bind_some] at h ⊢
  have hlt : g < W.heap.size := by
    cases hh : W.heap[g]? with
    | none => rw [hh] at h; cases h
    | some o => exact (Array.getElem?_eq_some_iff.1 hh).1
  rw [hb.block g hlt]
  exact h
end Go.Proofs.YtjkjjfbcakbmnaaGreatDoor.Q
