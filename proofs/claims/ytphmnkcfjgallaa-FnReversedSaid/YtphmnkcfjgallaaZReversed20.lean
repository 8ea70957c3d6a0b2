/- Parts of the proof: what functions of the program and of the reference answer.
   No condition. -/
import Derived.Test.YtphmnkcfjgallaaZReversed1
import Derived.Test.YtphmnkcfjgallaaZReversed15
import Derived.Test.YtphmnkcfjgallaaZReversed11
import Derived.Test.YtphmnkcfjgallaaZReversed8
import Derived.Test.YtphmnkcfjgallaaZReversed9
import Derived.Test.YtphmnkcfjgallaaZReversed12
import Derived.Test.YtphmnkcfjgallaaZReversed17
import Derived.Test.YtphmnkcfjgallaaZReversed18
import Derived.Test.YtphmnkcfjgallaaZReversed19
import Derived.Test.YtphmnkcfjgallaaZReversed10
import Derived.Test.YtphmnkcfjgallaaZReversed13
namespace Go.Proofs.Ytphmnkcfjgallaa.Q
open Go.RowKit Go.Proofs.YtphmnkcfjgallaaW.PrintWords Go.Proofs.YtphmnkcfjgallaaW.PrintLast Go.Proofs.YtphmnkcfjgallaaW.PrintMore
set_option linter.unusedVariables false
set_option linter.unusedSimpArgs false
def spec_l5SpoilLedger.T2 : Bool × List (List Nat × List Nat) := (true, [([], []), ([0], [0]), ([], []), ([], []), ([3], [3]), ([4], [4]), ([5], [5]), ([2, 6], [2, 6]), ([1, 7], [1, 7]), ([0, 1, 2, 3, 4, 5, 6, 7, 8], []), ([9, 8, 7, 0, 1, 2, 3, 4, 5, 6, 7, 8], [8, 9])])
def spec_l5SpoilLedger.B2 : List Nat := [0, 1, 0, 0, 8, 24, 56, 124, 255, 511, 1023]
theorem spec_l5SpoilLedger.tab2 : rtab .any (opsOf Try.f70 2) = spec_l5SpoilLedger.T2 := by kernel_rfl
theorem spec_l5SpoilLedger.bits2 : waitsOk spec_l5SpoilLedger.T2.2 spec_l5SpoilLedger.B2 = true := by kernel_rfl
def spec_l5SpoilLedger.T5 : Bool × List (List Nat × List Nat) := (true, [([], []), ([0], [0]), ([], []), ([], []), ([], []), ([4], [4]), ([], []), ([5, 6], [5, 6]), ([7], [7]), ([3, 8], [3, 8]), ([1, 2, 0, 1, 2, 3, 4, 5, 6, 7, 8, 9], [1, 2]), ([10, 9, 9, 0, 1, 2, 3, 4, 5, 6, 7, 8, 9], [9, 10])])
def spec_l5SpoilLedger.B5 : List Nat := [0, 1, 0, 0, 0, 16, 0, 112, 240, 504, 1023, 2047]
theorem spec_l5SpoilLedger.tab5 : rtab .any (opsOf Try.f70 5) = spec_l5SpoilLedger.T5 := by kernel_rfl
theorem spec_l5SpoilLedger.bits5 : waitsOk spec_l5SpoilLedger.T5.2 spec_l5SpoilLedger.B5 = true := by kernel_rfl
structure DrewL (w0 w w' : World) (g : Nat) (c : List Int) (P : Nat → Prop) : Prop where
  cur : Cur w0 w' g c
  bel : Below w0.heap.size w0 w'
  size : w.heap.size ≤ w'.heap.size
  keep : ∀ i, i < w.heap.size → i ≠ g → ¬ P i → w'.heap[i]? = w.heap[i]?
section
variable {w0 w W W1 : World} {g : Nat} {P : Nat → Prop} {c : List Int}
theorem Drew.toL (h : Drew w0 w W g c) (P : Nat → Prop) : DrewL w0 w W g c P := ⟨h.cur, h.bel, h.keep.1, fun i hi hne _ => h.keep.2 i hi hne (by simp)⟩
theorem DrewL.call (h : DrewL w0 w W g c P) (k : Drew w0 W W1 g c) : DrewL w0 w W1 g c P := ⟨k.cur, k.bel, Nat.le_trans h.size k.keep.1, fun i hi hne hp => (k.keep.2 i (by have := h.size; omega) hne (by simp)).trans (h.keep i hi hne hp)⟩
theorem DrewL.callR {row : Option Nat} (h : DrewL w0 w W g c P) (k : DrewR w0 W W1 g c row) (hr : ∀ b, row = some b → P b ∨ w.heap.size ≤ b) : DrewL w0 w W1 g c P := ⟨k.cur, k.bel, Nat.le_trans h.size k.keep.1, fun i hi hne hp => (k.keep.2 i (by have := h.size; omega) hne (fun e => (hr i e.symm).elim hp (fun h => by omega))).trans (h.keep i hi hne hp)⟩
theorem DrewL.below (h : DrewL w0 w W g c P) (k : Below W.heap.size W W1) : DrewL w0 w W1 g c P := ⟨h.cur.below k, below_step h.bel k, Nat.le_trans h.size k.size, fun i hi hne hp => (k.block i (by have := h.size; omega)).trans (h.keep i hi hne hp)⟩
theorem DrewL.set (h : DrewL w0 w W g c P) {p : Addr} (hl : w0.heap.size ≤ p.block) (hp : P p.block ∨ w.heap.size ≤ p.block) (hne : p.block ≠ g) (u : Value) : DrewL w0 w (W.setCell p u) g c P :=
  ⟨h.cur.far (fun e => hne e.symm) u, h.bel.setCell hl u, by simpa using h.size, fun i hi hi2 hn => (Below.heap_setCell W p u i (fun e => hp.elim (fun h => hn (e ▸ h)) (fun h => by omega))).trans (h.keep i hi hi2 hn)⟩
end
theorem goodEnts_set {es : List Ent} {n : Nat} {i : Nat} {e : Ent} (h : goodEnts es n) (h2 : e.f2.size ≤ 50 ∧ e.f3.length ≤ 9) : goodEnts (es.set i e) n := by
  refine ⟨by rw [List.length_set]; exact h.1, fun x hx => ?_⟩
  rcases List.mem_or_eq_of_mem_set hx with hx | rfl
  · exact h.2 x hx
  · exact h2
theorem ent_elem {W : World} {base gp n cap : Nat} {ok : Nat → Prop} {es : List Ent} (h : Kd.S k34 34 W base ok (.slice (some ⟨gp, 0, none⟩) n cap) es) (i : Int) (h0 : 0 ≤ i) (h1 : i < n) : ∃ (A : Option Addr) (c : Nat) (oki : Nat → Prop), (W.cell? ⟨gp, i.toNat * 4, none⟩ = some (.int .i64 (rd_T34 es i).f0) ∧ W.cell? ⟨gp, i.toNat * 4 + 1, none⟩ = some (.int .i64 (rd_T34 es i).f1) ∧ W.cell? ⟨gp, i.toNat * 4 + 2, none⟩ = some (.string (rd_T34 es i).f2) ∧ W.cell? ⟨gp, i.toNat * 4 + 3, none⟩ = some (.slice A (rd_T34 es i).f3.length c)) ∧ k112.R 112 W base oki (.slice A (rd_T34 es i).f3.length c) (rd_T34 es i).f3 ∧ (∀ k, oki k → ok k ∧ k ≠ gp) ∧ Kd.H k34 34 W base ok (.slice (some ⟨gp, 0, none⟩) n cap) es i oki [.int .i64 (rd_T34 es i).f0, .int .i64 (rd_T34 es i).f1, .string (rd_T34 es i).f2, .slice A (rd_T34 es i).f3.length c] := by
  obtain ⟨oki, ce, hcl, hM, hcc, hfr, hoki, hH⟩ := Kd.S_elem h z34 i h0 h1
  obtain ⟨ve, rfl, hR⟩ := k34_openM hM
  obtain ⟨A, c, rfl⟩ := Kd.R_slice hR
  exact ⟨A, c, oki, ⟨hcc 0 _ rfl, hcc 1 _ rfl, hcc 2 _ rfl, hcc 3 _ rfl⟩, hR, hoki, hH⟩
set_option maxHeartbeats 8000000 in
set_option maxRecDepth 100000 in
theorem spec_l5SpoilLedger.e (w0 w : World) (g : Nat) (c : List Int) (A : Option Addr) (c1 : Nat) (es : List Ent) (h : Int) (n : Nat) (bb : Nat) (P : Nat → Prop) (hP : ∀ k, P k → k ≠ g) (hI : Cur w0 w g c) (hB : Below w0.heap.size w0 w) (hc : c.length ≤ 1048576) (hb0 : w0.heap.size ≤ bb) (hb1 : bb ≤ w.heap.size) (hS : Kd.S k34 34 w bb P (.slice A es.length c1) es) (hg : goodEnts es n) (hn : n ≤ 1000) :
    Calls Try.prog 70 #[.pointer (some ⟨g, 0, none⟩), .agg #[.slice A es.length c1, .int .i64 h]] w fun e w' => ∃ (es' : List Ent) (h' : Int), e = .returned (.agg #[.slice A es'.length c1, .int .i64 h']) ∧ Kd.S k34 34 w' bb P (.slice A es'.length c1) es' ∧ (goodEnts es' n ∧ es'.length = es.length) ∧ DrewL w0 w w' g c P := by
  have HL := hB.size
  have RP := Aside0.mk hS
  have HG := Aside0.mk hg
  have D := Aside0.mk (Drew.refl hI hB)
  clear hI hB hS hg
  go_enter Try.func70, Try.ntmps70
  have BF := Aside0.mk (blk_alloc (blk_new w (Obj.cells #[.slice A es.length c1, .int .i64 (h)] 29)) (Obj.cells #[.slice none 0 0, .int .i64 0] 29))
  have BR := Aside0.mk (show ((w.alloc (Obj.cells #[.slice A es.length c1, .int .i64 (h)] 29)).alloc (Obj.cells #[.slice none 0 0, .int .i64 0] 29)).heap[w.heap.size + 1]? = some (Obj.cells #[.slice none 0 0, .int .i64 0] 29) from by have := blk_new (w.alloc (Obj.cells #[.slice A es.length c1, .int .i64 (h)] 29)) (Obj.cells #[.slice none 0 0, .int .i64 0] 29); simpa using this)
  have NF : w.heap.size ≠ g := Nat.ne_of_gt D.out.cur.lt
  have NR : w.heap.size + 1 ≠ g := by have := D.out.cur.lt; omega
  have ne_BF_BR : w.heap.size ≠ w.heap.size + 1 := by omega
  have ge_BF : w.heap.size ≤ w.heap.size := Nat.le_refl _
  have ge_BR : w.heap.size ≤ w.heap.size + 1 := Nat.le_succ _
  replace D := Aside0.mk ((D.out.alloc (Obj.cells #[.slice A es.length c1, .int .i64 (h)] 29)).alloc (Obj.cells #[.slice none 0 0, .int .i64 0] 29))
  have zz : w.heap.size + 1 < ((w.alloc (Obj.cells #[.slice A es.length c1, .int .i64 (h)] 29)).alloc (Obj.cells #[.slice none 0 0, .int .i64 0] 29)).heap.size := by simp
  replace RP := Aside0.mk (Kd.S_alloc (Kd.S_alloc RP.out (Obj.cells #[.slice A es.length c1, .int .i64 (h)] 29)) (Obj.cells #[.slice none 0 0, .int .i64 0] 29))
  have SZ := Aside0.mk (show ((w.alloc (Obj.cells #[.slice A es.length c1, .int .i64 (h)] 29)).alloc (Obj.cells #[.slice none 0 0, .int .i64 0] 29)).heap.size = w.heap.size + 1 + 1 by simp)
  go_wp2_with fail
  generalize (w.alloc (Obj.cells #[.slice A es.length c1, .int .i64 (h)] 29)).alloc (Obj.cells #[.slice none 0 0, .int .i64 0] 29) = w1 at *
  go_wp2_with fail
  refine (spec_l1Once.e 20 D.out.cur D.out.bel hc (by omega)).mono ?_
  rintro x w2 ⟨bb1, rfl, hD⟩
  replace BF := Aside0.mk (hD.blk BF.out NF)
  replace BR := Aside0.mk (hD.blk BR.out NR)
  replace RP := Aside0.mk (hD.S RP.out (fun _ hk => hP _ hk))
  replace D := Aside0.mk (D.out.call hD)
  clear hD
  go_upto_if 7 with fail
  go_cut [] (fun W => ∃ h : Int, Aside0 (W.heap[w.heap.size]? = some (.cells #[.slice A es.length c1, .int .i64 (h)] 29 (0, 0))) ∧ Aside0 (W.heap[w.heap.size + 1]? = some (.cells #[.slice none 0 0, .int .i64 0] 29 (0, 0))) ∧ Aside0 (Kd.S k34 34 W bb P (.slice A es.length c1) es) ∧ Aside0 (Drew w0 w W g c))
  case first =>
    cases bb1
    · go_wp2_with fail
      go_meet
      exact ⟨h, BF, BR, RP, D⟩
    · try go_wp2_with fail
      replace RP := Aside0.mk (Kd.S_drew RP.out)
      replace BF := Aside0.mk (blk_drew BF.out)
      replace BR := Aside0.mk (blk_drew BR.out)
      replace D := Aside0.mk D.out.drew
      refine start_ (n := 11) (S := fun w' => w'.cell? ⟨w.heap.size, 1, none⟩ = some (.int .i64 h)) (ds := [10]) #[false, false, false, false, false, false, false, false, false, false, false] (by kernel_rfl) rfl rfl ((blk_cell BF.out 1).trans rfl) (fun hHeld => ?_)
      refine with_tabW spec_l5SpoilLedger.tab2 spec_l5SpoilLedger.bits2 (fun HT_ HW_ => ?_)
      generalize w2.drew = w3 at *
      refine pure_ (i := 0) (N := some 8) (v := ?_) (a' := ?_) #[true, false, false, false, false, false, false, false, false, false, false] rfl rfl (any_of HT_.out (by kernel_rfl)) (fun _ _ _ h => h) (Or.inl ⟨by rfl, ?_⟩) ?_ ?_
      rotate_left
      · intro w'
        go_simp
        with_reducible rfl
      rotate_left
      · simp only [Act.put, List.setIfInBounds_toArray, List.set_cons_zero, List.set_cons_succ, i64_w, i32_w]
        rfl
      refine pure_ (i := 2) (N := some 10) (v := ?_) (a' := ?_) #[true, false, true, false, false, false, false, false, false, false, false] rfl rfl (any_of HT_.out (by kernel_rfl)) (fun _ _ _ h => h) (Or.inl ⟨by rfl, ?_⟩) ?_ ?_
      rotate_left
      · intro w'
        go_simp
        with_reducible rfl
      rotate_left
      · simp only [Act.put, List.setIfInBounds_toArray, List.set_cons_zero, List.set_cons_succ, i64_w, i32_w]
        rfl
      refine pure_ (i := 3) (N := some 11) (v := ?_) (a' := ?_) #[true, false, true, true, false, false, false, false, false, false, false] rfl rfl (any_of HT_.out (by kernel_rfl)) (fun _ _ _ h => h) (Or.inl ⟨by rfl, ?_⟩) ?_ ?_
      rotate_left
      · intro w'
        go_simp
        with_reducible rfl
      rotate_left
      · simp only [Act.put, List.setIfInBounds_toArray, List.set_cons_zero, List.set_cons_succ, i64_w, i32_w]
        rfl
      refine take_ (i := 1) (N := some 9) (v := ?_) (a' := ?_) #[true, true, true, true, false, false, false, false, false, false, false] rfl rfl (take_ofW HT_.out HW_.out (by kernel_rfl)) (fun _ _ _ h => h) (Or.inl ⟨by rfl, ?_⟩) hHeld ?_ ?_
      rotate_left
      · rintro w' s0
        go_simp
        with_reducible rfl
      rotate_left
      · simp only [Act.put, List.setIfInBounds_toArray, List.set_cons_zero, List.set_cons_succ, i64_w, i32_w]
        rfl
      refine take_ (i := 4) (N := some 12) (v := ?_) (a' := ?_) #[true, true, true, true, true, false, false, false, false, false, false] rfl rfl (take_ofW HT_.out HW_.out (by kernel_rfl)) (fun _ _ _ h => h) (Or.inl ⟨by rfl, ?_⟩) hHeld ?_ ?_
      rotate_left
      · rintro w' s0
        go_simp
        with_reducible rfl
      rotate_left
      · simp only [Act.put, List.setIfInBounds_toArray, List.set_cons_zero, List.set_cons_succ, i64_w, i32_w]
        rfl
      refine pure_ (i := 5) (N := some 13) (v := ?_) (a' := ?_) #[true, true, true, true, true, true, false, false, false, false, false] rfl rfl (any_of HT_.out (by kernel_rfl)) (fun _ _ _ h => h) (Or.inl ⟨by rfl, ?_⟩) ?_ ?_
      rotate_left
      · intro w'
        go_simp
        with_reducible rfl
      rotate_left
      · simp only [Act.put, List.setIfInBounds_toArray, List.set_cons_zero, List.set_cons_succ, i64_w, i32_w]
        rfl
      refine one_ (i := 6) (N := some 14) #[true, true, true, true, true, true, true, false, false, false, false] rfl rfl (one_of HT_.out (by kernel_rfl)) (by decide) (fun K hK => ?_)
      refine value_ (w1 := ?_) (v := ?_) (by rfl) rfl ?_ ?_
      rotate_left 2
      · go_simp
        constructor
        · rfl
        · rfl
      refine hK.out _ _ ((blk_cell (blk_alloc BF.out _) 1).trans rfl) (fun hHeld => ?_)
      clear hK K
      refine norm_ (a' := ?_) ?_ ?_
      rotate_left
      · show Act.put _ (some 14) _ = _
        simp only [Act.put, List.setIfInBounds_toArray, List.set_cons_zero, List.set_cons_succ, i64_w, i32_w]
        rfl
      refine one_ (i := 7) (N := some 15) #[true, true, true, true, true, true, true, true, false, false, false] rfl rfl (one_of HT_.out (by kernel_rfl)) (by decide) (fun K hK => ?_)
      refine goes_ Try.func129 (by kernel_rfl) rfl #[.pointer (some ⟨g, 0, none⟩), .slice (some ⟨w3.heap.size, 0, none⟩) 2 2] (by rfl) rfl rfl (by (try simp only [List.map_toArray, List.map_cons, List.map_nil]); first | done | rfl) ?_
      refine (spec_l1PickInt.e (some ⟨w3.heap.size, 0, none⟩) 2 [1, wrap64 (-h)] (D.out.alloc _).cur (D.out.alloc _).bel hc (ints_lit _ [1, wrap64 (-h)] _ rfl (by simp)) (Nat.le_refl _) (fun ad ha _ => by injection ha with ha; rw [← ha]; exact Nat.ne_of_gt D.out.cur.lt) (by simp) (by simp)).mono ?_
      rintro x w4 ⟨z, rfl, _, hD⟩
      refine ⟨_, rfl, ?_⟩
      replace BF := Aside0.mk (hD.blk (blk_alloc BF.out _) NF)
      replace BR := Aside0.mk (hD.blk (blk_alloc BR.out _) NR)
      replace RP := Aside0.mk (hD.S (Kd.S_alloc RP.out _) (fun _ hk => hP _ hk))
      replace D := Aside0.mk ((D.out.alloc _).call hD)
      clear hD
      refine hK.out _ _ ((blk_cell BF.out 1).trans rfl) (fun hHeld => ?_)
      clear hK K
      refine norm_ (a' := ?_) ?_ ?_
      rotate_left
      · show Act.put _ (some 15) _ = _
        simp only [Act.put, List.setIfInBounds_toArray, List.set_cons_zero, List.set_cons_succ, i64_w, i32_w]
        rfl
      refine pure_ (i := 8) (N := some 16) (v := ?_) (a' := ?_) #[true, true, true, true, true, true, true, true, true, false, false] rfl rfl (any_of HT_.out (by kernel_rfl)) (fun _ _ _ h => h) (Or.inl ⟨by rfl, ?_⟩) ?_ ?_
      rotate_left
      · intro w'
        go_simp
        with_reducible rfl
      rotate_left
      · simp only [Act.put, List.setIfInBounds_toArray, List.set_cons_zero, List.set_cons_succ, i64_w, i32_w]
        rfl
      refine pure_ (i := 9) (N := some 17) (v := ?_) (a' := ?_) #[true, true, true, true, true, true, true, true, true, true, false] rfl rfl (any_of HT_.out (by kernel_rfl)) (fun _ _ _ h => h) (Or.inl ⟨by rfl, ?_⟩) ?_ ?_
      rotate_left
      · intro w'
        go_simp
        with_reducible rfl
      rotate_left
      · simp only [Act.put, List.setIfInBounds_toArray, List.set_cons_zero, List.set_cons_succ, i64_w, i32_w]
        rfl
      have y1 := (blk_cell BF.out 1).trans rfl
      have yz1 := blk_frozen BF.out 1
      refine last_ (i := 10) (N := none) #[true, true, true, true, true, true, true, true, true, true, true] rfl rfl (one_of HT_.out (by kernel_rfl)) (by decide) (fun K hK => ?_)
      refine skip_ (w1 := ?_) (by rfl) rfl ?_ ?_
      rotate_left
      · go_simp
        rfl
      refine hK.out _ _ ?_
      clear hK K
      refine done_ (done_of HT_.out (by kernel_rfl)) ?_
      go_wp2_with fail
      clear y1 yz1
      go_meet
      exact ⟨_, ⟨blk_set BF.out 1 _⟩, ⟨blk_far BR.out (p := ⟨w.heap.size, 1, none⟩) (Ne.symm ne_BF_BR) _⟩, ⟨Kd.S_set RP.out BF.out (by decide) 1 _⟩, ⟨D.out.set (p := ⟨w.heap.size, 1, none⟩) HL ge_BF NF _⟩⟩
  case rest =>
    clear BF BR RP D
    obtain ⟨h, BF, BR, RP, D⟩ := hcut
    have y0 := (blk_cell BF.out 0).trans rfl
    have yz0 := blk_frozen BF.out 0
    go_wp2_with fail
    refine (spec_l1Once.e 20 D.out.cur D.out.bel hc (by omega)).mono ?_
    rintro x w5 ⟨bb2, rfl, hD⟩
    replace BF := Aside0.mk (hD.blk BF.out NF)
    replace BR := Aside0.mk (hD.blk BR.out NR)
    replace RP := Aside0.mk (hD.S RP.out (fun _ hk => hP _ hk))
    replace D := Aside0.mk (D.out.call hD)
    clear hD
    cases bb2
    · clear y0 yz0
      go_upto_region 8 with fail
      have E := Aside0.mk (D.out.toL P)
      have y0 := (blk_cell BF.out 0).trans rfl
      have yz0 := blk_frozen BF.out 0
      have y1 := (blk_cell BF.out 1).trans rfl
      have yz1 := blk_frozen BF.out 1
      have z0 := (blk_cell BR.out 0).trans rfl
      have zz0 := blk_frozen BR.out 0
      have z1 := (blk_cell BR.out 1).trans rfl
      have zz1 := blk_frozen BR.out 1
      go_wp2_with fail
      have BR2 := Aside0.mk (blk2 BR.out (.slice A es.length c1) (.int .i64 (h)))
      refine bodyPost_ret (results_c1 rfl _ _ (w.heap.size + 1) 29 #[.slice A es.length c1, .int .i64 (h)] (0, 0) _ rfl BR2.out Try.underlying29 rfl (by kernel_rfl)) rfl ?_
      exact ⟨_, _, rfl, Kd.S_set (Kd.S_set RP.out BR.out (by decide) 0 _) (blk_set BR.out 0 _) (by decide) 1 _, ⟨HG.out, rfl⟩, (E.out.set (p := ⟨w.heap.size + 1, 0, none⟩) (by show w0.heap.size ≤ w.heap.size + 1; omega) (.inr (Nat.le_succ _)) NR _).set (p := ⟨w.heap.size + 1, 1, none⟩) (by show w0.heap.size ≤ w.heap.size + 1; omega) (.inr (Nat.le_succ _)) NR _⟩
    · skip
      clear y0 yz0
      have y0 := (blk_cell BF.out 0).trans rfl
      have yz0 := blk_frozen BF.out 0
      by_cases he : 0 < es.length
      case neg =>
        have he' : ¬ ((es.length : Int) > 0) := by omega
        go_upto_region 8 with fail
        clear y0 yz0
        have E := Aside0.mk (D.out.toL P)
        have y0 := (blk_cell BF.out 0).trans rfl
        have yz0 := blk_frozen BF.out 0
        have y1 := (blk_cell BF.out 1).trans rfl
        have yz1 := blk_frozen BF.out 1
        have z0 := (blk_cell BR.out 0).trans rfl
        have zz0 := blk_frozen BR.out 0
        have z1 := (blk_cell BR.out 1).trans rfl
        have zz1 := blk_frozen BR.out 1
        go_wp2_with fail
        have BR2 := Aside0.mk (blk2 BR.out (.slice A es.length c1) (.int .i64 (h)))
        refine bodyPost_ret (results_c1 rfl _ _ (w.heap.size + 1) 29 #[.slice A es.length c1, .int .i64 (h)] (0, 0) _ rfl BR2.out Try.underlying29 rfl (by kernel_rfl)) rfl ?_
        exact ⟨_, _, rfl, Kd.S_set (Kd.S_set RP.out BR.out (by decide) 0 _) (blk_set BR.out 0 _) (by decide) 1 _, ⟨HG.out, rfl⟩, (E.out.set (p := ⟨w.heap.size + 1, 0, none⟩) (by show w0.heap.size ≤ w.heap.size + 1; omega) (.inr (Nat.le_succ _)) NR _).set (p := ⟨w.heap.size + 1, 1, none⟩) (by show w0.heap.size ≤ w.heap.size + 1; omega) (.inr (Nat.le_succ _)) NR _⟩
      have he' : ((es.length : Int) > 0) := by omega
      have hel : es.length ≤ 1000 := by have := HG.out.1; omega
      go_wp2_with fail
      refine (spec_l1Below.e (es.length : Int) D.out.cur D.out.bel hc (by omega)).mono ?_
      rintro x w6 ⟨k, rfl, ⟨k0, k1, _⟩, hD⟩
      have k2 := k1 (by omega)
      replace BF := Aside0.mk (hD.blk BF.out NF)
      replace BR := Aside0.mk (hD.blk BR.out NR)
      replace RP := Aside0.mk (hD.S RP.out (fun _ hk => hP _ hk))
      replace D := Aside0.mk (D.out.call hD)
      clear hD k1
      clear y0 yz0
      have kp := eq_true k0
      have kq := eq_true k2
      obtain ⟨gq, cap, eo, gb, gl, cells, HGp⟩ := Kd.R_form (Kd.S_R RP.out) he
      have ea : A = some ⟨gq, 0, none⟩ := by injection eo
      have ec : c1 = cap := by injection eo
      clear eo
      subst ea ec
      have hPg : P gq := (Kd.S_R RP.out).1 gq rfl
      have ngg : gq ≠ g := hP _ hPg
      have ngF : gq ≠ w.heap.size := blk_ne HGp BF.out (by decide)
      have ngR : gq ≠ w.heap.size + 1 := blk_ne HGp BR.out (by decide)
      clear HGp gl
      go_upto_region 5 with fail
      try go_wp2_with fail
      obtain ⟨AE, cE, oki, hx, hRE, hoki, hHE⟩ := ent_elem (W := w6.drew) (Kd.S_drew RP.out) k k0 k2
      obtain ⟨x0, x1, x2, x3⟩ := hx
      have RE := Aside0.mk hRE
      have HE := Aside0.mk hHE
      have hge := HG.out.2 (rd_T34 es k) (by unfold rd_T34; rw [List.getD_eq_getElem?_getD, List.getElem?_eq_getElem (by omega)]; simp)
      generalize hee : rd_T34 es k = ee at x0 x1 x2 x3 RE HE hge
      obtain ⟨ea0, eb0, et0, el0⟩ := ee
      clear hRE hHE hee
      simp only [] at x0 x1 x2 x3 RE HE hge
      obtain ⟨hge1, hge2⟩ := hge
      replace RP := Aside0.mk (Kd.S_drew RP.out)
      replace BF := Aside0.mk (blk_drew BF.out)
      replace BR := Aside0.mk (blk_drew BR.out)
      replace D := Aside0.mk D.out.drew
      refine start_ (n := 12) (S := fun w' => w'.cell? ⟨w.heap.size, 0, none⟩ = some (.slice (some ⟨gq, 0, none⟩) es.length c1) ∧ w'.cell? ⟨gq, k.toNat * 4, none⟩ = some (.int .i64 ea0) ∧ w'.cell? ⟨gq, k.toNat * 4 + 1, none⟩ = some (.int .i64 eb0) ∧ w'.cell? ⟨gq, k.toNat * 4 + 2, none⟩ = some (.string et0) ∧ w'.cell? ⟨gq, k.toNat * 4 + 3, none⟩ = some (.slice AE el0.length cE)) (ds := [11]) #[false, false, false, false, false, false, false, false, false, false, false, false] (by kernel_rfl) rfl rfl ⟨(blk_cell BF.out 0).trans rfl, x0, x1, x2, x3⟩ (fun hHeld => ?_)
      refine with_tabW spec_l5SpoilLedger.tab5 spec_l5SpoilLedger.bits5 (fun HT_ HW_ => ?_)
      generalize w6.drew = w7 at *
      refine pure_ (i := 0) (N := some 31) (v := ?_) (a' := ?_) #[true, false, false, false, false, false, false, false, false, false, false, false] rfl rfl (any_of HT_.out (by kernel_rfl)) (fun _ _ _ h => h) (Or.inl ⟨by rfl, ?_⟩) ?_ ?_
      rotate_left
      · intro w'
        go_simp
        with_reducible rfl
      rotate_left
      · simp only [Act.put, List.setIfInBounds_toArray, List.set_cons_zero, List.set_cons_succ, i64_w, i32_w]
        rfl
      refine pure_ (i := 2) (N := some 33) (v := ?_) (a' := ?_) #[true, false, true, false, false, false, false, false, false, false, false, false] rfl rfl (any_of HT_.out (by kernel_rfl)) (fun _ _ _ h => h) (Or.inl ⟨by rfl, ?_⟩) ?_ ?_
      rotate_left
      · intro w'
        go_simp
        with_reducible rfl
      rotate_left
      · simp only [Act.put, List.setIfInBounds_toArray, List.set_cons_zero, List.set_cons_succ, i64_w, i32_w]
        rfl
      refine pure_ (i := 3) (N := some 34) (v := ?_) (a' := ?_) #[true, false, true, true, false, false, false, false, false, false, false, false] rfl rfl (any_of HT_.out (by kernel_rfl)) (fun _ _ _ h => h) (Or.inl ⟨by rfl, ?_⟩) ?_ ?_
      rotate_left
      · intro w'
        go_simp
        with_reducible rfl
      rotate_left
      · simp only [Act.put, List.setIfInBounds_toArray, List.set_cons_zero, List.set_cons_succ, i64_w, i32_w]
        rfl
      refine pure_ (i := 4) (N := some 35) (v := ?_) (a' := ?_) #[true, false, true, true, true, false, false, false, false, false, false, false] rfl rfl (any_of HT_.out (by kernel_rfl)) (fun _ _ _ h => h) (Or.inl ⟨by rfl, ?_⟩) ?_ ?_
      rotate_left
      · intro w'
        go_simp
        with_reducible rfl
      rotate_left
      · simp only [Act.put, List.setIfInBounds_toArray, List.set_cons_zero, List.set_cons_succ, i64_w, i32_w]
        rfl
      refine pure_ (i := 6) (N := some 37) (v := ?_) (a' := ?_) #[true, false, true, true, true, false, true, false, false, false, false, false] rfl rfl (any_of HT_.out (by kernel_rfl)) (fun _ _ _ h => h) (Or.inl ⟨by rfl, ?_⟩) ?_ ?_
      rotate_left
      · intro w'
        go_simp
        with_reducible rfl
      rotate_left
      · simp only [Act.put, List.setIfInBounds_toArray, List.set_cons_zero, List.set_cons_succ, i64_w, i32_w]
        rfl
      refine take_ (i := 1) (N := some 32) (v := ?_) (a' := ?_) #[true, true, true, true, true, false, true, false, false, false, false, false] rfl rfl (take_ofW HT_.out HW_.out (by kernel_rfl)) (fun _ _ _ h => h) (Or.inl ⟨by rfl, ?_⟩) hHeld ?_ ?_
      rotate_left
      · rintro w' ⟨s0, s1, s2, s3, s4⟩
        go_simp
        with_reducible rfl
      rotate_left
      · simp only [Act.put, List.setIfInBounds_toArray, List.set_cons_zero, List.set_cons_succ, i64_w, i32_w]
        rfl
      refine take_ (i := 5) (N := some 36) (v := ?_) (a' := ?_) #[true, true, true, true, true, true, true, false, false, false, false, false] rfl rfl (take_ofW HT_.out HW_.out (by kernel_rfl)) (fun _ _ _ h => h) (Or.inl ⟨by rfl, ?_⟩) hHeld ?_ ?_
      rotate_left
      · rintro w' ⟨s0, s1, s2, s3, s4⟩
        go_simp
        with_reducible rfl
      rotate_left
      · simp only [Act.put, List.setIfInBounds_toArray, List.set_cons_zero, List.set_cons_succ, i64_w, i32_w]
        rfl
      refine pure_ (i := 7) (N := some 38) (v := ?_) (a' := ?_) #[true, true, true, true, true, true, true, true, false, false, false, false] rfl rfl (any_of HT_.out (by kernel_rfl)) (fun _ _ _ h => h) (Or.inl ⟨by rfl, ?_⟩) ?_ ?_
      rotate_left
      · intro w'
        go_simp
        with_reducible rfl
      rotate_left
      · simp only [Act.put, List.setIfInBounds_toArray, List.set_cons_zero, List.set_cons_succ, i64_w, i32_w]
        rfl
      refine take_ (i := 8) (N := some 39) (v := ?_) (a' := ?_) #[true, true, true, true, true, true, true, true, true, false, false, false] rfl rfl (take_ofW HT_.out HW_.out (by kernel_rfl)) (fun _ _ _ h => h) (Or.inl ⟨by rfl, ?_⟩) hHeld ?_ ?_
      rotate_left
      · rintro w' ⟨s0, s1, s2, s3, s4⟩
        go_simp
        with_reducible rfl
      rotate_left
      · simp only [Act.put, List.setIfInBounds_toArray, List.set_cons_zero, List.set_cons_succ, i64_w, i32_w]
        rfl
      refine one_ (i := 9) (N := some 40) #[true, true, true, true, true, true, true, true, true, true, false, false] rfl rfl (one_of HT_.out (by kernel_rfl)) (by decide) (fun K hK => ?_)
      refine goes_ Try.func88 (by kernel_rfl) rfl #[.pointer (some ⟨g, 0, none⟩), .agg #[.int .i64 ea0, .int .i64 eb0, .string et0, .slice AE el0.length cE]] (by rfl) rfl rfl (by (try simp only [List.map_toArray, List.map_cons, List.map_nil]); first | done | rfl) ?_
      refine (spec_l5SpoilEntry.e w0 _ g c ea0 eb0 et0 AE cE el0 bb oki (fun k hk => hP k (hoki k hk).1) D.out.cur D.out.bel hc hb0 (Nat.le_trans hb1 D.out.size) RE.out (by omega) hge1).mono ?_
      rintro x w8 ⟨A6, c6, a', b', t', rs, rfl, hRs, ⟨hrl, htl⟩, hE⟩
      refine ⟨_, rfl, ?_⟩
      replace HE := Aside0.mk (Kd.H_step HE.out (fun k hk hn hlt => hE.keep.2 k hlt (hP k hk) (fun e => hn (RE.out.1 k e.symm))))
      replace BF := Aside0.mk (KeepBut.blkRow hE.keep BF.out NF (Kd.R_ne RE.out BF.out (by decide)))
      replace BR := Aside0.mk (KeepBut.blkRow hE.keep BR.out NR (Kd.R_ne RE.out BR.out (by decide)))
      have E := Aside0.mk ((D.out.toL P).callR hE (fun b hb => .inl (hoki b (RE.out.1 b hb)).1))
      have hat := Kd.H_at HE.out k0 k2
      replace x0 : w8.cell? ⟨gq, k.toNat * 4, none⟩ = some (.int .i64 ea0) := hat.1 0 _ rfl
      replace x1 : w8.cell? ⟨gq, k.toNat * 4 + 1, none⟩ = some (.int .i64 eb0) := hat.1 1 _ rfl
      replace x2 : w8.cell? ⟨gq, k.toNat * 4 + 2, none⟩ = some (.string et0) := hat.1 2 _ rfl
      replace x3 : w8.cell? ⟨gq, k.toNat * 4 + 3, none⟩ = some (.slice AE el0.length cE) := hat.1 3 _ rfl
      have f0 : w8.frozen? ⟨gq, k.toNat * 4, none⟩ = false := hat.2 0
      have f1 : w8.frozen? ⟨gq, k.toNat * 4 + 1, none⟩ = false := hat.2 1
      have f2 : w8.frozen? ⟨gq, k.toNat * 4 + 2, none⟩ = false := hat.2 2
      have f3 : w8.frozen? ⟨gq, k.toNat * 4 + 3, none⟩ = false := hat.2 3
      have RS := Aside0.mk hRs
      clear hat hE hRs RE D RP
      refine hK.out _ _ ⟨(blk_cell BF.out 0).trans rfl, x0, x1, x2, x3⟩ (fun hHeld => ?_)
      clear hK K
      refine norm_ (a' := ?_) ?_ ?_
      rotate_left
      · show Act.put _ (some 40) _ = _
        simp only [Act.put, List.setIfInBounds_toArray, List.set_cons_zero, List.set_cons_succ, i64_w, i32_w]
        rfl
      refine pure_ (i := 10) (N := some 41) (v := ?_) (a' := ?_) #[true, true, true, true, true, true, true, true, true, true, true, false] rfl rfl (any_of HT_.out (by kernel_rfl)) (fun _ _ _ h => h) (Or.inl ⟨by rfl, ?_⟩) ?_ ?_
      rotate_left
      · intro w'
        go_simp
        with_reducible rfl
      rotate_left
      · simp only [Act.put, List.setIfInBounds_toArray, List.set_cons_zero, List.set_cons_succ, i64_w, i32_w]
        rfl
      refine last_ (i := 11) (N := none) #[true, true, true, true, true, true, true, true, true, true, true, true] rfl rfl (one_of HT_.out (by kernel_rfl)) (by decide) (fun K hK => ?_)
      refine skip_ (w1 := ?_) (by rfl) rfl ?_ ?_
      rotate_left
      · go_simp
        rfl
      refine hK.out _ _ ?_
      clear hK K
      refine done_ (done_of HT_.out (by kernel_rfl)) ?_
      go_upto_region 6 with fail
      clear x0 x1 x2 x3 f0 f1 f2 f3
      have HP := (Kd.S_seg0 HE.out k0 k2 (seg := [.int .i64 a', .int .i64 b', .string t', .slice A6 rs.length c6]) (j := 0) (show 0 + 4 ≤ 4 from by decide) (x' := (⟨a', b', t', rs⟩ : S34)) (k34_mkM _ _ _ (⟨a', b', t', rs⟩ : S34) RS.out) (fun _ h => h)).1
      have HGN := Aside0.mk (goodEnts_set (i := k.toNat) (e := ⟨a', b', t', rs⟩) HG.out ⟨htl, by show rs.length ≤ 9; omega⟩)
      have hq : (es.set k.toNat (⟨a', b', t', rs⟩ : S34)).length = es.length := List.length_set
      generalize es.set k.toNat (⟨a', b', t', rs⟩ : S34) = es1 at HP HGN hq
      have RQ := Aside0.mk (show Kd.S k34 34 ((((w8.setCell ⟨gq, k.toNat * 4, none⟩ (.int .i64 a')).setCell ⟨gq, k.toNat * 4 + 1, none⟩ (.int .i64 b')).setCell ⟨gq, k.toNat * 4 + 2, none⟩ (.string t')).setCell ⟨gq, k.toNat * 4 + 3, none⟩ (.slice A6 rs.length c6)) bb P (.slice (some ⟨gq, 0, none⟩) es1.length c1) es1 from by rw [hq]; exact HP)
      replace BF := Aside0.mk (show ((((w8.setCell ⟨gq, k.toNat * 4, none⟩ (.int .i64 a')).setCell ⟨gq, k.toNat * 4 + 1, none⟩ (.int .i64 b')).setCell ⟨gq, k.toNat * 4 + 2, none⟩ (.string t')).setCell ⟨gq, k.toNat * 4 + 3, none⟩ (.slice A6 rs.length c6)).heap[w.heap.size]? = some (.cells #[.slice (some ⟨gq, 0, none⟩) es1.length c1, .int .i64 h] 29 (0, 0)) from by rw [hq]; exact blk_far (p := ⟨gq, _, none⟩) (blk_far (p := ⟨gq, _, none⟩) (blk_far (p := ⟨gq, _, none⟩) (blk_far (p := ⟨gq, _, none⟩) BF.out (Ne.symm ngF) _) (Ne.symm ngF) _) (Ne.symm ngF) _) (Ne.symm ngF) _)
      replace BR := Aside0.mk (show ((((w8.setCell ⟨gq, k.toNat * 4, none⟩ (.int .i64 a')).setCell ⟨gq, k.toNat * 4 + 1, none⟩ (.int .i64 b')).setCell ⟨gq, k.toNat * 4 + 2, none⟩ (.string t')).setCell ⟨gq, k.toNat * 4 + 3, none⟩ (.slice A6 rs.length c6)).heap[w.heap.size + 1]? = some (.cells #[.slice none 0 0, .int .i64 0] 29 (0, 0)) from blk_far (p := ⟨gq, _, none⟩) (blk_far (p := ⟨gq, _, none⟩) (blk_far (p := ⟨gq, _, none⟩) (blk_far (p := ⟨gq, _, none⟩) BR.out (Ne.symm ngR) _) (Ne.symm ngR) _) (Ne.symm ngR) _) (Ne.symm ngR) _)
      replace E := Aside0.mk ((((E.out.set (p := ⟨gq, k.toNat * 4, none⟩) (Nat.le_trans hb0 gb) (.inl hPg) ngg (.int .i64 a')).set (p := ⟨gq, k.toNat * 4 + 1, none⟩) (Nat.le_trans hb0 gb) (.inl hPg) ngg (.int .i64 b')).set (p := ⟨gq, k.toNat * 4 + 2, none⟩) (Nat.le_trans hb0 gb) (.inl hPg) ngg (.string t')).set (p := ⟨gq, k.toNat * 4 + 3, none⟩) (Nat.le_trans hb0 gb) (.inl hPg) ngg (.slice A6 rs.length c6))
      clear HP HE RS kp kq hge1 hge2 hrl htl hoki
      generalize ((((w8.setCell ⟨gq, k.toNat * 4, none⟩ (.int .i64 a')).setCell ⟨gq, k.toNat * 4 + 1, none⟩ (.int .i64 b')).setCell ⟨gq, k.toNat * 4 + 2, none⟩ (.string t')).setCell ⟨gq, k.toNat * 4 + 3, none⟩ (.slice A6 rs.length c6)) = w9 at *
      have HQ := Aside0.mk hq
      clear hq
      go_wp2_with fail
      refine (spec_l1Once.e 2 E.out.cur E.out.bel hc (by omega)).mono ?_
      rintro x w10 ⟨b3, rfl, hD⟩
      replace BF := Aside0.mk (hD.blk BF.out NF)
      replace BR := Aside0.mk (hD.blk BR.out NR)
      replace RQ := Aside0.mk (hD.S RQ.out (fun _ hk => hP _ hk))
      replace E := Aside0.mk (E.out.call hD)
      clear hD
      cases b3
      · go_upto_region 8 with fail
        have y0 := (blk_cell BF.out 0).trans rfl
        have yz0 := blk_frozen BF.out 0
        have y1 := (blk_cell BF.out 1).trans rfl
        have yz1 := blk_frozen BF.out 1
        have z0 := (blk_cell BR.out 0).trans rfl
        have zz0 := blk_frozen BR.out 0
        have z1 := (blk_cell BR.out 1).trans rfl
        have zz1 := blk_frozen BR.out 1
        go_wp2_with fail
        have BR2 := Aside0.mk (blk2 BR.out (.slice (some ⟨gq, 0, none⟩) es1.length c1) (.int .i64 (h)))
        refine bodyPost_ret (results_c1 rfl _ _ (w.heap.size + 1) 29 #[.slice (some ⟨gq, 0, none⟩) es1.length c1, .int .i64 (h)] (0, 0) _ rfl BR2.out Try.underlying29 rfl (by kernel_rfl)) rfl ?_
        exact ⟨_, _, rfl, Kd.S_set (Kd.S_set RQ.out BR.out (by decide) 0 _) (blk_set BR.out 0 _) (by decide) 1 _, ⟨HGN.out, HQ.out⟩, (E.out.set (p := ⟨w.heap.size + 1, 0, none⟩) (by show w0.heap.size ≤ w.heap.size + 1; omega) (.inr (Nat.le_succ _)) NR _).set (p := ⟨w.heap.size + 1, 1, none⟩) (by show w0.heap.size ≤ w.heap.size + 1; omega) (.inr (Nat.le_succ _)) NR _⟩
      · skip
        have y0 := (blk_cell BF.out 0).trans rfl
        have yz0 := blk_frozen BF.out 0
        go_wp2_with fail
        refine (spec_HeadOf.to (some ⟨gq, 0, none⟩) c1 es1 _ (Kd.S_reads' RQ.out).2.2 (Kd.S_reads' RQ.out).2.1).mono ?_
        rintro x w11 ⟨rfl, hb⟩
        clear y0 yz0
        replace BF := Aside0.mk (blk_below BF.out hb)
        replace BR := Aside0.mk (blk_below BR.out hb)
        replace RQ := Aside0.mk (Kd.S_below RQ.out hb)
        replace E := Aside0.mk (E.out.below hb)
        clear hb
        have y1 := (blk_cell BF.out 1).trans rfl
        have yz1 := blk_frozen BF.out 1
        go_upto_region 8 with fail
        clear y1 yz1
        replace RQ := Aside0.mk (Kd.S_set RQ.out BF.out (by decide) 1 (.int .i64 (headV es1)))
        replace BR := Aside0.mk (blk_far BR.out (p := ⟨w.heap.size, 1, none⟩) (Ne.symm ne_BF_BR) (.int .i64 (headV es1)))
        replace BF := Aside0.mk (show (w11.setCell ⟨w.heap.size, 1, none⟩ (.int .i64 (headV es1))).heap[w.heap.size]? = some (.cells #[.slice (some ⟨gq, 0, none⟩) es1.length c1, .int .i64 (headV es1)] 29 (0, 0)) from blk_set BF.out 1 (.int .i64 (headV es1)))
        replace E := Aside0.mk (E.out.set (p := ⟨w.heap.size, 1, none⟩) HL (.inr (Nat.le_refl _)) NF (.int .i64 (headV es1)))
        generalize w11.setCell ⟨w.heap.size, 1, none⟩ (.int .i64 (headV es1)) = w12 at *
        have y0 := (blk_cell BF.out 0).trans rfl
        have yz0 := blk_frozen BF.out 0
        have y1 := (blk_cell BF.out 1).trans rfl
        have yz1 := blk_frozen BF.out 1
        have z0 := (blk_cell BR.out 0).trans rfl
        have zz0 := blk_frozen BR.out 0
        have z1 := (blk_cell BR.out 1).trans rfl
        have zz1 := blk_frozen BR.out 1
        go_wp2_with fail
        have BR2 := Aside0.mk (blk2 BR.out (.slice (some ⟨gq, 0, none⟩) es1.length c1) (.int .i64 (headV es1)))
        refine bodyPost_ret (results_c1 rfl _ _ (w.heap.size + 1) 29 #[.slice (some ⟨gq, 0, none⟩) es1.length c1, .int .i64 (headV es1)] (0, 0) _ rfl BR2.out Try.underlying29 rfl (by kernel_rfl)) rfl ?_
        exact ⟨_, _, rfl, Kd.S_set (Kd.S_set RQ.out BR.out (by decide) 0 _) (blk_set BR.out 0 _) (by decide) 1 _, ⟨HGN.out, HQ.out⟩, (E.out.set (p := ⟨w.heap.size + 1, 0, none⟩) (by show w0.heap.size ≤ w.heap.size + 1; omega) (.inr (Nat.le_succ _)) NR _).set (p := ⟨w.heap.size + 1, 1, none⟩) (by show w0.heap.size ≤ w.heap.size + 1; omega) (.inr (Nat.le_succ _)) NR _⟩
end Go.Proofs.Ytphmnkcfjgallaa.Q
namespace Go.Proofs.Ytphmnkcfjgallaa.Q
open Go.RowKit Go.Proofs.YtphmnkcfjgallaaW.PrintWords Go.Proofs.YtphmnkcfjgallaaW.PrintLast Go.Proofs.YtphmnkcfjgallaaW.PrintMore
set_option linter.unusedVariables false
set_option linter.unusedSimpArgs false
theorem DrewL.blk {w0 w W : World} {g b : Nat} {c : List Int} {P : Nat → Prop} {o : Obj} (h : DrewL w0 w W g c P) (hb : w.heap[b]? = some o) (hne : b ≠ g) (hp : ¬ P b) : W.heap[b]? = some o := (h.keep b (blk_lt hb) hne hp).trans hb
theorem DrewL.R {α : Type} {d : Kd α} {e base : Nat} {ok : Nat → Prop} {v : Value} {xs : List α} {w0 w W : World} {g : Nat} {c : List Int} {P : Nat → Prop} (h : DrewL w0 w W g c P) (hr : d.R e w base ok v xs) (hok : ∀ k, ok k → k ≠ g ∧ ¬ P k) : d.R e W base ok v xs := Kd.R_step hr (fun k ho hlt => h.keep k hlt (hok k ho).1 (hok k ho).2)
theorem DrewL.own {w0 w W W1 : World} {g : Nat} {c : List Int} {P : Nat → Prop} (h : DrewL w0 W W1 g c P) (k : Drew w0 w W g c) (hr : ∀ b, P b → w.heap.size ≤ b) : Drew w0 w W1 g c := by
  refine ⟨h.cur, h.bel, ⟨Nat.le_trans k.keep.1 h.size, fun i hi hne _ => ?_⟩⟩
  refine (h.keep i (Nat.lt_of_lt_of_le hi k.keep.1) hne (fun e => ?_)).trans (k.keep.2 i hi hne (by simp))
  have := hr i e
  omega
end Go.Proofs.Ytphmnkcfjgallaa.Q
