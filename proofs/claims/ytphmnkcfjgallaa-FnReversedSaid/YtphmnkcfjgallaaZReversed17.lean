/- Parts of the proof: what functions of the program and of the reference answer.
   No condition. -/
import Derived.Test.YtphmnkcfjgallaaZReversed1
import Derived.Test.YtphmnkcfjgallaaZReversed15
import Derived.Test.YtphmnkcfjgallaaZReversed11
import Derived.Test.YtphmnkcfjgallaaZReversed8
import Derived.Test.YtphmnkcfjgallaaZReversed9
import Derived.Test.YtphmnkcfjgallaaZReversed12
import Derived.Test.YtphmnkcfjgallaaZReversed13
import Derived.Test.YtphmnkcfjgallaaZReversed5
import Derived.Test.YtphmnkcfjgallaaZReversed4
import Derived.Test.YtphmnkcfjgallaaZReversed10
import Derived.Test.YtphmnkcfjgallaaZReversed7
import Derived.Test.YtphmnkcfjgallaaZReversed2
import Derived.Test.YtphmnkcfjgallaaZReversed14
import Derived.Test.YtphmnkcfjgallaaZReversed16
namespace Go.Proofs.Ytphmnkcfjgallaa.Q
open Go.RowKit Go.Proofs.YtphmnkcfjgallaaW.PrintWords Go.Proofs.YtphmnkcfjgallaaW.PrintLast Go.Proofs.YtphmnkcfjgallaaW.PrintMore
set_option linter.unusedVariables false
set_option linter.unusedSimpArgs false
def spec_l5DrawLedger.T4 : Bool × List (List Nat × List Nat) := (true, [([], []), ([0], [0]), ([], []), ([], []), ([2, 3], [2, 3]), ([4], [4]), ([1, 5, 4], [1, 5]), ([0, 1, 2, 3, 4, 5, 6], []), ([7, 6, 6, 0, 1, 2, 3, 4, 5, 6], [6, 7])])
def spec_l5DrawLedger.B4 : List Nat := [0, 1, 0, 0, 12, 28, 63, 127, 255]
theorem spec_l5DrawLedger.tab4 : rtab .any (opsOf Try.f71 4) = spec_l5DrawLedger.T4 := by kernel_rfl
theorem spec_l5DrawLedger.bits4 : waitsOk spec_l5DrawLedger.T4.2 spec_l5DrawLedger.B4 = true := by kernel_rfl
theorem blk2 {W : World} {g t : Nat} {z0 z1 : Value} (h : W.heap[g]? = some (.cells #[z0, z1] t (0, 0))) (u0 u1 : Value) : ((W.setCell ⟨g, 0, none⟩ u0).setCell ⟨g, 1, none⟩ u1).heap[g]? = some (.cells #[u0, u1] t (0, 0)) := by
  refine blk_put (cs := #[u0, z1]) ?_ 1 _ rfl
  refine blk_put (cs := #[z0, z1]) ?_ 0 _ rfl
  exact h
theorem Cur.own_neS {w0 W : World} {g : Nat} {c : List Int} {α : Type} {d : Kd α} {e : Nat} {base : Nat} {ok : Nat → Prop} {v : Value} {xs : List α} (h : Cur w0 W g c) (ho : d.S e W base ok v xs) (ht : e ≠ 159) : some g ≠ v.ownBlock := by obtain ⟨i, j, h, k⟩ := h; exact h.own_neS ho ht
def goodEnts (es : List Ent) (n : Nat) : Prop := es.length ≤ n ∧ ∀ e ∈ es, e.f2.size ≤ 50 ∧ e.f3.length ≤ 9
theorem goodEnts_snoc {es : List Ent} {n : Nat} {e : Ent} (h : goodEnts es n) (h2 : e.f2.size ≤ 50 ∧ e.f3.length ≤ 9) : goodEnts (es ++ [e]) (n + 1) := by
  refine ⟨by have := h.1; simp; omega, fun x hx => ?_⟩
  rcases List.mem_append.1 hx with hx | hx
  · exact h.2 x hx
  · obtain rfl := List.mem_singleton.1 hx
    exact h2
set_option maxHeartbeats 4000000 in
set_option maxRecDepth 100000 in
theorem spec_l5DrawLedger.e (w0 w : World) (g : Nat) (c : List Int) (A : Option Addr) (cc : Nat) (l : List Acc) (d u n : Int) (hI : Cur w0 w g c) (hB : Below w0.heap.size w0 w) (hc : c.length ≤ 1048576) (hr1 : ∀ W, KeepBut w W g none → Kd.C k131 W A l.length l) (hs : ∀ x ∈ l, x.f0.size ≤ maxLen) (hl0 : 0 < l.length) (hl1 : l.length ≤ 1000) (hd : d ≤ 100) (hu : u ≤ 100) (hn : n ≤ 1000) :
    Calls Try.prog 71 #[.pointer (some ⟨g, 0, none⟩), .agg #[.slice A l.length cc, .int .i64 d, .int .i64 u], .int .i64 n] w fun e w' => ∃ (v : Value) (es : List Ent) (h : Int), e = .returned (.agg #[v, .int .i64 h]) ∧ Kd.S k34 34 w' w.heap.size (fun _ => True) v es ∧ goodEnts es n.toNat ∧ Drew w0 w w' g c := by
  have HL := hB.size
  have H1 := Aside0.mk hr1
  have HS := Aside0.mk hs
  have D := Aside0.mk (Drew.refl hI hB)
  clear hI hB hr1 hs
  go_enter Try.func71, Try.ntmps71
  have BF := Aside0.mk (blk_alloc (blk_new w (Obj.cells #[.slice A l.length cc, .int .i64 d, .int .i64 u] 26)) (Obj.cells #[.slice none 0 0, .int .i64 0] 29))
  have BR := Aside0.mk (show ((w.alloc (Obj.cells #[.slice A l.length cc, .int .i64 d, .int .i64 u] 26)).alloc (Obj.cells #[.slice none 0 0, .int .i64 0] 29)).heap[w.heap.size + 1]? = some (Obj.cells #[.slice none 0 0, .int .i64 0] 29) from by have := blk_new (w.alloc (Obj.cells #[.slice A l.length cc, .int .i64 d, .int .i64 u] 26)) (Obj.cells #[.slice none 0 0, .int .i64 0] 29); simpa using this)
  have NF : w.heap.size ≠ g := Nat.ne_of_gt D.out.cur.lt
  have NR : w.heap.size + 1 ≠ g := by have := D.out.cur.lt; omega
  have ne_BF_BR : w.heap.size ≠ w.heap.size + 1 := by omega
  have ge_BF : w.heap.size ≤ w.heap.size := Nat.le_refl _
  have ge_BR : w.heap.size ≤ w.heap.size + 1 := Nat.le_succ _
  replace D := Aside0.mk ((D.out.alloc (Obj.cells #[.slice A l.length cc, .int .i64 d, .int .i64 u] 26)).alloc (Obj.cells #[.slice none 0 0, .int .i64 0] 29))
  have zz : w.heap.size + 1 < ((w.alloc (Obj.cells #[.slice A l.length cc, .int .i64 d, .int .i64 u] 26)).alloc (Obj.cells #[.slice none 0 0, .int .i64 0] 29)).heap.size := by simp
  have SZ := Aside0.mk (show ((w.alloc (Obj.cells #[.slice A l.length cc, .int .i64 d, .int .i64 u] 26)).alloc (Obj.cells #[.slice none 0 0, .int .i64 0] 29)).heap.size = w.heap.size + 1 + 1 by simp)
  go_wp2_with fail
  generalize (w.alloc (Obj.cells #[.slice A l.length cc, .int .i64 d, .int .i64 u] 26)).alloc (Obj.cells #[.slice none 0 0, .int .i64 0] 29) = w1 at *
  have hb := below_alloc (Below.refl w1.heap.size w1) (Obj.cells #[.slice none 0 0, .int .i64 1] 29)
  have BL := Aside0.mk (show (w1.alloc (Obj.cells #[.slice none 0 0, .int .i64 1] 29)).heap[w.heap.size + 1 + 1]? = some (Obj.cells #[.slice none 0 0, .int .i64 1] 29) from by have := blk_new w1 (Obj.cells #[.slice none 0 0, .int .i64 1] 29); rw [SZ.out] at this; exact this)
  have NL : w.heap.size + 1 + 1 ≠ g := by have := D.out.cur.lt; have := SZ.out; omega
  have ge_BL : w.heap.size ≤ w.heap.size + 1 + 1 := by omega
  have ne_BF_BL : w.heap.size ≠ w.heap.size + 1 + 1 := by omega
  have ne_BR_BL : w.heap.size + 1 ≠ w.heap.size + 1 + 1 := by omega
  replace BF := Aside0.mk (blk_below BF.out hb)
  replace BR := Aside0.mk (blk_below BR.out hb)
  replace D := Aside0.mk (D.out.below hb)
  clear hb
  generalize w1.alloc (Obj.cells #[.slice none 0 0, .int .i64 1] 29) = w2 at *
  have RO := Aside0.mk (Kd.S_nil k34 34 w2 w.heap.size (fun _ => True))
  go_loopg [2] n.toNat (fun kq v2 W => ∃ (m : Int) (v : Value) (es : List Ent), v2 = .int .i64 m ∧ (kq = m.toNat ∧ m ≤ n) ∧ Aside0 (goodEnts es (n.toNat - m.toNat)) ∧ Aside0 (W.heap[w.heap.size]? = some (.cells #[.slice A l.length cc, .int .i64 d, .int .i64 u] 26 (0, 0))) ∧ Aside0 (W.heap[w.heap.size + 1]? = some (.cells #[.slice none 0 0, .int .i64 0] 29 (0, 0))) ∧ Aside0 (W.heap[w.heap.size + 1 + 1]? = some (.cells #[v, .int .i64 1] 29 (0, 0))) ∧ Aside0 (Kd.S k34 34 W w.heap.size (fun _ => True) v es) ∧ Aside0 (Drew w0 w W g c))
  case atStart => exact ⟨n, _, [], rfl, ⟨rfl, by omega⟩, ⟨by simp, fun x hx => by simp at hx⟩, BF, BR, BL, RO, D⟩
  case round =>
    clear BF BR BL RO D
    obtain ⟨m, v, es, rfl, ⟨hm, hmn⟩, HG, BF, BR, BL, RO, D⟩ := hrel
    obtain ⟨A5, c5, rfl⟩ := Kd.S_slice RO.out
    by_cases hm1 : m > 0
    case neg =>
      have y0 := (blk_cell BL.out 0).trans rfl
      have yz0 := blk_frozen BL.out 0
      have y1 := (blk_cell BL.out 1).trans rfl
      have yz1 := blk_frozen BL.out 1
      have z0 := (blk_cell BR.out 0).trans rfl
      have zz0 := blk_frozen BR.out 0
      have z1 := (blk_cell BR.out 1).trans rfl
      have zz1 := blk_frozen BR.out 1
      go_wp2_with fail
      refine (spec_HeadOf.to A5 c5 es _ (Kd.S_reads' RO.out).2.2 (Kd.S_reads' RO.out).2.1).mono ?_
      rintro x w3 ⟨rfl, hb⟩
      clear y0 y1 yz0 yz1 z0 z1 zz0 zz1
      replace BF := Aside0.mk (blk_below BF.out hb)
      replace BR := Aside0.mk (blk_below BR.out hb)
      replace BL := Aside0.mk (blk_below BL.out hb)
      replace RO := Aside0.mk (Kd.S_below RO.out hb)
      replace D := Aside0.mk (D.out.below hb)
      clear hb
      have y0 := (blk_cell BL.out 0).trans rfl
      have yz0 := blk_frozen BL.out 0
      have y1 := (blk_cell BL.out 1).trans rfl
      have yz1 := blk_frozen BL.out 1
      have z0 := (blk_cell BR.out 0).trans rfl
      have zz0 := blk_frozen BR.out 0
      have z1 := (blk_cell BR.out 1).trans rfl
      have zz1 := blk_frozen BR.out 1
      go_wp2_with fail
      have BR2 := blk2 (blk_far BR.out (p := ⟨w.heap.size + 1 + 1, 1, none⟩) ne_BR_BL (.int .i64 (headV es))) (.slice A5 es.length c5) (.int .i64 (headV es))
      have BL2 := blk_set BL.out 1 (.int .i64 (headV es))
      refine bodyPost_ret (results_c1 rfl _ _ (w.heap.size + 1) 29 #[.slice A5 es.length c5, .int .i64 (headV es)] (0, 0) _ rfl BR2 Try.underlying29 rfl (by kernel_rfl)) rfl ?_
      have hm0 : m.toNat = 0 := by omega
      have HS1 := Kd.S_set RO.out BL.out (by decide) 1 (.int .i64 (headV es))
      have HS2 := Kd.S_set HS1 (blk_far BR.out (p := ⟨w.heap.size + 1 + 1, 1, none⟩) ne_BR_BL (.int .i64 (headV es))) (by decide) 0 (.slice A5 es.length c5)
      have HS3 := Kd.S_set HS2 (blk_set (blk_far BR.out (p := ⟨w.heap.size + 1 + 1, 1, none⟩) ne_BR_BL (.int .i64 (headV es))) 0 (.slice A5 es.length c5)) (by decide) 1 (.int .i64 (headV es))
      exact ⟨_, es, _, rfl, HS3, (by have := HG.out; rw [hm0] at this; exact this), ((D.out.set HL (p := ⟨w.heap.size + 1 + 1, 1, none⟩) ge_BL NL _).set HL (p := ⟨w.heap.size + 1, 0, none⟩) ge_BR NR _).set HL (p := ⟨w.heap.size + 1, 1, none⟩) ge_BR NR _⟩
    obtain ⟨q, rfl⟩ : ∃ q, gk = q + 1 := ⟨gk - 1, by omega⟩
    have hlen := HG.out.1
    try go_wp2_with fail
    replace RO := Aside0.mk (Kd.S_drew RO.out)
    replace BF := Aside0.mk (blk_drew BF.out)
    replace BR := Aside0.mk (blk_drew BR.out)
    replace BL := Aside0.mk (blk_drew BL.out)
    replace D := Aside0.mk D.out.drew
    refine start_ (n := 9) (S := fun w' => w'.cell? ⟨w.heap.size + 1 + 1, 0, none⟩ = some (.slice A5 es.length c5) ∧ w'.cell? ⟨w.heap.size + 1 + 1, 1, none⟩ = some (.int .i64 1) ∧ w'.cell? ⟨w.heap.size, 0, none⟩ = some (.slice A l.length cc) ∧ w'.cell? ⟨w.heap.size, 1, none⟩ = some (.int .i64 d) ∧ w'.cell? ⟨w.heap.size, 2, none⟩ = some (.int .i64 u)) (ds := [8]) #[false, false, false, false, false, false, false, false, false] (by kernel_rfl) rfl rfl ⟨(blk_cell (BL.out) 0).trans rfl, (blk_cell (BL.out) 1).trans rfl, (blk_cell (BF.out) 0).trans rfl, (blk_cell (BF.out) 1).trans rfl, (blk_cell (BF.out) 2).trans rfl⟩ (fun hHeld => ?_)
    refine with_tabW spec_l5DrawLedger.tab4 spec_l5DrawLedger.bits4 (fun HT_ HW_ => ?_)
    generalize wr.drew = w14 at *
    refine pure_ (i := 0) (N := some 13) (v := ?_) (a' := ?_) #[true, false, false, false, false, false, false, false, false] rfl rfl (any_of HT_.out (by kernel_rfl)) (fun _ _ _ h => h) (Or.inl ⟨by rfl, ?_⟩) ?_ ?_
    rotate_left
    · intro w'
      go_simp
      with_reducible rfl
    rotate_left
    · simp only [Act.put, List.setIfInBounds_toArray, List.set_cons_zero, List.set_cons_succ, i64_w, i32_w]
      rfl
    refine pure_ (i := 2) (N := some 15) (v := ?_) (a' := ?_) #[true, false, true, false, false, false, false, false, false] rfl rfl (any_of HT_.out (by kernel_rfl)) (fun _ _ _ h => h) (Or.inl ⟨by rfl, ?_⟩) ?_ ?_
    rotate_left
    · intro w'
      go_simp
      with_reducible rfl
    rotate_left
    · simp only [Act.put, List.setIfInBounds_toArray, List.set_cons_zero, List.set_cons_succ, i64_w, i32_w]
      rfl
    refine take_ (i := 1) (N := some 14) (v := ?_) (a' := ?_) #[true, true, true, false, false, false, false, false, false] rfl rfl (take_ofW HT_.out HW_.out (by kernel_rfl)) (fun _ _ _ h => h) (Or.inl ⟨by rfl, ?_⟩) hHeld ?_ ?_
    rotate_left
    · rintro w' ⟨s0, s1, s2, s3, s4⟩
      go_simp
      with_reducible rfl
    rotate_left
    · simp only [Act.put, List.setIfInBounds_toArray, List.set_cons_zero, List.set_cons_succ, i64_w, i32_w]
      rfl
    refine take_ (i := 3) (N := some 16) (v := ?_) (a' := ?_) #[true, true, true, true, false, false, false, false, false] rfl rfl (take_ofW HT_.out HW_.out (by kernel_rfl)) (fun _ _ _ h => h) (Or.inl ⟨by rfl, ?_⟩) hHeld ?_ ?_
    rotate_left
    · rintro w' ⟨s0, s1, s2, s3, s4⟩
      go_simp
      with_reducible rfl
    rotate_left
    · simp only [Act.put, List.setIfInBounds_toArray, List.set_cons_zero, List.set_cons_succ, i64_w, i32_w]
      rfl
    refine one_ (i := 4) (N := some 17) #[true, true, true, true, true, false, false, false, false] rfl rfl (one_of HT_.out (by kernel_rfl)) (by decide) (fun K hK => ?_)
    refine goes_ Try.func89 (by kernel_rfl) rfl #[.pointer (some ⟨g, 0, none⟩), .agg #[.slice A l.length cc, .int .i64 d, .int .i64 u]] (by rfl) rfl rfl (by (try simp only [List.map_toArray, List.map_cons, List.map_nil]); first | done | rfl) ?_
    refine (spec_l5DrawEntry.e w0 _ g c A cc l d u D.out.cur D.out.bel hc (fun W' hk => H1.out _ (KeepBut.thenK D.out.keep hk)) HS.out hl0 hl1 hd hu).mono ?_
    rintro x w15 ⟨v, a, b, t, r, rfl, hR, hg, hD⟩
    refine ⟨_, rfl, ?_⟩
    have RE := Aside0.mk (Kd.R_lower hR D.out.size)
    replace RO := Aside0.mk (Kd.S_mono (Kd.S_told (Kd.S_oldK (D.out.cur.apartS RO.out (by decide)) hD.keep) (Kd.R_base hR)) (ok' := fun k => True ∧ some k ≠ v.ownBlock) (fun _ h_ => h_.1))
    replace BF := Aside0.mk (hD.blk BF.out NF)
    replace BR := Aside0.mk (hD.blk BR.out NR)
    replace BL := Aside0.mk (hD.blk BL.out NL)
    replace D := Aside0.mk (D.out.call hD)
    have hlr := hg.1
    have HGE := Aside0.mk hg
    clear hD hR hg
    obtain ⟨Ar, cr, er⟩ := Kd.R_slice RE.out
    subst er
    refine hK.out _ _ ⟨(blk_cell (BL.out) 0).trans rfl, (blk_cell (BL.out) 1).trans rfl, (blk_cell (BF.out) 0).trans rfl, (blk_cell (BF.out) 1).trans rfl, (blk_cell (BF.out) 2).trans rfl⟩ (fun hHeld => ?_)
    clear hK K
    refine norm_ (a' := ?_) ?_ ?_
    rotate_left
    · show Act.put _ (some 17) _ = _
      simp only [Act.put, List.setIfInBounds_toArray, List.set_cons_zero, List.set_cons_succ, i64_w, i32_w]
      rfl
    refine one_ (i := 5) (N := some 18) #[true, true, true, true, true, true, false, false, false] rfl rfl (one_of HT_.out (by kernel_rfl)) (by decide) (fun K hK => ?_)
    refine value_ (w1 := ?_) (v := ?_) (by rfl) rfl ?_ ?_
    rotate_left 2
    · go_simp
      constructor
      · rfl
      · rfl
    refine hK.out _ _ ⟨(blk_cell (blk_alloc BL.out _) 0).trans rfl, (blk_cell (blk_alloc BL.out _) 1).trans rfl, (blk_cell (blk_alloc BF.out _) 0).trans rfl, (blk_cell (blk_alloc BF.out _) 1).trans rfl, (blk_cell (blk_alloc BF.out _) 2).trans rfl⟩ (fun hHeld => ?_)
    clear hK K
    refine norm_ (a' := ?_) ?_ ?_
    rotate_left
    · show Act.put _ (some 18) _ = _
      simp only [Act.put, List.setIfInBounds_toArray, List.set_cons_zero, List.set_cons_succ, i64_w, i32_w]
      rfl
    refine one_ (i := 6) (N := some 19) #[true, true, true, true, true, true, true, false, false] rfl rfl (one_of HT_.out (by kernel_rfl)) (by decide) (fun K hK => ?_)
    refine Kd.S_append_step k34 w.heap.size (by rfl) (.tmp 14) (.tmp 18) 27 34 (.agg #[(.int .i64 0), (.int .i64 0), (.string ⟨#[]⟩), (.slice none 0 0)]) 56 rfl Try.underlying27 info34 rfl (by decide) (by omega) (.slice A5 es.length c5) es (⟨a, b, t, r⟩ : S34) [.int .i64 a, .int .i64 b, .string t, .slice Ar r.length cr] (fun _ => True) (fun k_ => some k_ = (.slice Ar r.length cr : Value).ownBlock) rfl rfl ?aP (fun k_ hk_ => ((Kd.R_mono (ok' := fun k_ => True ∧ some k_ ≠ (.slice A5 es.length c5 : Value).ownBlock) (Kd.R_apart' (RE.out) (Kd.S_typed RO.out) (by decide)) (fun k_ hk => ⟨trivial, hk.2⟩))).1 k_ hk_.symm) ?aF ?aO (Below.refl _ _) ?aS ?aL ?_
    (case aP => exact k34_mkM _ _ _ (⟨a, b, t, r⟩ : S34) (Kd.R_mono (Kd.R_tight rfl (Kd.R_mono (ok' := fun k_ => True ∧ some k_ ≠ (.slice A5 es.length c5 : Value).ownBlock) (Kd.R_apart' (RE.out) (Kd.S_typed RO.out) (by decide)) (fun k_ hk => ⟨trivial, hk.2⟩))) (fun _ h_ => h_)))
    (case aF => exact (fun _ _ => trivial))
    (case aO => exact Kd.S_mono RO.out (fun k_ hk => ⟨trivial, fun e_ => hk.2 e_⟩))
    (case aS => exact D.out.size)
    (case aL => omega)
    intro v1 w16 ho hb hg hat
    have HGN := Aside0.mk (goodEnts_snoc (e := ⟨a, b, t, r⟩) HG.out ⟨HGE.out.2, HGE.out.1⟩)
    generalize es ++ [(⟨a, b, t, r⟩ : S34)] = es1 at ho HGN
    have BF_ := Aside0.mk (blk_grown BF.out hg (Kd.S_ne RO.out BF.out (by decide)))
    have BR_ := Aside0.mk (blk_grown BR.out hg (Kd.S_ne RO.out BR.out (by decide)))
    have BL_ := Aside0.mk (blk_grown BL.out hg (Kd.S_ne RO.out BL.out (by decide)))
    have hng := D.out.cur.own_neS RO.out (by decide)
    replace D := Aside0.mk (D.out.grown HL hg (fun k hk => ⟨Kd.S_base RO.out k hk, fun e => hng (by rw [← e]; exact hk.symm)⟩))
    clear BF BR BL RO RE
    have BF := BF_
    have BR := BR_
    have BL := BL_
    clear BF_ BR_ BL_ hng
    have RO := Aside0.mk ho
    clear ho hb hg hat
    obtain ⟨A6, c6, e6⟩ := Kd.S_slice RO.out
    subst e6
    refine hK.out _ _ ⟨(blk_cell (BL.out) 0).trans rfl, (blk_cell (BL.out) 1).trans rfl, (blk_cell (BF.out) 0).trans rfl, (blk_cell (BF.out) 1).trans rfl, (blk_cell (BF.out) 2).trans rfl⟩ (fun hHeld => ?_)
    clear hK K
    refine norm_ (a' := ?_) ?_ ?_
    rotate_left
    · show Act.put _ (some 19) _ = _
      simp only [Act.put, List.setIfInBounds_toArray, List.set_cons_zero, List.set_cons_succ, i64_w, i32_w]
      rfl
    refine pure_ (i := 7) (N := some 20) (v := ?_) (a' := ?_) #[true, true, true, true, true, true, true, true, false] rfl rfl (any_of HT_.out (by kernel_rfl)) (fun _ _ _ h => h) (Or.inl ⟨by rfl, ?_⟩) ?_ ?_
    rotate_left
    · intro w'
      go_simp
      with_reducible rfl
    rotate_left
    · simp only [Act.put, List.setIfInBounds_toArray, List.set_cons_zero, List.set_cons_succ, i64_w, i32_w]
      rfl
    refine last_ (i := 8) (N := none) #[true, true, true, true, true, true, true, true, true] rfl rfl (one_of HT_.out (by kernel_rfl)) (by decide) (fun K hK => ?_)
    have y0 := (blk_cell BL.out 0).trans rfl
    have yz0 := blk_frozen BL.out 0
    refine skip_ (w1 := ?_) (by rfl) rfl ?_ ?_
    rotate_left
    · go_simp
      rfl
    refine hK.out _ _ ?_
    clear hK K
    refine done_ (done_of HT_.out (by kernel_rfl)) ?_
    try go_wp2
    go_roundg q
    case measure => omega
    case rel => exact ⟨m - 1, _, es1, by go_num, ⟨by omega, by omega⟩, ⟨by have := HGN.out; rw [show n.toNat - (m - 1).toNat = n.toNat - m.toNat + 1 by omega]; exact this⟩, ⟨blk_far BF.out ne_BF_BL _⟩, ⟨blk_far BR.out ne_BR_BL _⟩, ⟨blk_set BL.out 0 _⟩, ⟨Kd.S_set RO.out BL.out (by decide) 0 _⟩, ⟨D.out.set HL ge_BL NL _⟩⟩
end Go.Proofs.Ytphmnkcfjgallaa.Q
namespace Go.Proofs.Ytphmnkcfjgallaa.Q
open Go.RowKit Go.Proofs.YtphmnkcfjgallaaW.PrintWords Go.Proofs.YtphmnkcfjgallaaW.PrintLast Go.Proofs.YtphmnkcfjgallaaW.PrintMore
attribute [local go_sem] max2_int min2_int max_two min_two max_three min_three max_four min_four   -- for this text's walks alone
set_option linter.unusedVariables false
set_option linter.unusedSimpArgs false
def spec_Post.T8 : Bool × List (List Nat × List Nat) := (true, [([], []), ([0], [0]), ([], []), ([2], [2]), ([3], [3]), ([1, 4, 3], [1, 4]), ([0, 1, 2, 3, 4, 5], []), ([6, 5, 5, 0, 1, 2, 3, 4, 5], [5, 6])])
def spec_Post.B8 : List Nat := [0, 1, 0, 4, 12, 31, 63, 127]
theorem spec_Post.bits8 : waitsOk spec_Post.T8.2 spec_Post.B8 = true := by kernel_rfl
end Go.Proofs.Ytphmnkcfjgallaa.Q
namespace Go.Proofs.Ytphmnkcfjgallaa.Q
open Go.RowKit Go.Proofs.YtphmnkcfjgallaaW.PrintWords Go.Proofs.YtphmnkcfjgallaaW.PrintLast Go.Proofs.YtphmnkcfjgallaaW.PrintMore
set_option linter.unusedVariables false
set_option linter.unusedSimpArgs false
section
variable {α : Type} {dd : Kd α} {e base g t : Nat} {W : World} {ok : Nat → Prop} {v : Value} {xs : List α} {cells : Array Value}
end
theorem goodEnts_le {es : List Ent} {n m : Nat} (h : goodEnts es n) (hn : n ≤ m) : goodEnts es m := ⟨Nat.le_trans h.1 hn, h.2⟩
end Go.Proofs.Ytphmnkcfjgallaa.Q
namespace Go.Proofs.Ytphmnkcfjgallaa.Q
open Go.RowKit Go.Proofs.YtphmnkcfjgallaaW.PrintWords Go.Proofs.YtphmnkcfjgallaaW.PrintLast Go.Proofs.YtphmnkcfjgallaaW.PrintMore
set_option linter.unusedVariables false
set_option linter.unusedSimpArgs false
def InL (x : Int) : Prop := -549755813888 ≤ x ∧ x ≤ 549755813887
theorem linkAll_good (xs : List Int) (h : ∀ x ∈ xs, InL x) : ∀ s : Int × Bool, (linkAll s xs).2 = s.2 := by
  induction xs with
  | nil => intro s; rfl
  | cons x xs ih =>
    intro s
    rw [linkAll_cons, ih (fun y hy => h y (List.mem_cons_of_mem _ hy))]
    unfold linkStep
    have hx := h x List.mem_cons_self
    unfold InL at hx
    rw [if_pos hx]
theorem bytesN_in (s : ByteArray) : ∀ n, ∀ x ∈ bytesN s n, InL x := by
  intro n
  induction n with
  | zero => intro x hx; simp [bytesN] at hx
  | succ n ih =>
    intro x hx
    simp only [bytesN, List.mem_append, List.mem_singleton] at hx
    rcases hx with hx | rfl
    · exact ih x hx
    · have := bt_range s n
      unfold InL
      omega
theorem nums_in {chart : List Acc} {d c : Int} {e : Ent} (hc : chart.length ≤ 1000) (hd : d ≤ 20) (hcu : c ≤ 20) (h : entryP chart d c e) : ∀ x ∈ numsOf e, InL x := by
  obtain ⟨h0, h1, h2, h3, _, h5, _⟩ := h
  intro x hx
  unfold numsOf at hx
  simp only [List.mem_append, List.mem_cons, List.not_mem_nil, or_false, List.mem_flatMap] at hx
  rcases hx with (((rfl | rfl | rfl) | hx) | rfl) | ⟨y, hy, hx⟩
  · unfold InL; omega
  · unfold InL; omega
  · unfold InL; omega
  · exact bytesN_in _ _ x hx
  · unfold InL; omega
  · obtain ⟨g0, g1, g2, g3, g4, _⟩ := h5 y hy
    unfold leafP at g0
    unfold lineNums at hx
    simp only [List.mem_cons, List.not_mem_nil, or_false] at hx
    unfold InL
    rcases hx with rfl | rfl | rfl | rfl | rfl <;> omega
theorem frame_len {chart : List Acc} {d c : Int} (h : frameB chart d c = true) : chart.length ≤ 120 ∧ (1 ≤ d ∧ d ≤ 20) ∧ (1 ≤ c ∧ c ≤ 20) := by
  obtain ⟨h0, h1, h2⟩ := frame_parts h
  have := (chartOk_iff.1 h0).2.1
  exact ⟨this, h1, h2⟩
theorem entries_in {chart : List Acc} {d c : Int} {l : List Ent} (hc : chart.length ≤ 1000) (hd : d ≤ 20) (hcu : c ≤ 20) (h : ∀ e ∈ l, entryP chart d c e) : ∀ x ∈ l.flatMap numsOf, InL x := by
  intro x hx
  obtain ⟨e, he, hx⟩ := List.mem_flatMap.1 hx
  exact nums_in hc hd hcu (h e he) x hx
theorem entry_short {chart : List Acc} {d c : Int} {e : Ent} (h : entryP chart d c e) : ¬ tooLong e := by
  obtain ⟨h0, h1, h2, h3, _⟩ := h
  unfold tooLong
  omega
theorem head_all {chart : List Acc} {d c : Int} {l : List Ent} (hf : frameB chart d c = true) (hl : l.length ≤ 1000) (h : ∀ e ∈ l, entryP chart d c e) : linkAll (1, false) (l.flatMap numsOf) = (headV l, false) := by
  obtain ⟨f0, f1, f2⟩ := frame_len hf
  have hg := linkAll_good _ (entries_in (by omega) f1.2 f2.2 h) (1, false)
  rw [headV_good (fun q => by rcases q with q | ⟨e, he, q⟩; (· omega); (· exact entry_short (h e he) q)) hg]
  exact Prod.ext rfl hg
theorem head_post {chart : List Acc} {d c : Int} {l : List Ent} {e : Ent} {h : Int} (hq : ledgerP chart d c l h) (hn : l.length ≤ 999) (he : entryP chart d c e) : linkAll (h, false) (numsOf e) = (headV (l ++ [e]), false) := by
  obtain ⟨hf, hl, ha, rfl⟩ := hq
  have h2 := head_all hf (l := l ++ [e]) (by rw [List.length_append]; simp; omega) (fun x hx => by
    rcases List.mem_append.1 hx with hx | hx
    · exact ha x hx
    · rw [List.mem_singleton.1 hx]; exact he)
  rw [← h2, List.flatMap_append, linkAll_append, head_all hf hl ha]
  simp
theorem head_in {chart : List Acc} {d c : Int} {l : List Ent} {h : Int} (hq : ledgerP chart d c l h) : HeadIn (h, false) := by
  obtain ⟨hf, hl, ha, rfl⟩ := hq
  rw [← head_all hf hl ha]
  exact linkAll_in headIn_one _
open Classical in
noncomputable def postR (m0 : List Acc) (d c : Int) (m1 : List Ent) (h : Int) (e : Ent) : List Ent × Int × Int :=
  if ledgerB m0 d c m1 h = true then (if entryB m0 d c e = true then (if m1.length = 1000 then (m1, h, 3) else (m1 ++ [e], headV (m1 ++ [e]), 0)) else (m1, h, 2)) else ([], 0, 1)
end Go.Proofs.Ytphmnkcfjgallaa.Q
namespace Go.Proofs.Ytphmnkcfjgallaa.Q
open Go.RowKit Go.Proofs.YtphmnkcfjgallaaW.PrintWords Go.Proofs.YtphmnkcfjgallaaW.PrintLast Go.Proofs.YtphmnkcfjgallaaW.PrintMore
set_option linter.unusedVariables false
set_option linter.unusedSimpArgs false
def negL (x : Lin) : Lin := ⟨x.f0, x.f1, x.f2, -x.f3, -x.f4⟩
def revT (a : Int) : ByteArray := (⟨#[114, 101, 118, 101, 114, 115, 101, 32]⟩ : ByteArray) ++ decT (a + 1).toNat
open Classical in
noncomputable def revR (m0 : List Acc) (d c : Int) (m1 : List Ent) (h at_ day : Int) : Int × Int × ByteArray × List Lin × Bool :=
  if ledgerB m0 d c m1 h = true ∧ (0 ≤ at_ ∧ at_ < (m1.length : Int)) ∧ (0 ≤ day ∧ day ≤ 40000) then (day, at_ + 1, revT at_, (rd_T34 m1 at_).f3.map negL, true) else (0, 0, ⟨#[]⟩, [], false)
theorem wrneg {a : Int} (h0 : -4611686018427387904 ≤ a) (h1 : a ≤ 4611686018427387904) : wrap64 (-a) = -a := by unfold wrap64; omega
theorem neg_step (l : List Lin) (i : Int) (h0 : 0 ≤ i) (h1 : i < (l.length : Int)) (hf : ∀ x ∈ l, lineFine x) (x : List Lin) (hx : x = (l.take i.toNat).map negL ++ l.drop i.toNat) :
    i < (x.length : Int) ∧ ((x.set i.toNat (⟨(rd_T112 x i).f0, (rd_T112 x i).f1, (rd_T112 x i).f2, wrap64 (-((rd_T112 x i).f3)), (rd_T112 x i).f4⟩ : S112)).set i.toNat (⟨(rd_T112 (x.set i.toNat (⟨(rd_T112 x i).f0, (rd_T112 x i).f1, (rd_T112 x i).f2, wrap64 (-((rd_T112 x i).f3)), (rd_T112 x i).f4⟩ : S112)) i).f0, (rd_T112 (x.set i.toNat (⟨(rd_T112 x i).f0, (rd_T112 x i).f1, (rd_T112 x i).f2, wrap64 (-((rd_T112 x i).f3)), (rd_T112 x i).f4⟩ : S112)) i).f1, (rd_T112 (x.set i.toNat (⟨(rd_T112 x i).f0, (rd_T112 x i).f1, (rd_T112 x i).f2, wrap64 (-((rd_T112 x i).f3)), (rd_T112 x i).f4⟩ : S112)) i).f2, (rd_T112 (x.set i.toNat (⟨(rd_T112 x i).f0, (rd_T112 x i).f1, (rd_T112 x i).f2, wrap64 (-((rd_T112 x i).f3)), (rd_T112 x i).f4⟩ : S112)) i).f3, wrap64 (-((rd_T112 (x.set i.toNat (⟨(rd_T112 x i).f0, (rd_T112 x i).f1, (rd_T112 x i).f2, wrap64 (-((rd_T112 x i).f3)), (rd_T112 x i).f4⟩ : S112)) i).f4))⟩ : S112)) = (l.take (i + 1).toNat).map negL ++ l.drop (i + 1).toNat := by
  have hlen : x.length = l.length := by rw [hx, List.length_append, List.length_map, List.length_take, List.length_drop]; omega
  have hil : i < (x.length : Int) := by omega
  refine ⟨hil, ?_⟩
  obtain ⟨n, rfl⟩ : ∃ n : Nat, i = n := ⟨i.toNat, by omega⟩
  have hn : n < l.length := by omega
  have hmem : l[n] ∈ l := List.getElem_mem hn
  have hfn := hf _ hmem
  unfold lineFine at hfn
  have hr : rd_T112 x (n : Int) = l[n] := by
    unfold rd_T112
    rw [hx, List.getD_eq_getElem?_getD, List.getElem?_append_right (by rw [List.length_map, List.length_take]; simp only [Int.toNat_natCast]; omega), List.length_map, List.length_take, List.getElem?_drop]
    simp only [Int.toNat_natCast]
    rw [Nat.min_eq_left (by omega), show n + (n - n) = n by omega, List.getElem?_eq_getElem hn]
    rfl
  rw [rdset112 hil h0, hr]
  rw [wrneg (a := l[n].f3) (by omega) (by omega)]
  dsimp only
  rw [wrneg (a := l[n].f4) (by omega) (by omega), List.set_set, hx]
  simp only [Int.toNat_natCast]
  rw [show ((n : Int) + 1).toNat = n + 1 by omega, List.take_add_one, List.getElem?_eq_getElem hn, Option.toList_some, List.map_append]
  rw [List.set_append_right _ _ (by rw [List.length_map, List.length_take]; omega), List.length_map, List.length_take, Nat.min_eq_left (by omega), show n - n = 0 by omega]
  rw [List.drop_eq_getElem_cons hn, List.set_cons_zero]
  simp [negL]
theorem impl_Reverse_l0 (l : List Lin) (hf : ∀ x ∈ l, lineFine x) (hl : l.length ≤ 1048576) (a b : Int) (s : ByteArray) : ∀ (n k : Nat) (i : Int), 0 ≤ i → i + n = (l.length : Int) → n < k →
    impl_Reverse.l0 k (l.length : Int) i a b s ((l.take i.toNat).map negL ++ l.drop i.toNat) = some (a, b, s, l.map negL, true) := by
  intro n
  induction n with
  | zero =>
    intro k i h0 hi hk
    obtain ⟨k, rfl⟩ : ∃ j, k = j + 1 := ⟨k - 1, by omega⟩
    simp only [impl_Reverse.l0]
    rw [if_neg (by omega), List.take_of_length_le (by omega), List.drop_of_length_le (by omega), List.append_nil]
  | succ n ih =>
    intro k i h0 hi hk
    obtain ⟨k, rfl⟩ : ∃ j, k = j + 1 := ⟨k - 1, by omega⟩
    have hs := neg_step l i h0 (by omega) hf _ rfl
    simp only [impl_Reverse.l0]
    rw [if_pos (by omega), if_pos h0, if_pos hs.1]
    simp only [Option.bind_some]
    rw [hs.2, wr1 h0 (by omega)]
    exact ih k (i + 1) (by omega) (by omega) (by omega)
theorem spec_Reverse_l0 (l : List Lin) (hf : ∀ x ∈ l, lineFine x) (hl : l.length ≤ 1048576) (a b : Int) (s : ByteArray) : ∀ (n k : Nat) (i : Int), 0 ≤ i → i + n = (l.length : Int) → n < k →
    spec_Reverse.l0 k i a b s ((l.take i.toNat).map negL ++ l.drop i.toNat) = some (a, b, s, l.map negL, true) := by
  intro n
  induction n with
  | zero =>
    intro k i h0 hi hk
    obtain ⟨k, rfl⟩ : ∃ j, k = j + 1 := ⟨k - 1, by omega⟩
    simp only [spec_Reverse.l0]
    rw [List.take_of_length_le (by omega), List.drop_of_length_le (by omega), List.append_nil, if_neg (by rw [List.length_map]; omega)]
  | succ n ih =>
    intro k i h0 hi hk
    obtain ⟨k, rfl⟩ : ∃ j, k = j + 1 := ⟨k - 1, by omega⟩
    have hs := neg_step l i h0 (by omega) hf _ rfl
    simp only [spec_Reverse.l0]
    rw [if_pos hs.1, if_pos h0]
    simp only [Option.bind_some]
    rw [hs.2, wr1 h0 (by omega)]
    exact ih k (i + 1) (by omega) (by omega) (by omega)
theorem strOf_dig {x : Int} (h0 : 0 ≤ x) (h1 : x < 10) : strOfNums [(wrap64 (48 + x)) % 256] = dig x.toNat := by
  have h : x = 0 ∨ x = 1 ∨ x = 2 ∨ x = 3 ∨ x = 4 ∨ x = 5 ∨ x = 6 ∨ x = 7 ∨ x = 8 ∨ x = 9 := by omega
  rcases h with rfl | rfl | rfl | rfl | rfl | rfl | rfl | rfl | rfl | rfl <;> (unfold dig strOfNums; apply ByteArray.ext; rw [ByteArray.data_extract]; simp [wrap64]; try rfl)
theorem tmod10 {a : Int} (h0 : 0 ≤ a) : Int.tmod a 10 = a % 10 := Int.tmod_eq_emod_of_nonneg h0
theorem decimal_l0 : ∀ (n : Nat) (k : Nat) (x : Int) (s : ByteArray), 0 ≤ x → x < 10 ^ n → x ≤ 4611686018427387904 → n < k → s.size + n ≤ 1000000 →
    impl_decimal.l0 k x s = some (if x = 0 then s else decT x.toNat ++ s) := by
  intro n
  induction n with
  | zero =>
    intro k x s h0 hx hbig hk hs
    obtain ⟨k, rfl⟩ : ∃ j, k = j + 1 := ⟨k - 1, by omega⟩
    obtain rfl : x = 0 := by omega
    simp only [impl_decimal.l0]
    rw [if_neg (by omega), if_pos trivial]
  | succ n ih =>
    intro k x s h0 hx hbig hk hs
    obtain ⟨k, rfl⟩ : ∃ j, k = j + 1 := ⟨k - 1, by omega⟩
    by_cases hz : x = 0
    · subst hz
      simp only [impl_decimal.l0]
      rw [if_neg (by omega), if_pos trivial]
    · have hd := dig_size (x % 10).toNat
      have hx' : x / 10 < 10 ^ n := by rw [Int.pow_succ] at hx; omega
      simp only [impl_decimal.l0, Option.bind_some]
      rw [if_pos (by omega), tmod10 h0, strOf_dig (by omega) (by omega), if_pos (by omega), tdiv10 h0 hbig, if_neg hz]
      rw [ih k (x / 10) _ (by omega) hx' (by omega) (by omega) (by rw [ByteArray.size_append]; omega)]
      by_cases hq : x / 10 = 0
      · rw [if_pos hq, decT_small (by omega), show (x % 10).toNat = x.toNat by omega]
      · rw [if_neg hq, decT_more (n := x.toNat) (by omega), show (x / 10).toNat = x.toNat / 10 by omega, show (x % 10).toNat = x.toNat % 10 by omega, ByteArray.append_assoc]
theorem impl_decimal_is {a : Int} (h0 : 0 ≤ a) (h1 : a ≤ 1000000000000000) {k : Nat} (hk : 20 < k) : impl_decimal.f k a = some (decT a.toNat) := by
  obtain ⟨k, rfl⟩ : ∃ j, k = j + 1 := ⟨k - 1, by omega⟩
  have hd := dig_size (a % 10).toNat
  simp only [impl_decimal.f]
  rw [if_neg (by omega), tdiv10 h0 (by omega), tmod10 h0, strOf_dig (by omega) (by omega)]
  rw [decimal_l0 16 k (a / 10) _ (by omega) (by omega) (by omega) (by omega) (by omega)]
  by_cases hq : a / 10 = 0
  · rw [if_pos hq, decT_small (by omega), show (a % 10).toNat = a.toNat by omega]
  · rw [if_neg hq, decT_more (n := a.toNat) (by omega), show (a / 10).toNat = a.toNat / 10 by omega, show (a % 10).toNat = a.toNat % 10 by omega]
theorem rev_fine {m0 : List Acc} {d c : Int} {m1 : List Ent} {h : Int} (q : ledgerB m0 d c m1 h = true) {i : Int} (h0 : 0 ≤ i) (h1 : i < (m1.length : Int)) : m1.length ≤ 1000 ∧ (rd_T34 m1 i).f3.length ≤ 60 ∧ ∀ x ∈ (rd_T34 m1 i).f3, lineFine x := by
  obtain ⟨hl, _, hf, _⟩ := ledger_fine q
  have hm : rd_T34 m1 i ∈ m1 := mem_at (z := z34) h0 h1
  exact ⟨hl, (hf _ hm).1, (hf _ hm).2⟩
theorem impl_Reverse_is (m0 : List Acc) (d c : Int) (m1 : List Ent) (h at_ day : Int) (h1 : ∀ x ∈ m0, x.f0.size ≤ maxLen) (h2 : ∀ e ∈ m1, e.f2.size ≤ maxLen) (k : Nat) (hk : 200 < k) : impl_Reverse.f k m0 d c m1 h at_ day = some (revR m0 d c m1 h at_ day) := by
  obtain ⟨k, rfl⟩ : ∃ j, k = j + 1 := ⟨k - 1, by omega⟩
  unfold impl_Reverse.f impl_LedgerOk.f impl_isDay.f
  rw [if_pos ⟨h1, h2⟩]
  simp only [Option.bind_some, impl_Reverse.j0]
  unfold revR
  by_cases q1 : ledgerB m0 d c m1 h = true
  · rw [if_pos q1]
    by_cases q2 : at_ < 0
    · rw [if_pos q2, if_pos trivial, if_neg (by omega)]
    · rw [if_neg q2]
      by_cases q3 : at_ ≥ (m1.length : Int)
      · rw [if_pos q3, if_pos trivial, if_neg (by omega)]
      · rw [if_neg q3]
        by_cases q4 : 0 ≤ day ∧ day ≤ 40000
        · rw [inB_of q4]
          obtain ⟨f1, f2, f3⟩ := rev_fine q1 (i := at_) (by omega) (by omega)
          have hd := decT_size (at_ + 1).toNat
          have e0 : impl_copyEntry.f (rd_T34 m1 at_).f0 (rd_T34 m1 at_).f1 (rd_T34 m1 at_).f2 (rd_T34 m1 at_).f3 = some ((rd_T34 m1 at_).f0, (rd_T34 m1 at_).f1, (rd_T34 m1 at_).f2, (rd_T34 m1 at_).f3) := if_pos (by omega)
          have e1 := impl_Reverse_l0 (rd_T34 m1 at_).f3 f3 (by omega) day (at_ + 1) (revT at_) (rd_T34 m1 at_).f3.length k 0 (by omega) (by omega) (by omega)
          rw [if_neg (by simp), if_pos (by omega), if_pos (by omega), e0]
          simp only [Option.bind_some]
          rw [wr1 (by omega) (by omega), impl_decimal_is (by omega) (by omega) (by omega)]
          simp only [Option.bind_some]
          rw [if_pos (by omega), if_pos ⟨q1, ⟨by omega, by omega⟩, q4⟩]
          exact e1
        · rw [inB_not q4]
          rw [if_pos (by simp), if_neg (fun q => q4 q.2.2)]
  · rw [if_neg q1, if_pos trivial, if_neg (fun q => q1 q.1)]
theorem spec_Reverse_is (m0 : List Acc) (d c : Int) (m1 : List Ent) (h at_ day : Int) (h1 : ∀ x ∈ m0, x.f0.size ≤ maxLen) (h2 : ∀ e ∈ m1, e.f2.size ≤ maxLen) (hl : m1.length ≤ 1048576) (k : Nat) (hk : 200 < k) : spec_Reverse.f k m0 d c m1 h at_ day = some (revR m0 d c m1 h at_ day) := by
  obtain ⟨k, rfl⟩ : ∃ j, k = j + 1 := ⟨k - 1, by omega⟩
  unfold spec_Reverse.f spec_LedgerOk.f spec_l2Day.f spec_l1In.f
  rw [if_pos ⟨h1, h2⟩]
  simp only [Option.bind_some, spec_Reverse.j0]
  unfold revR
  by_cases q1 : ledgerB m0 d c m1 h = true
  · rw [if_pos q1, wrin (by omega) (by omega)]
    by_cases q2 : 0 ≤ at_ ∧ at_ ≤ (m1.length : Int) - 1
    · rw [inB_of q2, if_pos rfl]
      by_cases q4 : 0 ≤ day ∧ day ≤ 40000
      · rw [inB_of q4]
        obtain ⟨f1, f2, f3⟩ := rev_fine q1 (i := at_) (by omega) (by omega)
        have hd := decT_size (at_ + 1).toNat
        have e0 : spec_l5Entry.f (rd_T34 m1 at_).f0 (rd_T34 m1 at_).f1 (rd_T34 m1 at_).f2 (rd_T34 m1 at_).f3 = some ((rd_T34 m1 at_).f0, (rd_T34 m1 at_).f1, (rd_T34 m1 at_).f2, (rd_T34 m1 at_).f3) := by
          unfold spec_l5Entry.f
          simp only [Option.bind_some, List.nil_append, List.length_nil, Nat.zero_add]
          rw [if_pos (by omega)]
        have e2 : spec_l1Text.f (at_ + 1) = some (decT (at_ + 1).toNat) := if_pos (by omega)
        have e1 := spec_Reverse_l0 (rd_T34 m1 at_).f3 f3 (by omega) day (at_ + 1) (revT at_) (rd_T34 m1 at_).f3.length k 0 (by omega) (by omega) (by omega)
        rw [if_neg (by simp), if_pos (by omega), if_pos (by omega), e0]
        simp only [Option.bind_some]
        rw [wr1 (by omega) (by omega), e2]
        simp only [Option.bind_some]
        rw [if_pos (by omega), if_pos ⟨q1, ⟨by omega, by omega⟩, q4⟩]
        exact e1
      · rw [inB_not q4]
        rw [if_pos (by simp), if_neg (fun q => q4 q.2.2)]
    · rw [inB_not q2, if_neg (by simp), if_pos trivial, if_neg (by omega)]
  · rw [if_neg q1, if_pos trivial, if_neg (fun q => q1 q.1)]
theorem revR_len {m0 : List Acc} {d c : Int} {m1 : List Ent} {h at_ day : Int} {a b : Int} {s : ByteArray} {l : List Lin} {t : Bool} (q : revR m0 d c m1 h at_ day = (a, b, s, l, t)) : l.length ≤ 1048576 := by
  unfold revR at q
  split at q
  · rename_i hc
    obtain ⟨f1, f2, f3⟩ := rev_fine hc.1 hc.2.1.1 hc.2.1.2
    simp only [Prod.mk.injEq] at q
    rw [← q.2.2.2.1, List.length_map]
    omega
  · simp only [Prod.mk.injEq] at q
    rw [← q.2.2.2.1]
    simp
end Go.Proofs.Ytphmnkcfjgallaa.Q
namespace Go.Proofs.Ytphmnkcfjgallaa.Q
open Go.RowKit Go.Proofs.YtphmnkcfjgallaaW.PrintWords Go.Proofs.YtphmnkcfjgallaaW.PrintLast Go.Proofs.YtphmnkcfjgallaaW.PrintMore
set_option linter.unusedVariables false
set_option linter.unusedSimpArgs false
structure DrewR (w0 w w' : World) (g : Nat) (c : List Int) (row : Option Nat) : Prop where
  cur : Cur w0 w' g c
  bel : Below w0.heap.size w0 w'
  keep : KeepBut w w' g row
section
variable {w0 w W W1 : World} {g : Nat} {c : List Int} {row : Option Nat}
theorem Drew.toR (h : Drew w0 w W g c) (row : Option Nat) : DrewR w0 w W g c row := ⟨h.cur, h.bel, ⟨h.keep.1, fun i hi hne _ => h.keep.2 i hi hne (by simp)⟩⟩
theorem DrewR.set (h : DrewR w0 w W g c row) (hl : w0.heap.size ≤ w.heap.size) {p : Addr} (hp : w.heap.size ≤ p.block) (hne : p.block ≠ g) (u : Value) : DrewR w0 w (W.setCell p u) g c row := by
  refine ⟨h.cur.far (fun e => hne e.symm) u, h.bel.setCell (Nat.le_trans hl hp) u, ⟨by simpa using h.keep.1, fun i hi hi2 hn => ?_⟩⟩
  refine (Below.heap_setCell W p u i (by omega)).trans (h.keep.2 i hi hi2 hn)
theorem DrewR.setRow {gp : Nat} (h : DrewR w0 w W g c (some gp)) (hp : w0.heap.size ≤ gp) (hne : gp ≠ g) (j : Nat) (u : Value) : DrewR w0 w (W.setCell ⟨gp, j, none⟩ u) g c (some gp) := by
  refine ⟨h.cur.far (p := ⟨gp, j, none⟩) (fun e => hne e.symm) u, h.bel.setCell (p := ⟨gp, j, none⟩) hp u, ⟨by simpa using h.keep.1, fun i hi hi2 hn => ?_⟩⟩
  refine (Below.heap_setCell W ⟨gp, j, none⟩ u i (fun e => hn (by rw [e]))).trans (h.keep.2 i hi hi2 hn)
end
theorem ints_lit (W : World) (xs : List Int) (inner : List Value) (hi : inner = xs.map (Value.int .i64)) (hm : xs.length ≤ 1048576) : Kd.C (Kd.int .i64) (W.alloc (.cells inner.toArray 3)) (some ⟨W.heap.size, 0, none⟩) xs.length xs := by
  subst hi
  have h2 := World.ownsRow_lit (base := W.heap.size) (e := 3) (size := 1) W (xs.map (Value.int .i64)).toArray xs.length (Nat.le_refl _) (by simp [maxLen]; omega) (by simp)
  have h3 : (W.alloc (Obj.cells (xs.map (Value.int .i64)).toArray 3)).ownsRow W.heap.size 3 1 (.slice (some ⟨W.heap.size, 0, none⟩) xs.length xs.length) xs.length (encs (Value.int .i64) xs) := by simpa [encs] using h2
  exact (Kd.R_reads' (Kd.R_of_own (h1 := fun _ => rfl) (ok := fun _ => True) h3 (fun _ _ => trivial))).2.2
end Go.Proofs.Ytphmnkcfjgallaa.Q
