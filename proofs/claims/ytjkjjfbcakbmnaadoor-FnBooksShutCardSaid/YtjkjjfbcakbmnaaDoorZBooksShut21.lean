/- Parts of the proof: what functions of the program and of the reference answer.
   No condition. -/
import Derived.Test.YtjkjjfbcakbmnaaDoorZBooksShut1
import Derived.Test.YtjkjjfbcakbmnaaDoorZBooksShut20
import Derived.Test.YtjkjjfbcakbmnaaDoorZBooksShut17
import Derived.Test.YtjkjjfbcakbmnaaDoorZBooksShut9
import Derived.Test.YtjkjjfbcakbmnaaDoorZBooksShut14
import Derived.Test.YtjkjjfbcakbmnaaDoorZBooksShut18
import Derived.Test.YtjkjjfbcakbmnaaDoorZBooksShut19
import Derived.Test.YtjkjjfbcakbmnaaDoorZBooksShut5
import Derived.Test.YtjkjjfbcakbmnaaDoorZBooksShut8
import Derived.Test.YtjkjjfbcakbmnaaDoorZBooksShut4
namespace Go.Proofs.YtjkjjfbcakbmnaaDoor.Q
open Go.RowKit Go.Proofs.YtjkjjfbcakbmnaaDoorW.PrintWords Go.Proofs.YtjkjjfbcakbmnaaDoorW.PrintLast Go.Proofs.YtjkjjfbcakbmnaaDoorW.PrintMore
set_option linter.unusedVariables false
set_option linter.unusedSimpArgs false
def spec_l5DrawLedger.T4 : Bool × List (List Nat × List Nat) := (true, [([], []), ([0], [0]), ([], []), ([], []), ([2, 3], [2, 3]), ([4], [4]), ([1, 5, 4], [1, 5]), ([0, 1, 2, 3, 4, 5, 6], []), ([7, 6, 6, 0, 1, 2, 3, 4, 5, 6], [6, 7])])
def spec_l5DrawLedger.B4 : List Nat := [0, 1, 0, 0, 12, 28, 63, 127, 255]
theorem spec_l5DrawLedger.tab4 : rtab .any (opsOf Tryd.f35 4) = spec_l5DrawLedger.T4 := by kernel_rfl
theorem spec_l5DrawLedger.bits4 : waitsOk spec_l5DrawLedger.T4.2 spec_l5DrawLedger.B4 = true := by kernel_rfl
theorem blk2 {W : World} {g t : Nat} {z0 z1 : Value} (h : W.heap[g]? = some (.cells #[z0, z1] t (0, 0))) (u0 u1 : Value) : ((W.setCell ⟨g, 0, none⟩ u0).setCell ⟨g, 1, none⟩ u1).heap[g]? = some (.cells #[u0, u1] t (0, 0)) := by
  refine blk_put (cs := #[u0, z1]) ?_ 1 _ rfl
  refine blk_put (cs := #[z0, z1]) ?_ 0 _ rfl
  exact h
theorem Cur.own_neS {w0 W : World} {g : Nat} {c : List Int} {α : Type} {d : Kd α} {e : Nat} {base : Nat} {ok : Nat → Prop} {v : Value} {xs : List α} (h : Cur w0 W g c) (ho : d.S e W base ok v xs) (ht : e ≠ 69) : some g ≠ v.ownBlock := by obtain ⟨i, j, h, k⟩ := h; exact h.own_neS ho ht
def goodEnts (es : List Ent) (n : Nat) : Prop := es.length ≤ n ∧ ∀ e ∈ es, e.f2.size ≤ 50 ∧ e.f3.length ≤ 9
theorem goodEnts_snoc {es : List Ent} {n : Nat} {e : Ent} (h : goodEnts es n) (h2 : e.f2.size ≤ 50 ∧ e.f3.length ≤ 9) : goodEnts (es ++ [e]) (n + 1) := by
  refine ⟨by have := h.1; simp; omega, fun x hx => ?_⟩
  rcases List.mem_append.1 hx with hx | hx
  · exact h.2 x hx
  · obtain rfl := List.mem_singleton.1 hx
    exact h2
set_option maxHeartbeats 4000000 in
set_option maxRecDepth 100000 in
theorem spec_l5DrawLedger.e (w0 w : World) (g : Nat) (c : List Int) (A : Option Addr) (cc : Nat) (l : List Acc) (d u n : Int) (hI : Cur w0 w g c) (hB : Below w0.heap.size w0 w) (hc : c.length ≤ 1048576) (hr1 : ∀ W, KeepBut w W g none → Kd.C k64 W A l.length l) (hs : ∀ x ∈ l, x.f0.size ≤ maxLen) (hl0 : 0 < l.length) (hl1 : l.length ≤ 1000) (hd : d ≤ 100) (hu : u ≤ 100) (hn : n ≤ 1000) :
    Calls Tryd.prog 35 #[.pointer (some ⟨g, 0, none⟩), .agg #[.slice A l.length cc, .int .i64 d, .int .i64 u], .int .i64 n] w fun e w' => ∃ (v : Value) (es : List Ent) (h : Int), e = .returned (.agg #[v, .int .i64 h]) ∧ Kd.S k35 35 w' w.heap.size (fun _ => True) v es ∧ goodEnts es n.toNat ∧ Drew w0 w w' g c := by
  have HL := hB.size
  have H1 := Aside0.mk hr1
  have HS := Aside0.mk hs
  have D := Aside0.mk (Drew.refl hI hB)
  clear hI hB hr1 hs
  go_enter Tryd.func35, Tryd.ntmps35
  have BF := Aside0.mk (blk_alloc (blk_new w (Obj.cells #[.slice A l.length cc, .int .i64 d, .int .i64 u] 26)) (Obj.cells #[.slice none 0 0, .int .i64 0] 29))
  have BR := Aside0.mk (show ((w.alloc (Obj.cells #[.slice A l.length cc, .int .i64 d, .int .i64 u] 26)).alloc (Obj.cells #[.slice none 0 0, .int .i64 0] 29)).heap[w.heap.size + 1]? = some (Obj.cells #[.slice none 0 0, .int .i64 0] 29) from by have := blk_new (w.alloc (Obj.cells #[.slice A l.length cc, .int .i64 d, .int .i64 u] 26)) (Obj.cells #[.slice none 0 0, .int .i64 0] 29); simpa using this)
  have NF : w.heap.size ≠ g := Nat.ne_of_gt D.out.cur.lt
  have NR : w.heap.size + 1 ≠ g := by have := D.out.cur.lt; omega
  have ne_BF_BR : w.heap.size ≠ w.heap.size + 1 := by omega
  have ge_BF : w.heap.size ≤ w.heap.size := Nat.le_refl _
  have ge_BR : w.heap.size ≤ w.heap.size + 1 := Nat.le_succ _
  replace D := Aside0.mk ((D.out.alloc (Obj.cells #[.slice A l.length cc, .int .i64 d, .int .i64 u] 26)).alloc (Obj.cells #[.slice none 0 0, .int .i64 0] 29))
  have zz : w.heap.size + 1 < ((w.alloc (Obj.cells #[.slice A l.length cc, .int .i64 d, .int .i64 u] 26)).alloc (Obj.cells #[.slice none 0 0, .int .i64 0] 29)).heap.size := by simp
  have SZ := Aside0.mk (show ((w.alloc (Obj.cells #[.slice A l.length cc, .int .i64 d, .int .i64 u] 26)).alloc (Obj.cells #[.slice none 0 0, .int .i64 0] 29)).heap.size = w.heap.size + 1 + 1 by simp)
  go_wp2_with fail
  generalize (w.alloc (Obj.cells #[.slice A l.length cc, .int .i64 d, .int .i64 u] 26)).alloc (Obj.cells #[.slice none 0 0, .int .i64 0] 29) = w1 at *
  have hb := below_alloc (Below.refl w1.heap.size w1) (Obj.cells #[.slice none 0 0, .int .i64 1] 29)
  have BL := Aside0.mk (show (w1.alloc (Obj.cells #[.slice none 0 0, .int .i64 1] 29)).heap[w.heap.size + 1 + 1]? = some (Obj.cells #[.slice none 0 0, .int .i64 1] 29) from by have := blk_new w1 (Obj.cells #[.slice none 0 0, .int .i64 1] 29); rw [SZ.out] at this; exact this)
  have NL : w.heap.size + 1 + 1 ≠ g := by have := D.out.cur.lt; have := SZ.out; omega
  have ge_BL : w.heap.size ≤ w.heap.size + 1 + 1 := by omega
  have ne_BF_BL : w.heap.size ≠ w.heap.size + 1 + 1 := by omega
  have ne_BR_BL : w.heap.size + 1 ≠ w.heap.size + 1 + 1 := by omega
  replace BF := Aside0.mk (blk_below BF.out hb)
  replace BR := Aside0.mk (blk_below BR.out hb)
  replace D := Aside0.mk (D.out.below hb)
  clear hb
  generalize w1.alloc (Obj.cells #[.slice none 0 0, .int .i64 1] 29) = w2 at *
  have RO := Aside0.mk (Kd.S_nil k35 35 w2 w.heap.size (fun _ => True))
  go_loopg [2] n.toNat (fun kq v2 W => ∃ (m : Int) (v : Value) (es : List Ent), v2 = .int .i64 m ∧ (kq = m.toNat ∧ m ≤ n) ∧ Aside0 (goodEnts es (n.toNat - m.toNat)) ∧ Aside0 (W.heap[w.heap.size]? = some (.cells #[.slice A l.length cc, .int .i64 d, .int .i64 u] 26 (0, 0))) ∧ Aside0 (W.heap[w.heap.size + 1]? = some (.cells #[.slice none 0 0, .int .i64 0] 29 (0, 0))) ∧ Aside0 (W.heap[w.heap.size + 1 + 1]? = some (.cells #[v, .int .i64 1] 29 (0, 0))) ∧ Aside0 (Kd.S k35 35 W w.heap.size (fun _ => True) v es) ∧ Aside0 (Drew w0 w W g c))
  case atStart => exact ⟨n, _, [], rfl, ⟨rfl, by omega⟩, ⟨by simp, fun x hx => by simp at hx⟩, BF, BR, BL, RO, D⟩
  case round =>
    clear BF BR BL RO D
    obtain ⟨m, v, es, rfl, ⟨hm, hmn⟩, HG, BF, BR, BL, RO, D⟩ := hrel
    obtain ⟨A5, c5, rfl⟩ := Kd.S_slice RO.out
    by_cases hm1 : m > 0
    case neg =>
      have y0 := (blk_cell BL.out 0).trans rfl
      have yz0 := blk_frozen BL.out 0
      have y1 := (blk_cell BL.out 1).trans rfl
      have yz1 := blk_frozen BL.out 1
      have z0 := (blk_cell BR.out 0).trans rfl
      have zz0 := blk_frozen BR.out 0
      have z1 := (blk_cell BR.out 1).trans rfl
      have zz1 := blk_frozen BR.out 1
      go_wp2_with fail
      refine (spec_HeadOf.to A5 c5 es _ (Kd.S_reads' RO.out).2.2 (Kd.S_reads' RO.out).2.1).mono ?_
      rintro x w3 ⟨rfl, hb⟩
      clear y0 y1 yz0 yz1 z0 z1 zz0 zz1
      replace BF := Aside0.mk (blk_below BF.out hb)
      replace BR := Aside0.mk (blk_below BR.out hb)
      replace BL := Aside0.mk (blk_below BL.out hb)
      replace RO := Aside0.mk (Kd.S_below RO.out hb)
      replace D := Aside0.mk (D.out.below hb)
      clear hb
      have y0 := (blk_cell BL.out 0).trans rfl
      have yz0 := blk_frozen BL.out 0
      have y1 := (blk_cell BL.out 1).trans rfl
      have yz1 := blk_frozen BL.out 1
      have z0 := (blk_cell BR.out 0).trans rfl
      have zz0 := blk_frozen BR.out 0
      have z1 := (blk_cell BR.out 1).trans rfl
      have zz1 := blk_frozen BR.out 1
      go_wp2_with fail
      have BR2 := blk2 (blk_far BR.out (p := ⟨w.heap.size + 1 + 1, 1, none⟩) ne_BR_BL (.int .i64 (headV es))) (.slice A5 es.length c5) (.int .i64 (headV es))
      have BL2 := blk_set BL.out 1 (.int .i64 (headV es))
      refine bodyPost_ret (results_c1 rfl _ _ (w.heap.size + 1) 29 #[.slice A5 es.length c5, .int .i64 (headV es)] (0, 0) _ rfl BR2 Tryd.underlying29 rfl (by kernel_rfl)) rfl ?_
      have hm0 : m.toNat = 0 := by omega
      have HS1 := Kd.S_set RO.out BL.out (by decide) 1 (.int .i64 (headV es))
      have HS2 := Kd.S_set HS1 (blk_far BR.out (p := ⟨w.heap.size + 1 + 1, 1, none⟩) ne_BR_BL (.int .i64 (headV es))) (by decide) 0 (.slice A5 es.length c5)
      have HS3 := Kd.S_set HS2 (blk_set (blk_far BR.out (p := ⟨w.heap.size + 1 + 1, 1, none⟩) ne_BR_BL (.int .i64 (headV es))) 0 (.slice A5 es.length c5)) (by decide) 1 (.int .i64 (headV es))
      exact ⟨_, es, _, rfl, HS3, (by have := HG.out; rw [hm0] at this; exact this), ((D.out.set HL (p := ⟨w.heap.size + 1 + 1, 1, none⟩) ge_BL NL _).set HL (p := ⟨w.heap.size + 1, 0, none⟩) ge_BR NR _).set HL (p := ⟨w.heap.size + 1, 1, none⟩) ge_BR NR _⟩
    obtain ⟨q, rfl⟩ : ∃ q, gk = q + 1 := ⟨gk - 1, by omega⟩
    have hlen := HG.out.1
    try go_wp2_with fail
    replace RO := Aside0.mk (Kd.S_drew RO.out)
    replace BF := Aside0.mk (blk_drew BF.out)
    replace BR := Aside0.mk (blk_drew BR.out)
    replace BL := Aside0.mk (blk_drew BL.out)
    replace D := Aside0.mk D.out.drew
    refine start_ (n := 9) (S := fun w' => w'.cell? ⟨w.heap.size + 1 + 1, 0, none⟩ = some (.slice A5 es.length c5) ∧ w'.cell? ⟨w.heap.size + 1 + 1, 1, none⟩ = some (.int .i64 1) ∧ w'.cell? ⟨w.heap.size, 0, none⟩ = some (.slice A l.length cc) ∧ w'.cell? ⟨w.heap.size, 1, none⟩ = some (.int .i64 d) ∧ w'.cell? ⟨w.heap.size, 2, none⟩ = some (.int .i64 u)) (ds := [8]) #[false, false, false, false, false, false, false, false, false] (by kernel_rfl) rfl rfl ⟨(blk_cell (BL.out) 0).trans rfl, (blk_cell (BL.out) 1).trans rfl, (blk_cell (BF.out) 0).trans rfl, (blk_cell (BF.out) 1).trans rfl, (blk_cell (BF.out) 2).trans rfl⟩ (fun hHeld => ?_)
    refine with_tabW spec_l5DrawLedger.tab4 spec_l5DrawLedger.bits4 (fun HT_ HW_ => ?_)
    generalize wr.drew = w14 at *
    refine pure_ (i := 0) (N := some 13) (v := ?_) (a' := ?_) #[true, false, false, false, false, false, false, false, false] rfl rfl (any_of HT_.out (by kernel_rfl)) (fun _ _ _ h => h) (Or.inl ⟨by rfl, ?_⟩) ?_ ?_
    rotate_left
    · intro w'
      go_simp
      with_reducible rfl
    rotate_left
    · simp only [Act.put, List.setIfInBounds_toArray, List.set_cons_zero, List.set_cons_succ, i64_w, i32_w]
      rfl
    refine pure_ (i := 2) (N := some 15) (v := ?_) (a' := ?_) #[true, false, true, false, false, false, false, false, false] rfl rfl (any_of HT_.out (by kernel_rfl)) (fun _ _ _ h => h) (Or.inl ⟨by rfl, ?_⟩) ?_ ?_
    rotate_left
    · intro w'
      go_simp
      with_reducible rfl
    rotate_left
    · simp only [Act.put, List.setIfInBounds_toArray, List.set_cons_zero, List.set_cons_succ, i64_w, i32_w]
      rfl
    refine take_ (i := 1) (N := some 14) (v := ?_) (a' := ?_) #[true, true, true, false, false, false, false, false, false] rfl rfl (take_ofW HT_.out HW_.out (by kernel_rfl)) (fun _ _ _ h => h) (Or.inl ⟨by rfl, ?_⟩) hHeld ?_ ?_
    rotate_left
    · rintro w' ⟨s0, s1, s2, s3, s4⟩
      go_simp
      with_reducible rfl
    rotate_left
    · simp only [Act.put, List.setIfInBounds_toArray, List.set_cons_zero, List.set_cons_succ, i64_w, i32_w]
      rfl
    refine take_ (i := 3) (N := some 16) (v := ?_) (a' := ?_) #[true, true, true, true, false, false, false, false, false] rfl rfl (take_ofW HT_.out HW_.out (by kernel_rfl)) (fun _ _ _ h => h) (Or.inl ⟨by rfl, ?_⟩) hHeld ?_ ?_
    rotate_left
    · rintro w' ⟨s0, s1, s2, s3, s4⟩
      go_simp
      with_reducible rfl
    rotate_left
    · simp only [Act.put, List.setIfInBounds_toArray, List.set_cons_zero, List.set_cons_succ, i64_w, i32_w]
      rfl
    refine one_ (i := 4) (N := some 17) #[true, true, true, true, true, false, false, false, false] rfl rfl (one_of HT_.out (by kernel_rfl)) (by decide) (fun K hK => ?_)
    refine goes_ Tryd.func15 (by kernel_rfl) rfl #[.pointer (some ⟨g, 0, none⟩), .agg #[.slice A l.length cc, .int .i64 d, .int .i64 u]] (by rfl) rfl rfl (by (try simp only [List.map_toArray, List.map_cons, List.map_nil]); first | done | rfl) ?_
    refine (spec_l5DrawEntry.e w0 _ g c A cc l d u D.out.cur D.out.bel hc (fun W' hk => H1.out _ (KeepBut.thenK D.out.keep hk)) HS.out hl0 hl1 hd hu).mono ?_
    rintro x w15 ⟨v, a, b, t, r, rfl, hR, hg, hD⟩
    refine ⟨_, rfl, ?_⟩
    have RE := Aside0.mk (Kd.R_lower hR D.out.size)
    replace RO := Aside0.mk (Kd.S_mono (Kd.S_told (Kd.S_oldK (D.out.cur.apartS RO.out (by decide)) hD.keep) (Kd.R_base hR)) (ok' := fun k => True ∧ some k ≠ v.ownBlock) (fun _ h_ => h_.1))
    replace BF := Aside0.mk (hD.blk BF.out NF)
    replace BR := Aside0.mk (hD.blk BR.out NR)
    replace BL := Aside0.mk (hD.blk BL.out NL)
    replace D := Aside0.mk (D.out.call hD)
    have hlr := hg.1
    have HGE := Aside0.mk hg
    clear hD hR hg
    obtain ⟨Ar, cr, er⟩ := Kd.R_slice RE.out
    subst er
    refine hK.out _ _ ⟨(blk_cell (BL.out) 0).trans rfl, (blk_cell (BL.out) 1).trans rfl, (blk_cell (BF.out) 0).trans rfl, (blk_cell (BF.out) 1).trans rfl, (blk_cell (BF.out) 2).trans rfl⟩ (fun hHeld => ?_)
    clear hK K
    refine norm_ (a' := ?_) ?_ ?_
    rotate_left
    · show Act.put _ (some 17) _ = _
      simp only [Act.put, List.setIfInBounds_toArray, List.set_cons_zero, List.set_cons_succ, i64_w, i32_w]
      rfl
    refine one_ (i := 5) (N := some 18) #[true, true, true, true, true, true, false, false, false] rfl rfl (one_of HT_.out (by kernel_rfl)) (by decide) (fun K hK => ?_)
    refine value_ (w1 := ?_) (v := ?_) (by rfl) rfl ?_ ?_
    rotate_left 2
    · go_simp
      constructor
      · rfl
      · rfl
    refine hK.out _ _ ⟨(blk_cell (blk_alloc BL.out _) 0).trans rfl, (blk_cell (blk_alloc BL.out _) 1).trans rfl, (blk_cell (blk_alloc BF.out _) 0).trans rfl, (blk_cell (blk_alloc BF.out _) 1).trans rfl, (blk_cell (blk_alloc BF.out _) 2).trans rfl⟩ (fun hHeld => ?_)
    clear hK K
    refine norm_ (a' := ?_) ?_ ?_
    rotate_left
    · show Act.put _ (some 18) _ = _
      simp only [Act.put, List.setIfInBounds_toArray, List.set_cons_zero, List.set_cons_succ, i64_w, i32_w]
      rfl
    refine one_ (i := 6) (N := some 19) #[true, true, true, true, true, true, true, false, false] rfl rfl (one_of HT_.out (by kernel_rfl)) (by decide) (fun K hK => ?_)
    refine Kd.S_append_step k35 w.heap.size (by rfl) (.tmp 14) (.tmp 18) 27 35 (.agg #[(.int .i64 0), (.int .i64 0), (.string ⟨#[]⟩), (.slice none 0 0)]) 56 rfl Tryd.underlying27 info35 rfl (by decide) (by omega) (.slice A5 es.length c5) es (⟨a, b, t, r⟩ : S35) [.int .i64 a, .int .i64 b, .string t, .slice Ar r.length cr] (fun _ => True) (fun k_ => some k_ = (.slice Ar r.length cr : Value).ownBlock) rfl rfl ?aP (fun k_ hk_ => ((Kd.R_mono (ok' := fun k_ => True ∧ some k_ ≠ (.slice A5 es.length c5 : Value).ownBlock) (Kd.R_apart' (RE.out) (Kd.S_typed RO.out) (by decide)) (fun k_ hk => ⟨trivial, hk.2⟩))).1 k_ hk_.symm) ?aF ?aO (Below.refl _ _) ?aS ?aL ?_
    (case aP => exact k35_mkM _ _ _ (⟨a, b, t, r⟩ : S35) (Kd.R_mono (Kd.R_tight rfl (Kd.R_mono (ok' := fun k_ => True ∧ some k_ ≠ (.slice A5 es.length c5 : Value).ownBlock) (Kd.R_apart' (RE.out) (Kd.S_typed RO.out) (by decide)) (fun k_ hk => ⟨trivial, hk.2⟩))) (fun _ h_ => h_)))
    (case aF => exact (fun _ _ => trivial))
    (case aO => exact Kd.S_mono RO.out (fun k_ hk => ⟨trivial, fun e_ => hk.2 e_⟩))
    (case aS => exact D.out.size)
    (case aL => omega)
    intro v1 w16 ho hb hg hat
    have HGN := Aside0.mk (goodEnts_snoc (e := ⟨a, b, t, r⟩) HG.out ⟨HGE.out.2, HGE.out.1⟩)
    generalize es ++ [(⟨a, b, t, r⟩ : S35)] = es1 at ho HGN
    have BF_ := Aside0.mk (blk_grown BF.out hg (Kd.S_ne RO.out BF.out (by decide)))
    have BR_ := Aside0.mk (blk_grown BR.out hg (Kd.S_ne RO.out BR.out (by decide)))
    have BL_ := Aside0.mk (blk_grown BL.out hg (Kd.S_ne RO.out BL.out (by decide)))
    have hng := D.out.cur.own_neS RO.out (by decide)
    replace D := Aside0.mk (D.out.grown HL hg (fun k hk => ⟨Kd.S_base RO.out k hk, fun e => hng (by rw [← e]; exact hk.symm)⟩))
    clear BF BR BL RO RE
    have BF := BF_
    have BR := BR_
    have BL := BL_
    clear BF_ BR_ BL_ hng
    have RO := Aside0.mk ho
    clear ho hb hg hat
    obtain ⟨A6, c6, e6⟩ := Kd.S_slice RO.out
    subst e6
    refine hK.out _ _ ⟨(blk_cell (BL.out) 0).trans rfl, (blk_cell (BL.out) 1).trans rfl, (blk_cell (BF.out) 0).trans rfl, (blk_cell (BF.out) 1).trans rfl, (blk_cell (BF.out) 2).trans rfl⟩ (fun hHeld => ?_)
    clear hK K
    refine norm_ (a' := ?_) ?_ ?_
    rotate_left
    · show Act.put _ (some 19) _ = _
      simp only [Act.put, List.setIfInBounds_toArray, List.set_cons_zero, List.set_cons_succ, i64_w, i32_w]
      rfl
    refine pure_ (i := 7) (N := some 20) (v := ?_) (a' := ?_) #[true, true, true, true, true, true, true, true, false] rfl rfl (any_of HT_.out (by kernel_rfl)) (fun _ _ _ h => h) (Or.inl ⟨by rfl, ?_⟩) ?_ ?_
    rotate_left
    · intro w'
      go_simp
      with_reducible rfl
    rotate_left
    · simp only [Act.put, List.setIfInBounds_toArray, List.set_cons_zero, List.set_cons_succ, i64_w, i32_w]
      rfl
    refine last_ (i := 8) (N := none) #[true, true, true, true, true, true, true, true, true] rfl rfl (one_of HT_.out (by kernel_rfl)) (by decide) (fun K hK => ?_)
    have y0 := (blk_cell BL.out 0).trans rfl
    have yz0 := blk_frozen BL.out 0
    refine skip_ (w1 := ?_) (by rfl) rfl ?_ ?_
    rotate_left
    · go_simp
      rfl
    refine hK.out _ _ ?_
    clear hK K
    refine done_ (done_of HT_.out (by kernel_rfl)) ?_
    try go_wp2
    go_roundg q
    case measure => omega
    case rel => exact ⟨m - 1, _, es1, by go_num, ⟨by omega, by omega⟩, ⟨by have := HGN.out; rw [show n.toNat - (m - 1).toNat = n.toNat - m.toNat + 1 by omega]; exact this⟩, ⟨blk_far BF.out ne_BF_BL _⟩, ⟨blk_far BR.out ne_BR_BL _⟩, ⟨blk_set BL.out 0 _⟩, ⟨Kd.S_set RO.out BL.out (by decide) 0 _⟩, ⟨D.out.set HL ge_BL NL _⟩⟩
def InL (x : Int) : Prop := -549755813888 ≤ x ∧ x ≤ 549755813887
theorem linkAll_good (xs : List Int) (h : ∀ x ∈ xs, InL x) : ∀ s : Int × Bool, (linkAll s xs).2 = s.2 := by
  induction xs with
  | nil => intro s; rfl
  | cons x xs ih =>
    intro s
    rw [linkAll_cons, ih (fun y hy => h y (List.mem_cons_of_mem _ hy))]
    unfold linkStep
    have hx := h x List.mem_cons_self
    unfold InL at hx
    rw [if_pos hx]
theorem bytesN_in (s : ByteArray) : ∀ n, ∀ x ∈ bytesN s n, InL x := by
  intro n
  induction n with
  | zero => intro x hx; simp [bytesN] at hx
  | succ n ih =>
    intro x hx
    simp only [bytesN, List.mem_append, List.mem_singleton] at hx
    rcases hx with hx | rfl
    · exact ih x hx
    · have := bt_range s n
      unfold InL
      omega
theorem nums_in {chart : List Acc} {d c : Int} {e : Ent} (hc : chart.length ≤ 1000) (hd : d ≤ 20) (hcu : c ≤ 20) (h : entryP chart d c e) : ∀ x ∈ numsOf e, InL x := by
  obtain ⟨h0, h1, h2, h3, _, h5, _⟩ := h
  intro x hx
  unfold numsOf at hx
  simp only [List.mem_append, List.mem_cons, List.not_mem_nil, or_false, List.mem_flatMap] at hx
  rcases hx with (((rfl | rfl | rfl) | hx) | rfl) | ⟨y, hy, hx⟩
  · unfold InL; omega
  · unfold InL; omega
  · unfold InL; omega
  · exact bytesN_in _ _ x hx
  · unfold InL; omega
  · obtain ⟨g0, g1, g2, g3, g4, _⟩ := h5 y hy
    unfold leafP at g0
    unfold lineNums at hx
    simp only [List.mem_cons, List.not_mem_nil, or_false] at hx
    unfold InL
    rcases hx with rfl | rfl | rfl | rfl | rfl <;> omega
theorem frame_len {chart : List Acc} {d c : Int} (h : frameB chart d c = true) : chart.length ≤ 120 ∧ (1 ≤ d ∧ d ≤ 20) ∧ (1 ≤ c ∧ c ≤ 20) := by
  obtain ⟨h0, h1, h2⟩ := frame_parts h
  have := (chartOk_iff.1 h0).2.1
  exact ⟨this, h1, h2⟩
theorem entries_in {chart : List Acc} {d c : Int} {l : List Ent} (hc : chart.length ≤ 1000) (hd : d ≤ 20) (hcu : c ≤ 20) (h : ∀ e ∈ l, entryP chart d c e) : ∀ x ∈ l.flatMap numsOf, InL x := by
  intro x hx
  obtain ⟨e, he, hx⟩ := List.mem_flatMap.1 hx
  exact nums_in hc hd hcu (h e he) x hx
theorem entry_short {chart : List Acc} {d c : Int} {e : Ent} (h : entryP chart d c e) : ¬ tooLong e := by
  obtain ⟨h0, h1, h2, h3, _⟩ := h
  unfold tooLong
  omega
theorem head_all {chart : List Acc} {d c : Int} {l : List Ent} (hf : frameB chart d c = true) (hl : l.length ≤ 1000) (h : ∀ e ∈ l, entryP chart d c e) : linkAll (1, false) (l.flatMap numsOf) = (headV l, false) := by
  obtain ⟨f0, f1, f2⟩ := frame_len hf
  have hg := linkAll_good _ (entries_in (by omega) f1.2 f2.2 h) (1, false)
  rw [headV_good (fun q => by rcases q with q | ⟨e, he, q⟩; (· omega); (· exact entry_short (h e he) q)) hg]
  exact Prod.ext rfl hg
theorem head_post {chart : List Acc} {d c : Int} {l : List Ent} {e : Ent} {h : Int} (hq : ledgerP chart d c l h) (hn : l.length ≤ 999) (he : entryP chart d c e) : linkAll (h, false) (numsOf e) = (headV (l ++ [e]), false) := by
  obtain ⟨hf, hl, ha, rfl⟩ := hq
  have h2 := head_all hf (l := l ++ [e]) (by rw [List.length_append]; simp; omega) (fun x hx => by
    rcases List.mem_append.1 hx with hx | hx
    · exact ha x hx
    · rw [List.mem_singleton.1 hx]; exact he)
  rw [← h2, List.flatMap_append, linkAll_append, head_all hf hl ha]
  simp
theorem head_in {chart : List Acc} {d c : Int} {l : List Ent} {h : Int} (hq : ledgerP chart d c l h) : HeadIn (h, false) := by
  obtain ⟨hf, hl, ha, rfl⟩ := hq
  rw [← head_all hf hl ha]
  exact linkAll_in headIn_one _
open Classical in
noncomputable def postR (m0 : List Acc) (d c : Int) (m1 : List Ent) (h : Int) (e : Ent) : List Ent × Int × Int :=
  if ledgerB m0 d c m1 h = true then (if entryB m0 d c e = true then (if m1.length = 1000 then (m1, h, 3) else (m1 ++ [e], headV (m1 ++ [e]), 0)) else (m1, h, 2)) else ([], 0, 1)
end Go.Proofs.YtjkjjfbcakbmnaaDoor.Q
namespace Go.Proofs.YtjkjjfbcakbmnaaDoor.Q
open Go.RowKit Go.Proofs.YtjkjjfbcakbmnaaDoorW.PrintWords Go.Proofs.YtjkjjfbcakbmnaaDoorW.PrintLast Go.Proofs.YtjkjjfbcakbmnaaDoorW.PrintMore
attribute [local go_sem] max2_int min2_int max_two min_two max_three min_three max_four min_four   -- for this text's walks alone
set_option linter.unusedVariables false
set_option linter.unusedSimpArgs false
set_option maxHeartbeats 16000000 in
set_option maxRecDepth 100000 in
theorem impl_BooksOk.to (A0 : Option Addr) (c0 : Nat) (l0 : List Acc) (dims curs : Int) (A1 : Option Addr) (c1 : Nat) (l1 : List Ent) (h : Int) (A2 : Option Addr) (c2 : Nat) (l2 : List Per) (closed kept : Int) (w : World) (hr0 : Kd.C k64 w A0 l0.length l0) (hs : ∀ x ∈ l0, x.f0.size ≤ maxLen) (hr1 : Kd.C k35 w A1 l1.length l1) (hm : ∀ e ∈ l1, e.f2.size ≤ maxLen) (hr2 : Kd.C k66 w A2 l2.length l2) :
    Calls Tryd.prog 9 #[.agg #[.slice A0 l0.length c0, .int .i64 dims, .int .i64 curs, .slice A1 l1.length c1, .int .i64 h, .slice A2 l2.length c2, .int .i64 closed, .int .i64 kept]] w fun x w' => x = .returned (.bool (booksB l0 dims curs l1 h l2 closed kept)) ∧ Below w.heap.size w w' := by
  have hl0 := hr0.2.1
  have hl2 := hr2.2.1
  have H0 := Aside0.mk hr0
  have H1 := Aside0.mk hr1
  have H2 := Aside0.mk hr2
  have HS := Aside0.mk hs
  have HM := Aside0.mk hm
  have HB0 := Aside0.mk (below_alloc (Below.refl w.heap.size w) (.cells #[.slice A0 l0.length c0, .int .i64 dims, .int .i64 curs, .slice A1 l1.length c1, .int .i64 h, .slice A2 l2.length c2, .int .i64 closed, .int .i64 kept] 32))
  clear hr0 hr1 hr2 hs hm
  go_enter Tryd.func9, Tryd.ntmps9
  go_wp2_with fail
  refine (impl_LedgerOk.to A0 c0 l0 dims curs A1 c1 l1 h _ (Kd.C_below H0.out HB0.out) HS.out (Kd.C_below H1.out HB0.out) HM.out).mono ?_
  rintro x w1 ⟨rfl, hb⟩
  have HB := Aside0.mk (below_into (w := w) hb HB0.out)
  have f0 : w1.cell? ⟨w.heap.size, 0, none⟩ = some (.slice A0 l0.length c0) := pw_cell_below hb (by go_simp)
  have f5 : w1.cell? ⟨w.heap.size, 5, none⟩ = some (.slice A2 l2.length c2) := pw_cell_below hb (by go_simp)
  have f6 : w1.cell? ⟨w.heap.size, 6, none⟩ = some (.int .i64 closed) := pw_cell_below hb (by go_simp)
  have f7 : w1.cell? ⟨w.heap.size, 7, none⟩ = some (.int .i64 kept) := pw_cell_below hb (by go_simp)
  clear hb
  cases q1 : ledgerB l0 dims curs l1 h with
  | false =>
    have HN := Aside0.mk (booksB_not (fun q => by have := ledgerB_true.2 q.1; rw [q1] at this; cases this) : false = booksB l0 dims curs l1 h l2 closed kept)
    clear q1
    go_wp2_with fail
    go_ret
    exact ⟨ret_bool HN.out, HB.out⟩
  | true =>
    have HL := Aside0.mk (ledgerB_true.1 q1)
    clear q1
    by_cases n1 : l2.length < 1
    case pos =>
      have HN := Aside0.mk (booksB_not (fun q => by have := q.2.1.1; omega) : false = booksB l0 dims curs l1 h l2 closed kept)
      go_wp2_with fail
      go_ret
      exact ⟨ret_bool HN.out, HB.out⟩
    by_cases n2 : 60 < l2.length
    case pos =>
      have HN := Aside0.mk (booksB_not (fun q => by have := q.2.1.1; omega) : false = booksB l0 dims curs l1 h l2 closed kept)
      go_wp2_with fail
      go_ret
      exact ⟨ret_bool HN.out, HB.out⟩
    go_wp2_with fail
    refine (impl_between.to _ _ _ _).mono ?_
    rintro x w' ⟨rfl, rfl⟩
    cases q3 : inB closed 0 (l2.length : Int) with
    | false =>
      have HN := Aside0.mk (booksB_not (fun q => inB_false.1 q3 q.2.2.1) : false = booksB l0 dims curs l1 h l2 closed kept)
      clear q3
      go_wp2_with fail
      go_ret
      exact ⟨ret_bool HN.out, HB.out⟩
    | true =>
      have HCL := Aside0.mk (inB_true.1 q3)
      have HB1 := Aside0.mk (Below.refl w'.heap.size w')
      have F0 := Aside0.mk f0
      have F5 := Aside0.mk f5
      have F7 := Aside0.mk f7
      clear q3
      go_wp2_with fail
      clear f0 f5 f6 f7
      go_loopw [35] (fun v wr => ∃ i : Int, 0 ≤ i ∧ i ≤ (l2.length : Int) ∧ v = .int .i64 i ∧ Aside0 (Below w'.heap.size w' wr) ∧ Aside0 (∀ j : Int, 0 ≤ j → j < i → perOk l2 j)) (fun v _ => (l2.length - (intOf v).toNat))
      case atStart => exact ⟨0, by omega, by omega, rfl, HB1, ⟨fun j h0 h1 => by omega⟩⟩
      case round =>
        clear HB1
        obtain ⟨i, hi0, hi1, rfl, HB1, HO⟩ := hrel
        have f0 := pw_cell_below HB1.out F0.out
        have f5 := pw_cell_below HB1.out F5.out
        have f7 := pw_cell_below HB1.out F7.out
        have HBW := Aside0.mk (below_into HB1.out HB.out)
        have hz0 := World.block_lt_of_cell? _ _ f0
        by_cases hlt : i < (l2.length : Int)
        · obtain ⟨ad, e0, x0, x1⟩ := at_T66 (Kd.C_below H2.out HBW.out) i hi0 hlt
          cases e0
          have HNO := Aside0.mk (fun (q : ¬ perOk l2 i) => (booksB_not (fun y => q (y.2.1.2 i hi0 hlt)) : false = booksB l0 dims curs l1 h l2 closed kept))
          have HBX := Aside0.mk (below_alloc HBW.out (.cells #[.int .i64 (rd_T66 l2 i).f0, .int .i64 (rd_T66 l2 i).f1] 66))
          have HBY := Aside0.mk (HB1.out.alloc HB1.out.size (.cells #[.int .i64 (rd_T66 l2 i).f0, .int .i64 (rd_T66 l2 i).f1] 66))
          generalize hp0 : (rd_T66 l2 i).f0 = p0 at *
          generalize hp1 : (rd_T66 l2 i).f1 = p1 at *
          have HP0 := Aside0.mk hp0
          have HP1 := Aside0.mk hp1
          clear hp0 hp1
          cases h1 : inB p0 0 40000 with
          | false =>
            have C1 := Aside0.mk (fun W => (h1 ▸ impl_isDay.to p0 W : Calls Tryd.prog 30 #[.int .i64 p0] W fun e w' => e = .returned (.bool false) ∧ w' = W))
            have HN := Aside0.mk (HNO.out (fun q => inB_false.1 h1 (HP0.out ▸ q.1)))
            clear h1
            go_wp2_with fail
            go_quiet ((go_at_call 30; exact Calls.quiet_of_same (C1.out _)))
            go_wp2_with fail
            go_ret
            exact ⟨ret_bool HN.out, pw_below_drewN HBX.out _⟩
          | true =>
            have C1 := Aside0.mk (fun W => (h1 ▸ impl_isDay.to p0 W : Calls Tryd.prog 30 #[.int .i64 p0] W fun e w' => e = .returned (.bool true) ∧ w' = W))
            obtain ⟨a0, a1⟩ := inB_true.1 h1
            clear h1
            cases h2 : inB p1 0 40000 with
            | false =>
              have C2 := Aside0.mk (fun W => (h2 ▸ impl_isDay.to p1 W : Calls Tryd.prog 30 #[.int .i64 p1] W fun e w' => e = .returned (.bool false) ∧ w' = W))
              have HN := Aside0.mk (HNO.out (fun q => inB_false.1 h2 (HP1.out ▸ q.2.1)))
              clear h2
              go_wp2_with fail
              go_quiet ((go_at_call 30; (first | exact Calls.quiet_of_same (C1.out _) | exact Calls.quiet_of_same (C2.out _))))
              go_wp2_with fail
              go_ret
              exact ⟨ret_bool HN.out, pw_below_drewN HBX.out _⟩
            | true =>
              have C2 := Aside0.mk (fun W => (h2 ▸ impl_isDay.to p1 W : Calls Tryd.prog 30 #[.int .i64 p1] W fun e w' => e = .returned (.bool true) ∧ w' = W))
              obtain ⟨b0, b1⟩ := inB_true.1 h2
              clear h2
              by_cases h3 : p1 < p0
              · have HN := Aside0.mk (HNO.out (fun q => by have := q.2.2.1; rw [HP0.out, HP1.out] at this; omega))
                have h3b : decide (p1 < p0) = true := decide_eq_true h3
                go_wp2_with fail
                go_quiet ((go_at_call 30; (first | exact Calls.quiet_of_same (C1.out _) | exact Calls.quiet_of_same (C2.out _))))
                go_wp2_with fail
                go_ret
                exact ⟨ret_bool HN.out, pw_below_drewN HBX.out _⟩
              · have h3b : decide (p1 < p0) = false := decide_eq_false h3
                by_cases h4 : 0 < i
                · obtain ⟨j, hj⟩ : ∃ j : Int, j = i - 1 := ⟨_, rfl⟩
                  have hj0 : 0 ≤ j := by omega
                  have hj1 : j < (l2.length : Int) := by omega
                  have hwr : IntKind.i64.wrap (i - 1) = j := by unfold IntKind.wrap; simp [IntKind.bits]; omega
                  obtain ⟨bd, e1, y0, y1⟩ := at_T66 (Kd.C_below H2.out HBW.out) j hj0 hj1
                  obtain rfl : ad = bd := by injection e1
                  have hz1 := World.block_lt_of_cell? _ _ y1
                  obtain ⟨m0, m1⟩ := (HO.out j hj0 (by omega)).2.1
                  have HJ := Aside0.mk hj
                  clear hj
                  generalize hq1 : (rd_T66 l2 j).f1 = q1 at *
                  have HQ1 := Aside0.mk hq1
                  clear hq1
                  have hwr2 : IntKind.i64.wrap (q1 + 1) = q1 + 1 := by unfold IntKind.wrap; simp [IntKind.bits]; omega
                  have h4b : decide (0 < i) = true := decide_eq_true h4
                  by_cases h7 : p0 = q1 + 1
                  · have h7b : (p0 != q1 + 1) = false := by rw [h7]; exact bne_self_eq_false' _
                    have HO2 := Aside0.mk (per_step HO.out (show perOk l2 i from ⟨by rw [HP0.out]; exact ⟨a0, a1⟩, by rw [HP1.out]; exact ⟨b0, b1⟩, by rw [HP0.out, HP1.out]; omega, fun q => by rw [HP0.out, ← HJ.out, HQ1.out]; exact h7⟩))
                    clear h7
                    go_wp2_with fail
                    go_quiet ((go_at_call 30; (first | exact Calls.quiet_of_same (C1.out _) | exact Calls.quiet_of_same (C2.out _))))
                    clear hwr hwr2
                    go_wp2_with fail
                    go_roundw
                    case rel => exact ⟨i + 1, by omega, by omega, rfl, ⟨pw_below_drewN HBY.out _⟩, HO2⟩
                    case measure => simp [intOf]; omega
                  · have h7b : (p0 != q1 + 1) = true := bne_iff_ne.2 h7
                    have HN := Aside0.mk (HNO.out (fun q => by have := q.2.2.2 h4; rw [HP0.out, ← HJ.out, HQ1.out] at this; exact h7 this))
                    clear h7
                    go_wp2_with fail
                    go_quiet ((go_at_call 30; (first | exact Calls.quiet_of_same (C1.out _) | exact Calls.quiet_of_same (C2.out _))))
                    clear hwr hwr2
                    go_wp2_with fail
                    go_ret
                    exact ⟨ret_bool HN.out, pw_below_drewN HBX.out _⟩
                · have h4b : decide (0 < i) = false := decide_eq_false h4
                  have HO2 := Aside0.mk (per_step HO.out (show perOk l2 i from ⟨by rw [HP0.out]; exact ⟨a0, a1⟩, by rw [HP1.out]; exact ⟨b0, b1⟩, by rw [HP0.out, HP1.out]; omega, fun q => absurd q h4⟩))
                  go_wp2_with fail
                  go_quiet ((go_at_call 30; (first | exact Calls.quiet_of_same (C1.out _) | exact Calls.quiet_of_same (C2.out _))))
                  go_wp2_with fail
                  go_roundw
                  case rel => exact ⟨i + 1, by omega, by omega, rfl, ⟨pw_below_drewN HBY.out _⟩, HO2⟩
                  case measure => simp [intOf]; omega
        · have HY := Aside0.mk (show yearP l2 from ⟨by omega, fun j h0 h1 => HO.out j h0 (by omega)⟩)
          clear f5
          cases q4 : leafB l0 kept with
          | false =>
            have HN := Aside0.mk (booksB_not (fun q => by have := leafB_of q.2.2.2.1; rw [q4] at this; cases this) : false = booksB l0 dims curs l1 h l2 closed kept)
            have C1 := Aside0.mk (fun W (hW : Kd.C k64 W A0 l0.length l0) => (q4 ▸ impl_leafAt.to A0 c0 l0 kept W hW : Calls Tryd.prog 31 #[.slice A0 l0.length c0, .int .i64 kept] W fun e w' => e = .returned (.bool false) ∧ w' = W))
            have HC := Aside0.mk (Kd.C_below H0.out HBW.out)
            clear q4
            go_wp2_with fail
            (refine (C1.out _ HC.out).mono ?_; rintro x w6 ⟨rfl, rfl⟩)
            go_wp2_with fail
            go_ret
            exact ⟨ret_bool HN.out, HBW.out⟩
          | true =>
            have hlf := leafB_true.1 q4
            have HLF := Aside0.mk hlf
            obtain ⟨k0, k1, _⟩ := hlf
            have C1 := Aside0.mk (fun W (hW : Kd.C k64 W A0 l0.length l0) => (q4 ▸ impl_leafAt.to A0 c0 l0 kept W hW : Calls Tryd.prog 31 #[.slice A0 l0.length c0, .int .i64 kept] W fun e w' => e = .returned (.bool true) ∧ w' = W))
            have HC := Aside0.mk (Kd.C_below H0.out HBW.out)
            clear q4
            obtain ⟨ad, e0, x0, x1, x2⟩ := at_T64 HC.out kept k0 k1
            cases e0
            by_cases q5 : (rd_T64 l0 kept).f2 = 3
            · have q5b : ((rd_T64 l0 kept).f2 == 3) = true := beq_iff_eq.2 q5
              have HBK := Aside0.mk (booksB_true.2 (show booksP l0 dims curs l1 h l2 closed kept from ⟨HL.out, HY.out, HCL.out, HLF.out, q5⟩))
              clear q5
              go_wp2_with fail
              (refine (C1.out _ HC.out).mono ?_; rintro x w6 ⟨rfl, rfl⟩)
              go_wp2_with fail
              go_ret
              exact ⟨ret_bool HBK.out.symm, HBW.out⟩
            · have q5b : ((rd_T64 l0 kept).f2 == 3) = false := beq_eq_false_iff_ne.2 q5
              have HN := Aside0.mk (booksB_not (fun q => q5 q.2.2.2.2) : false = booksB l0 dims curs l1 h l2 closed kept)
              clear q5
              go_wp2_with fail
              (refine (C1.out _ HC.out).mono ?_; rintro x w6 ⟨rfl, rfl⟩)
              go_wp2_with fail
              go_ret
              exact ⟨ret_bool HN.out, HBW.out⟩
end Go.Proofs.YtjkjjfbcakbmnaaDoor.Q
