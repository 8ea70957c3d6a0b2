/- Parts of the proof: what functions of the program and of the reference answer.
   No condition. -/
import Derived.Test.YtjkjjfbcakbmnaaDoorZBooksShut1
import Derived.Test.YtjkjjfbcakbmnaaDoorZBooksShut8
import Derived.Test.YtjkjjfbcakbmnaaDoorZBooksShut7
import Derived.Test.YtjkjjfbcakbmnaaDoorZBooksShut16
import Derived.Test.YtjkjjfbcakbmnaaDoorZBooksShut9
import Derived.Test.YtjkjjfbcakbmnaaDoorZBooksShut14
import Derived.Test.YtjkjjfbcakbmnaaDoorZBooksShut18
import Derived.Test.YtjkjjfbcakbmnaaDoorZBooksShut21
namespace Go.Proofs.YtjkjjfbcakbmnaaDoor.Q
open Go.RowKit Go.Proofs.YtjkjjfbcakbmnaaDoorW.PrintWords Go.Proofs.YtjkjjfbcakbmnaaDoorW.PrintLast Go.Proofs.YtjkjjfbcakbmnaaDoorW.PrintMore
set_option linter.unusedVariables false
set_option linter.unusedSimpArgs false
noncomputable def perChk (kd f n : Int) : Bool := match spec_Periods.f 120 kd f n with
  | some ps => decide (1 ≤ ps.length ∧ ps.length ≤ 13)
  | none => false
theorem per_all : ([1, 2, 3].all fun kd => [0, 31].all fun f => [1, 2, 3, 4, 5, 6, 7, 8, 9, 10, 11, 12, 13].all fun n => perChk kd f n) = true := by decide +kernel
theorem per_at {kd f n : Int} (h1 : 1 ≤ kd ∧ kd ≤ 3) (h2 : f = 0 ∨ f = 31) (h3 : 1 ≤ n ∧ n ≤ 13) : ∃ ps, spec_Periods.f 120 kd f n = some ps ∧ 1 ≤ ps.length ∧ ps.length ≤ 13 := by
  have h := per_all
  rw [List.all_eq_true] at h
  have ha := h kd (by simp; omega)
  rw [List.all_eq_true] at ha
  have hb := ha f (by simp; omega)
  rw [List.all_eq_true] at hb
  have hc := hb n (by simp; omega)
  unfold perChk at hc
  cases hq : spec_Periods.f 120 kd f n with
  | none => rw [hq] at hc; cases hc
  | some ps => rw [hq] at hc; exact ⟨ps, rfl, of_decide_eq_true hc⟩
theorem spec_Periods.e (kd f n : Int) (w : World) (h1 : 1 ≤ kd ∧ kd ≤ 3) (h2 : f = 0 ∨ f = 31) (h3 : 1 ≤ n ∧ n ≤ 13) :
    Calls Tryd.prog 36 #[.int .i64 kd, .int .i64 f, .int .i64 n] w fun e w' => ∃ (v : Value) (ps : List Per), e = .returned v ∧ Kd.R k66 66 w' w.heap.size (fun _ => True) v ps ∧ (1 ≤ ps.length ∧ ps.length ≤ 13) ∧ Below w.heap.size w w' := by
  obtain ⟨ps, e, hp⟩ := per_at h1 h2 h3
  refine (spec_Periods.calls 120 kd f n ps w e).mono ?_
  rintro e w' ⟨v, he, hR, hb⟩
  exact ⟨v, ps, he, hR, hp, hb⟩
theorem chart_two {l : List Acc} (h : goodChart l ∧ 3 ≤ l.length) : ((l ++ [(⟨(⟨#[107, 101, 112, 116]⟩ : ByteArray), (-1), 3⟩ : S64), (⟨(⟨#[101, 97, 114, 110, 101, 100]⟩ : ByteArray), (-1), 4⟩ : S64)]).length ≤ 20 ∧ ∀ x ∈ l ++ [(⟨(⟨#[107, 101, 112, 116]⟩ : ByteArray), (-1), 3⟩ : S64), (⟨(⟨#[101, 97, 114, 110, 101, 100]⟩ : ByteArray), (-1), 4⟩ : S64)], x.f0.size ≤ 100) ∧ 3 ≤ (l ++ [(⟨(⟨#[107, 101, 112, 116]⟩ : ByteArray), (-1), 3⟩ : S64), (⟨(⟨#[101, 97, 114, 110, 101, 100]⟩ : ByteArray), (-1), 4⟩ : S64)]).length := by
  obtain ⟨⟨h1, h2, _⟩, h3⟩ := h
  refine ⟨⟨by simp; omega, fun x hx => ?_⟩, by simp; omega⟩
  rcases List.mem_append.1 hx with hx | hx
  · exact h2 x hx
  · rcases List.mem_cons.1 hx with rfl | hx
    · decide
    · obtain rfl := List.mem_singleton.1 hx
      decide
theorem wrapk {x : Int} (h0 : 0 ≤ x) (h1 : x ≤ 1) : IntKind.i64.wrap (31 * x) = 0 ∨ IntKind.i64.wrap (31 * x) = 31 := by
  rcases (show x = 0 ∨ x = 1 by omega) with rfl | rfl
  · exact .inl (by decide)
  · exact .inr (by decide)
section
variable {α : Type} {dd : Kd α} {e base g t : Nat} {W : World} {ok : Nat → Prop} {v : Value} {xs : List α} {cells : Array Value}
theorem put8_blk {z0 z1 z2 z3 z4 z5 z6 z7 : Value} (h : W.heap[g]? = some (.cells #[z0, z1, z2, z3, z4, z5, z6, z7] t (0, 0))) (u0 u1 u2 u3 u4 u5 u6 u7 : Value) : ((((((((W.setCell ⟨g, 0, none⟩ u0).setCell ⟨g, 1, none⟩ u1).setCell ⟨g, 2, none⟩ u2).setCell ⟨g, 3, none⟩ u3).setCell ⟨g, 4, none⟩ u4).setCell ⟨g, 5, none⟩ u5).setCell ⟨g, 6, none⟩ u6).setCell ⟨g, 7, none⟩ u7).heap[g]? = some (.cells #[u0, u1, u2, u3, u4, u5, u6, u7] t (0, 0)) := by
  refine blk_put (cs := #[u0, u1, u2, u3, u4, u5, u6, z7]) ?_ 7 _ rfl
  refine blk_put (cs := #[u0, u1, u2, u3, u4, u5, z6, z7]) ?_ 6 _ rfl
  refine blk_put (cs := #[u0, u1, u2, u3, u4, z5, z6, z7]) ?_ 5 _ rfl
  refine blk_put (cs := #[u0, u1, u2, u3, z4, z5, z6, z7]) ?_ 4 _ rfl
  refine blk_put (cs := #[u0, u1, u2, z3, z4, z5, z6, z7]) ?_ 3 _ rfl
  refine blk_put (cs := #[u0, u1, z2, z3, z4, z5, z6, z7]) ?_ 2 _ rfl
  refine blk_put (cs := #[u0, z1, z2, z3, z4, z5, z6, z7]) ?_ 1 _ rfl
  refine blk_put (cs := #[z0, z1, z2, z3, z4, z5, z6, z7]) ?_ 0 _ rfl
  exact h
theorem put8_far {b : Nat} {o : Obj} (h : W.heap[b]? = some o) (hne : b ≠ g) (u0 u1 u2 u3 u4 u5 u6 u7 : Value) : ((((((((W.setCell ⟨g, 0, none⟩ u0).setCell ⟨g, 1, none⟩ u1).setCell ⟨g, 2, none⟩ u2).setCell ⟨g, 3, none⟩ u3).setCell ⟨g, 4, none⟩ u4).setCell ⟨g, 5, none⟩ u5).setCell ⟨g, 6, none⟩ u6).setCell ⟨g, 7, none⟩ u7).heap[b]? = some o := by
  repeat refine (Below.heap_setCell _ _ _ _ hne).trans ?_
  exact h
theorem put8_R (h : dd.R e W base ok v xs) (hb : W.heap[g]? = some (.cells cells t (0, 0))) (ht : ∀ q, q ∈ e :: dd.E → q ≠ t) (u0 u1 u2 u3 u4 u5 u6 u7 : Value) : dd.R e ((((((((W.setCell ⟨g, 0, none⟩ u0).setCell ⟨g, 1, none⟩ u1).setCell ⟨g, 2, none⟩ u2).setCell ⟨g, 3, none⟩ u3).setCell ⟨g, 4, none⟩ u4).setCell ⟨g, 5, none⟩ u5).setCell ⟨g, 6, none⟩ u6).setCell ⟨g, 7, none⟩ u7) base ok v xs := by
  refine Kd.R_mono (ok := fun k => ok k ∧ k ≠ g) ?_ (fun _ hk => hk.1)
  repeat refine Kd.R_far ?_ (fun _ hk => hk.2) _
  exact Kd.R_types h hb ht
theorem put8_S (h : Kd.S dd e W base ok v xs) (hb : W.heap[g]? = some (.cells cells t (0, 0))) (ht : ∀ q, q ∈ e :: dd.E → q ≠ t) (u0 u1 u2 u3 u4 u5 u6 u7 : Value) : Kd.S dd e ((((((((W.setCell ⟨g, 0, none⟩ u0).setCell ⟨g, 1, none⟩ u1).setCell ⟨g, 2, none⟩ u2).setCell ⟨g, 3, none⟩ u3).setCell ⟨g, 4, none⟩ u4).setCell ⟨g, 5, none⟩ u5).setCell ⟨g, 6, none⟩ u6).setCell ⟨g, 7, none⟩ u7) base ok v xs := by
  refine Kd.S_mono (ok := fun k => ok k ∧ k ≠ g) ?_ (fun _ hk => hk.1)
  repeat refine Kd.S_far ?_ (fun _ hk => hk.2) _
  exact Kd.S_types h hb ht
theorem put8_D {w0 w : World} {gg : Nat} {c : List Int} (h : Drew w0 w W gg c) (hl : w0.heap.size ≤ w.heap.size) (hp : w.heap.size ≤ g) (hne : g ≠ gg) (u0 u1 u2 u3 u4 u5 u6 u7 : Value) : Drew w0 w ((((((((W.setCell ⟨g, 0, none⟩ u0).setCell ⟨g, 1, none⟩ u1).setCell ⟨g, 2, none⟩ u2).setCell ⟨g, 3, none⟩ u3).setCell ⟨g, 4, none⟩ u4).setCell ⟨g, 5, none⟩ u5).setCell ⟨g, 6, none⟩ u6).setCell ⟨g, 7, none⟩ u7) gg c := by
  repeat refine Drew.set ?_ hl hp hne _
  exact h
end
def goodB (ch : List Acc) (es : List Ent) (ps : List Per) : Prop := (ch.length ≤ 20 ∧ ∀ x ∈ ch, x.f0.size ≤ 100) ∧ goodEnts es 100 ∧ ps.length ≤ 20
theorem goodEnts_le {es : List Ent} {n m : Nat} (h : goodEnts es n) (hn : n ≤ m) : goodEnts es m := ⟨Nat.le_trans h.1 hn, h.2⟩
set_option maxHeartbeats 8000000 in
set_option maxRecDepth 100000 in
theorem spec_l6DrawBooks.e2 (w0 w : World) (g : Nat) (c : List Int) (n : Int) (hI : Cur w0 w g c) (hB : Below w0.heap.size w0 w) (hc : c.length ≤ 1048576) (hn : n ≤ 100) :
    Calls Tryd.prog 13 #[.pointer (some ⟨g, 0, none⟩), .int .i64 n] w fun e w' => ∃ (v0 v3 v5 : Value) (ch : List Acc) (d u : Int) (es : List Ent) (h : Int) (ps : List Per) (cl kp : Int), e = .returned (.agg #[v0, .int .i64 d, .int .i64 u, v3, .int .i64 h, v5, .int .i64 cl, .int .i64 kp]) ∧ Kd.R k64 64 w' w.heap.size (fun _ => True) v0 ch ∧ Kd.S k35 35 w' w.heap.size (fun _ => True) v3 es ∧ Kd.R k66 66 w' w.heap.size (fun _ => True) v5 ps ∧ (goodB ch es ps ∧ 1 ≤ ps.length ∧ 3 ≤ ch.length) ∧ ((1 ≤ d ∧ d ≤ 3) ∧ (1 ≤ u ∧ u ≤ 3)) ∧ Drew w0 w w' g c := by
  have HL := hB.size
  have D := Aside0.mk ((Drew.refl hI hB).alloc (.cells #[.slice none 0 0, .int .i64 0, .int .i64 0, .slice none 0 0, .int .i64 0, .slice none 0 0, .int .i64 0, .int .i64 0] 32))
  have BR := Aside0.mk (blk_new w (.cells #[.slice none 0 0, .int .i64 0, .int .i64 0, .slice none 0 0, .int .i64 0, .slice none 0 0, .int .i64 0, .int .i64 0] 32))
  have NR : w.heap.size ≠ g := Nat.ne_of_gt hI.lt
  have ge_BR : w.heap.size ≤ w.heap.size := Nat.le_refl _
  have hz : w.heap.size < (w.alloc (.cells #[.slice none 0 0, .int .i64 0, .int .i64 0, .slice none 0 0, .int .i64 0, .slice none 0 0, .int .i64 0, .int .i64 0] 32)).heap.size := by simp
  clear hI hB
  go_enter Tryd.func13, Tryd.ntmps13
  go_wp2_with fail
  generalize w.alloc (Obj.cells #[.slice none 0 0, .int .i64 0, .int .i64 0, .slice none 0 0, .int .i64 0, .slice none 0 0, .int .i64 0, .int .i64 0] 32) = w1 at *
  refine (spec_l5DrawFrame.e w0 _ g c D.out.cur D.out.bel hc).mono ?_
  rintro x w2 ⟨v, l, d, u, rfl, hR, hg, ⟨hd, hu⟩, hD⟩
  obtain ⟨A, cc, rfl⟩ := Kd.R_slice hR
  replace BR := Aside0.mk (hD.blk BR.out NR)
  replace D := Aside0.mk (D.out.call hD)
  have RC := Aside0.mk (Kd.R_lower (Kd.R_mono (hD.cur.apart hR (by decide)) (ok' := fun k => k ≠ g) (fun k hk => hk.2)) (Nat.le_of_lt hz))
  have HG := Aside0.mk hg
  have hll := hg.1.1
  clear hD hR hg
  have hb := below_alloc (Below.refl w2.heap.size w2) (Obj.cells #[.slice A l.length cc, .int .i64 d, .int .i64 u] 26)
  have BF := Aside0.mk (blk_new w2 (Obj.cells #[.slice A l.length cc, .int .i64 d, .int .i64 u] 26))
  have NF := Nat.ne_of_gt D.out.cur.lt
  have ge_BF := D.out.size
  have ne_BR_BF := Nat.ne_of_lt (blk_lt BR.out)
  replace BR := Aside0.mk (blk_below BR.out hb)
  replace RC := Aside0.mk (Kd.R_below RC.out hb)
  replace D := Aside0.mk (D.out.below hb)
  have zz_BF : w2.heap.size < (w2.alloc (Obj.cells #[.slice A l.length cc, .int .i64 d, .int .i64 u] 26)).heap.size := by simp
  clear hb
  go_upto_region 2 with fail
  generalize w2.alloc (Obj.cells #[.slice A l.length cc, .int .i64 d, .int .i64 u] 26) = w3 at *
  have y0 := (blk_cell BF.out 0).trans rfl
  have yz0 := blk_frozen BF.out 0
  have y1 := (blk_cell BF.out 1).trans rfl
  have yz1 := blk_frozen BF.out 1
  have y2 := (blk_cell BF.out 2).trans rfl
  have yz2 := blk_frozen BF.out 2
  go_upto_region 3 with (first | ((with_reducible refine gate_dst (N := 13) rfl ?_); refine Kd.R_lit k64 _ 64 ?hg (N := 13) ?hd (xs := ([(⟨(⟨#[107, 101, 112, 116]⟩ : ByteArray), (-1), 3⟩ : S64), (⟨(⟨#[101, 97, 114, 110, 101, 100]⟩ : ByteArray), (-1), 4⟩ : S64)] : List (S64))) (inner := [.string (⟨#[107, 101, 112, 116]⟩ : ByteArray), .int .i64 (-1), .int .i64 3, .string (⟨#[101, 97, 114, 110, 101, 100]⟩ : ByteArray), .int .i64 (-1), .int .i64 4]) (ok := fun _ => True) (okp := fun _ => True) ?hr ?hp (fun _ hk => hk) trivial (Below.refl _ _) (Nat.le_refl _) (by simp) ?_; (case hd => rfl); (case hg => rfl); (case hr => first | (go_simp; done) | (go_simp; rfl)); (case hp => exact (Reps.c3 (show Kd.M k64 _ _ _ (⟨(⟨#[107, 101, 112, 116]⟩ : ByteArray), (-1), 3⟩ : S64) [.string (⟨#[107, 101, 112, 116]⟩ : ByteArray), .int .i64 (-1), .int .i64 3] from (k64_mkM _ _ _ (⟨(⟨#[107, 101, 112, 116]⟩ : ByteArray), (-1), 3⟩ : S64) )) (Reps.c3 (show Kd.M k64 _ _ _ (⟨(⟨#[101, 97, 114, 110, 101, 100]⟩ : ByteArray), (-1), 4⟩ : S64) [.string (⟨#[101, 97, 114, 110, 101, 100]⟩ : ByteArray), .int .i64 (-1), .int .i64 4] from (k64_mkM _ _ _ (⟨(⟨#[101, 97, 114, 110, 101, 100]⟩ : ByteArray), (-1), 4⟩ : S64) )) (Reps.none _ _)))); intro v13 w4 ho hb hg_ hnew_; clear hg_ hnew_ y0 yz0 y1 yz1 y2 yz2; have HCH := Aside0.mk (chart_two HG.out); obtain ⟨two, htwo⟩ : ∃ z_ : List S64, z_ = [(⟨(⟨#[107, 101, 112, 116]⟩ : ByteArray), (-1), 3⟩ : S64), (⟨(⟨#[101, 97, 114, 110, 101, 100]⟩ : ByteArray), (-1), 4⟩ : S64)] := ⟨_, rfl⟩; rw [← htwo] at ho HCH; have htl : two.length ≤ 2 := (by rw [htwo]; simp); clear htwo; replace BR := Aside0.mk (blk_below BR.out hb); replace BF := Aside0.mk (blk_below BF.out hb); replace RC := Aside0.mk (Kd.R_below RC.out hb); replace D := Aside0.mk (D.out.below hb); have LIT := Aside0.mk ho; clear hb ho; obtain ⟨AL, cL, eL⟩ := Kd.R_slice LIT.out; subst eL) | ((with_reducible refine gate_builtin (b := .append) (xs := #[.tmp 10, .tmp 13]) rfl ?_); at_builtin; refine Kd.R_append_rows k64 w.heap.size rfl (.tmp 10) (.tmp 13) 24 64 (.agg #[(.string ⟨#[]⟩), (.int .i64 0), (.int .i64 0)]) 32 rfl Tryd.underlying24 info64 rfl (by decide) (by omega) (.slice A l.length cc) l two _ _ _ (fun k => k ≠ g) (fun _ => False) rfl rfl ?aO ?aR (fun _ _ h => h) (fun _ h => h.elim) ?aF (Below.refl _ _) ?aS ?aL ?_; (case aR => exact (Kd.R_reads' LIT.out).2.2); (case aF => exact fun k hk => by have := D.out.cur.lt; omega); (case aO => exact RC.out); (case aS => exact D.out.size); (case aL => omega); intro v1 w5 ho hb hg hat; obtain ⟨ch, hch⟩ : ∃ z_, z_ = l ++ two := ⟨_, rfl⟩; rw [← hch] at ho HCH; clear hch; obtain ⟨B, qc, hv⟩ := Kd.R_slice ho; subst hv; have BR_ := Aside0.mk (blk_grown BR.out hg (Kd.R_ne RC.out BR.out (by decide))); have BF_ := Aside0.mk (blk_grown BF.out hg (Kd.R_ne RC.out BF.out (by decide))); clear BR; have BR := BR_; clear BR_; clear BF; have BF := BF_; clear BF_; replace D := Aside0.mk (D.out.grown HL hg (fun k hk => ⟨Kd.R_base RC.out k hk, RC.out.1 k hk⟩)); clear RC; have RC := Aside0.mk ho; have y0 := (blk_cell BF.out 0).trans rfl; have yz0 := blk_frozen BF.out 0; clear ho hb hg hat LIT))
  clear y0 yz0
  replace RC := Aside0.mk (Kd.R_set RC.out BF.out (by decide) 0 (.slice B ch.length qc))
  replace BR := Aside0.mk (blk_far BR.out (p := ⟨w2.heap.size, 0, none⟩) ne_BR_BF (.slice B ch.length qc))
  replace BF := Aside0.mk (blk_set BF.out 0 (.slice B ch.length qc))
  replace D := Aside0.mk (D.out.set HL (p := ⟨w2.heap.size, 0, none⟩) ge_BF NF (.slice B ch.length qc))
  generalize w5.setCell ⟨w2.heap.size, 0, none⟩ (.slice B ch.length qc) = w6 at *
  replace BF := Aside0.mk (show w6.heap[w2.heap.size]? = some (.cells #[.slice B ch.length qc, .int .i64 d, .int .i64 u] 26 (0, 0)) from BF.out)
  have HTX := Aside0.mk (show ∀ x ∈ ch, x.f0.size ≤ maxLen from fun x hx => Nat.le_trans (HCH.out.1.2 x hx) (by unfold maxLen; omega))
  have chl := HCH.out.1.1
  have chl3 := HCH.out.2
  clear HG
  go_cut [6] (fun v6 wx => ∃ (b : Nat) (A3 : Option Addr) (c3 : Nat) (es : List Ent) (h : Int) (A5 : Option Addr) (c5 : Nat) (ps : List Per) (kp : Int), v6 = .pointer (some ⟨b, 0, none⟩) ∧ (b ≠ g ∧ w.heap.size ≠ b ∧ w.heap.size ≤ b) ∧ Aside0 (wx.heap[b]? = some (.cells #[.slice B ch.length qc, .int .i64 d, .int .i64 u, .slice A3 es.length c3, .int .i64 h, .slice A5 ps.length c5, .int .i64 0, .int .i64 kp] 32 (0, 0))) ∧ Aside0 (goodEnts es n.toNat) ∧ (1 ≤ ps.length ∧ ps.length ≤ 13) ∧ Aside0 (wx.heap[w.heap.size]? = some (.cells #[.slice none 0 0, .int .i64 0, .int .i64 0, .slice none 0 0, .int .i64 0, .slice none 0 0, .int .i64 0, .int .i64 0] 32 (0, 0))) ∧ Aside0 (k64.R 64 wx w.heap.size (fun k => k ≠ g) (.slice B ch.length qc) ch) ∧ Aside0 (Kd.S k35 35 wx w.heap.size (fun k => k ≠ g) (.slice A3 es.length c3) es) ∧ Aside0 (k66.R 66 wx w.heap.size (fun k => k ≠ g) (.slice A5 ps.length c5) ps) ∧ Aside0 (Drew w0 w wx g c))
  case first =>
    go_region_held3 (fun w' => w'.cell? ⟨w2.heap.size, 0, none⟩ = some (.slice B ch.length qc) ∧ w'.cell? ⟨w2.heap.size, 1, none⟩ = some (.int .i64 d) ∧ w'.cell? ⟨w2.heap.size, 2, none⟩ = some (.int .i64 u)) ((first | exact ⟨(blk_cell (by repeat (with_reducible first | exact BF.out | refine blk_alloc ?_ _ | refine blk_drewN ?_ _ | refine blk_drew ?_)) 0).trans rfl, (blk_cell (by repeat (with_reducible first | exact BF.out | refine blk_alloc ?_ _ | refine blk_drewN ?_ _ | refine blk_drew ?_)) 1).trans rfl, (blk_cell (by repeat (with_reducible first | exact BF.out | refine blk_alloc ?_ _ | refine blk_drewN ?_ _ | refine blk_drew ?_)) 2).trans rfl⟩ | exact ⟨by (repeat (with_reducible refine cell_off ZF _ ?_)); exact (blk_cell BF.out 0).trans rfl, by (repeat (with_reducible refine cell_off ZF _ ?_)); exact (blk_cell BF.out 1).trans rfl, by (repeat (with_reducible refine cell_off ZF _ ?_)); exact (blk_cell BF.out 2).trans rfl⟩ | go_keep))
      ((first | (go_at_call 35; refine (spec_l5DrawLedger.e w0 _ g c B qc ch d u n (Drew.cur (w := w) (by repeat (with_reducible first | exact D.out | apply Drew.alloc | apply Drew.drewN | apply Drew.drew))) (Drew.bel (w := w) (by repeat (with_reducible first | exact D.out | apply Drew.alloc | apply Drew.drewN | apply Drew.drew))) hc (fun W' hk => (Kd.R_reads' (Kd.R_keep (by repeat (with_reducible first | exact RC.out | apply Kd.R_alloc | apply Kd.R_drewN | apply Kd.R_drew)) hk (fun _ h => h))).2.2) HTX.out (by omega) (by omega) (by omega) (by omega) (by omega)).mono ?_; rintro x wA ⟨v3, es, h, rfl, hS, hg, hD⟩; obtain ⟨A3, c3, rfl⟩ := Kd.S_slice hS; (first | (replace BZ := Aside0.mk (Drew.blk hD (o := .cells #[.slice none 0 0, .int .i64 0, .int .i64 0, .slice none 0 0, .int .i64 0, .slice none 0 0, .int .i64 0, .int .i64 0] 32 (0, 0)) (by repeat (with_reducible first | exact BZ.out | refine blk_alloc ?_ _ | refine blk_drewN ?_ _ | refine blk_drew ?_)) NZ)) | (have NZ := Nat.ne_of_gt D.out.cur.lt; have GZ := D.out.size; have ZR := Nat.ne_of_lt (blk_lt BR.out); have ZF := Nat.ne_of_lt (blk_lt BF.out); have BZ := Aside0.mk (Drew.blk hD (o := .cells #[.slice none 0 0, .int .i64 0, .int .i64 0, .slice none 0 0, .int .i64 0, .slice none 0 0, .int .i64 0, .int .i64 0] 32 (0, 0)) (by (with_reducible repeat (first | refine blk_drew ?_ | refine blk_drewN ?_ _)); with_reducible exact blk_new _ _) NZ)) | skip); replace BF := Aside0.mk (Drew.blk hD (b := w2.heap.size) (o := .cells #[.slice B ch.length qc, .int .i64 d, .int .i64 u] 26 (0, 0)) (by repeat (with_reducible first | exact BF.out | refine blk_alloc ?_ _ | refine blk_drewN ?_ _ | refine blk_drew ?_)) NF); replace BR := Aside0.mk (Drew.blk hD (b := w.heap.size) (o := .cells #[.slice none 0 0, .int .i64 0, .int .i64 0, .slice none 0 0, .int .i64 0, .slice none 0 0, .int .i64 0, .int .i64 0] 32 (0, 0)) (by repeat (with_reducible first | exact BR.out | refine blk_alloc ?_ _ | refine blk_drewN ?_ _ | refine blk_drew ?_)) NR); replace RC := Aside0.mk (Drew.R hD (by repeat (with_reducible first | exact RC.out | apply Kd.R_alloc | apply Kd.R_drewN | apply Kd.R_drew)) (fun _ hk => hk)); have RE := Aside0.mk (Kd.S_mono (hD.cur.apartS (Kd.S_lower hS (Drew.size (w0 := w0) (g := g) (c := c) (by repeat (with_reducible first | exact D.out | apply Drew.alloc | apply Drew.drewN | apply Drew.drew)))) (by decide)) (ok' := fun k => k ≠ g) (fun k hk => hk.2)); have HES := Aside0.mk hg; replace D := Aside0.mk (Drew.call (by repeat (with_reducible first | exact D.out | apply Drew.alloc | apply Drew.drewN | apply Drew.drew)) hD); clear hS hg hD) | (go_at_call 14; refine (spec_l1Below.e _ (Drew.cur (w := w) (by repeat (with_reducible first | exact D.out | apply Drew.alloc | apply Drew.drewN | apply Drew.drew))) (Drew.bel (w := w) (by repeat (with_reducible first | exact D.out | apply Drew.alloc | apply Drew.drewN | apply Drew.drew))) hc (by omega)).mono ?_; rintro x wA ⟨r, rfl, ⟨hr0, hr1, _⟩, hD⟩; replace hr1 := hr1 (by omega); (first | (replace BZ := Aside0.mk (Drew.blk hD (o := .cells #[.slice none 0 0, .int .i64 0, .int .i64 0, .slice none 0 0, .int .i64 0, .slice none 0 0, .int .i64 0, .int .i64 0] 32 (0, 0)) (by repeat (with_reducible first | exact BZ.out | refine blk_alloc ?_ _ | refine blk_drewN ?_ _ | refine blk_drew ?_)) NZ)) | (have NZ := Nat.ne_of_gt D.out.cur.lt; have GZ := D.out.size; have ZR := Nat.ne_of_lt (blk_lt BR.out); have ZF := Nat.ne_of_lt (blk_lt BF.out); have BZ := Aside0.mk (Drew.blk hD (o := .cells #[.slice none 0 0, .int .i64 0, .int .i64 0, .slice none 0 0, .int .i64 0, .slice none 0 0, .int .i64 0, .int .i64 0] 32 (0, 0)) (by (with_reducible repeat (first | refine blk_drew ?_ | refine blk_drewN ?_ _)); with_reducible exact blk_new _ _) NZ)) | skip); replace BF := Aside0.mk (Drew.blk hD (b := w2.heap.size) (o := .cells #[.slice B ch.length qc, .int .i64 d, .int .i64 u] 26 (0, 0)) (by repeat (with_reducible first | exact BF.out | refine blk_alloc ?_ _ | refine blk_drewN ?_ _ | refine blk_drew ?_)) NF); replace BR := Aside0.mk (Drew.blk hD (b := w.heap.size) (o := .cells #[.slice none 0 0, .int .i64 0, .int .i64 0, .slice none 0 0, .int .i64 0, .slice none 0 0, .int .i64 0, .int .i64 0] 32 (0, 0)) (by repeat (with_reducible first | exact BR.out | refine blk_alloc ?_ _ | refine blk_drewN ?_ _ | refine blk_drew ?_)) NR); replace RC := Aside0.mk (Drew.R hD (by repeat (with_reducible first | exact RC.out | apply Kd.R_alloc | apply Kd.R_drewN | apply Kd.R_drew)) (fun _ hk => hk)); replace RE := Aside0.mk (Drew.S hD (by repeat (with_reducible first | exact RE.out | apply Kd.S_alloc | apply Kd.S_drewN | apply Kd.S_drew)) (fun _ hk => hk)); replace D := Aside0.mk (Drew.call (by repeat (with_reducible first | exact D.out | apply Drew.alloc | apply Drew.drewN | apply Drew.drew)) hD); clear hD) | (go_at_call 36; refine (spec_Periods.e _ _ _ _ (by first | omega | (rw [IntKind.wrap_i64]; omega)) (by exact wrapk (by omega) (by omega)) (by first | omega | (rw [IntKind.wrap_i64]; omega))).mono ?_; rintro x wA ⟨v5, ps, rfl, hR, hg, hb⟩; obtain ⟨A5, c5, rfl⟩ := Kd.R_slice hR; have hD := Drew.below (Drew.refl (w0 := w0) (g := g) (c := c) (Drew.cur (w := w) (by repeat (with_reducible first | exact D.out | apply Drew.alloc | apply Drew.drewN | apply Drew.drew))) (Drew.bel (w := w) (by repeat (with_reducible first | exact D.out | apply Drew.alloc | apply Drew.drewN | apply Drew.drew)))) hb; (first | (replace BZ := Aside0.mk (Drew.blk hD (o := .cells #[.slice none 0 0, .int .i64 0, .int .i64 0, .slice none 0 0, .int .i64 0, .slice none 0 0, .int .i64 0, .int .i64 0] 32 (0, 0)) (by repeat (with_reducible first | exact BZ.out | refine blk_alloc ?_ _ | refine blk_drewN ?_ _ | refine blk_drew ?_)) NZ)) | (have NZ := Nat.ne_of_gt D.out.cur.lt; have GZ := D.out.size; have ZR := Nat.ne_of_lt (blk_lt BR.out); have ZF := Nat.ne_of_lt (blk_lt BF.out); have BZ := Aside0.mk (Drew.blk hD (o := .cells #[.slice none 0 0, .int .i64 0, .int .i64 0, .slice none 0 0, .int .i64 0, .slice none 0 0, .int .i64 0, .int .i64 0] 32 (0, 0)) (by (with_reducible repeat (first | refine blk_drew ?_ | refine blk_drewN ?_ _)); with_reducible exact blk_new _ _) NZ)) | skip); replace BF := Aside0.mk (Drew.blk hD (b := w2.heap.size) (o := .cells #[.slice B ch.length qc, .int .i64 d, .int .i64 u] 26 (0, 0)) (by repeat (with_reducible first | exact BF.out | refine blk_alloc ?_ _ | refine blk_drewN ?_ _ | refine blk_drew ?_)) NF); replace BR := Aside0.mk (Drew.blk hD (b := w.heap.size) (o := .cells #[.slice none 0 0, .int .i64 0, .int .i64 0, .slice none 0 0, .int .i64 0, .slice none 0 0, .int .i64 0, .int .i64 0] 32 (0, 0)) (by repeat (with_reducible first | exact BR.out | refine blk_alloc ?_ _ | refine blk_drewN ?_ _ | refine blk_drew ?_)) NR); replace RC := Aside0.mk (Drew.R hD (by repeat (with_reducible first | exact RC.out | apply Kd.R_alloc | apply Kd.R_drewN | apply Kd.R_drew)) (fun _ hk => hk)); replace RE := Aside0.mk (Drew.S hD (by repeat (with_reducible first | exact RE.out | apply Kd.S_alloc | apply Kd.S_drewN | apply Kd.S_drew)) (fun _ hk => hk)); have RP := Aside0.mk (Kd.R_mono (hD.cur.apart (Kd.R_lower hR (Drew.size (w0 := w0) (g := g) (c := c) (by repeat (with_reducible first | exact D.out | apply Drew.alloc | apply Drew.drewN | apply Drew.drew)))) (by decide)) (ok' := fun k => k ≠ g) (fun k hk => hk.2)); have HPS := Aside0.mk hg; replace D := Aside0.mk (Drew.call (by repeat (with_reducible first | exact D.out | apply Drew.alloc | apply Drew.drewN | apply Drew.drew)) hD); clear hR hg hb hD; (try (have y0 := (blk_cell BZ.out 0).trans rfl; have yz0 := blk_frozen BZ.out 0; have y1 := (blk_cell BZ.out 1).trans rfl; have yz1 := blk_frozen BZ.out 1; have y2 := (blk_cell BZ.out 2).trans rfl; have yz2 := blk_frozen BZ.out 2; have y3 := (blk_cell BZ.out 3).trans rfl; have yz3 := blk_frozen BZ.out 3; have y4 := (blk_cell BZ.out 4).trans rfl; have yz4 := blk_frozen BZ.out 4; have y5 := (blk_cell BZ.out 5).trans rfl; have yz5 := blk_frozen BZ.out 5; have y6 := (blk_cell BZ.out 6).trans rfl; have yz6 := blk_frozen BZ.out 6; have y7 := (blk_cell BZ.out 7).trans rfl; have yz7 := blk_frozen BZ.out 7)))))
    all_goals (try go_wp2_with fail)
    all_goals go_meet
    all_goals (
      refine ⟨_, A3, c3, es, h, A5, c5, ps, IntKind.i64.wrap (↑ch.length - 2), rfl, ?_, ⟨?_⟩, HES, HPS.out, ⟨?_⟩, ⟨?_⟩, ⟨?_⟩, ⟨?_⟩, ⟨?_⟩⟩
      · first | exact ⟨NZ, ZR, GZ⟩ | exact ⟨Nat.ne_of_gt D.out.cur.lt, Nat.ne_of_lt (blk_lt BR.out), D.out.size⟩
      · first | exact put8_blk BZ.out _ _ _ _ _ _ _ _ | exact blk_new _ _
      · first | exact put8_far BR.out ZR _ _ _ _ _ _ _ _ | exact blk_alloc BR.out _
      · first | exact put8_R RC.out BZ.out (by decide) _ _ _ _ _ _ _ _ | exact Kd.R_alloc RC.out _
      · first | exact put8_S RE.out BZ.out (by decide) _ _ _ _ _ _ _ _ | exact Kd.S_alloc RE.out _
      · first | exact put8_R RP.out BZ.out (by decide) _ _ _ _ _ _ _ _ | exact Kd.R_alloc RP.out _
      · first | exact put8_D D.out HL GZ NZ _ _ _ _ _ _ _ _ | exact D.out.alloc _)
  case rest =>
    clear BF BR RC D
    obtain ⟨b, A3, c3, es, h, A5, c5, ps, kp, rfl, ⟨NZ, ZR, GZ⟩, BZ, HES, HPS, BR, RC, RE, RP, D⟩ := hcut
    have ps13 := HPS.2
    go_wp2_with fail
    refine (spec_l1Below.e 3 D.out.cur D.out.bel hc (by omega)).mono ?_
    rintro x w7 ⟨cl, rfl, ⟨cl0, cl1, _⟩, hD⟩
    have cl2 := cl1 (by omega)
    replace BZ := Aside0.mk (hD.blk BZ.out NZ)
    replace BR := Aside0.mk (hD.blk BR.out NR)
    replace RC := Aside0.mk (hD.R RC.out (fun _ hk => hk))
    replace RE := Aside0.mk (hD.S RE.out (fun _ hk => hk))
    replace RP := Aside0.mk (hD.R RP.out (fun _ hk => hk))
    replace D := Aside0.mk (D.out.call hD)
    clear hD cl1
    have y6 := (blk_cell BZ.out 6).trans rfl
    have yz6 := blk_frozen BZ.out 6
    go_upto_region 5 with fail
    clear y6 yz6
    replace RC := Aside0.mk (Kd.R_set RC.out BZ.out (by decide) 6 (.int .i64 cl))
    replace RE := Aside0.mk (Kd.S_set RE.out BZ.out (by decide) 6 (.int .i64 cl))
    replace RP := Aside0.mk (Kd.R_set RP.out BZ.out (by decide) 6 (.int .i64 cl))
    replace BR := Aside0.mk (blk_far BR.out (p := ⟨b, 6, none⟩) ZR (.int .i64 cl))
    replace BZ := Aside0.mk (show (w7.setCell ⟨b, 6, none⟩ (.int .i64 cl)).heap[b]? = some (.cells #[.slice B ch.length qc, .int .i64 d, .int .i64 u, .slice A3 es.length c3, .int .i64 h, .slice A5 ps.length c5, .int .i64 cl, .int .i64 kp] 32 (0, 0)) from blk_set BZ.out 6 (.int .i64 cl))
    replace D := Aside0.mk (D.out.set HL (p := ⟨b, 6, none⟩) GZ NZ (.int .i64 cl))
    generalize w7.setCell ⟨b, 6, none⟩ (.int .i64 cl) = w8 at *
    have y5 := (blk_cell BZ.out 5).trans rfl
    have yz5 := blk_frozen BZ.out 5
    have y6 := (blk_cell BZ.out 6).trans rfl
    have yz6 := blk_frozen BZ.out 6
    go_upto_if 44 with fail
    go_cut [] (fun W => ∃ cl : Int, Aside0 (W.heap[b]? = some (.cells #[.slice B ch.length qc, .int .i64 d, .int .i64 u, .slice A3 es.length c3, .int .i64 h, .slice A5 ps.length c5, .int .i64 cl, .int .i64 kp] 32 (0, 0))) ∧ Aside0 (W.heap[w.heap.size]? = some (.cells #[.slice none 0 0, .int .i64 0, .int .i64 0, .slice none 0 0, .int .i64 0, .slice none 0 0, .int .i64 0, .int .i64 0] 32 (0, 0))) ∧ Aside0 (k64.R 64 W w.heap.size (fun k => k ≠ g) (.slice B ch.length qc) ch) ∧ Aside0 (Kd.S k35 35 W w.heap.size (fun k => k ≠ g) (.slice A3 es.length c3) es) ∧ Aside0 (k66.R 66 W w.heap.size (fun k => k ≠ g) (.slice A5 ps.length c5) ps) ∧ Aside0 (Drew w0 w W g c))
    case first =>
      by_cases hcl : cl > (ps.length : Int)
      · clear y5 yz5 y6 yz6
        have y6 := (blk_cell BZ.out 6).trans rfl
        have yz6 := blk_frozen BZ.out 6
        go_wp2_with fail
        clear y6 yz6
        replace RC := Aside0.mk (Kd.R_set RC.out BZ.out (by decide) 6 (.int .i64 0))
        replace RE := Aside0.mk (Kd.S_set RE.out BZ.out (by decide) 6 (.int .i64 0))
        replace RP := Aside0.mk (Kd.R_set RP.out BZ.out (by decide) 6 (.int .i64 0))
        replace BR := Aside0.mk (blk_far BR.out (p := ⟨b, 6, none⟩) ZR (.int .i64 0))
        replace BZ := Aside0.mk (show (w8.setCell ⟨b, 6, none⟩ (.int .i64 0)).heap[b]? = some (.cells #[.slice B ch.length qc, .int .i64 d, .int .i64 u, .slice A3 es.length c3, .int .i64 h, .slice A5 ps.length c5, .int .i64 0, .int .i64 kp] 32 (0, 0)) from blk_set BZ.out 6 (.int .i64 0))
        replace D := Aside0.mk (D.out.set HL (p := ⟨b, 6, none⟩) GZ NZ (.int .i64 0))
        go_meet
        exact ⟨0, BZ, BR, RC, RE, RP, D⟩
      · go_wp2_with fail
        go_meet
        exact ⟨cl, BZ, BR, RC, RE, RP, D⟩
    case rest =>
      clear BZ BR RC RE RP D y5 yz5 y6 yz6 cl2
      obtain ⟨cl1, BZ, BR, RC, RE, RP, D⟩ := hcut
      have y0 := (blk_cell BZ.out 0).trans rfl
      have yz0 := blk_frozen BZ.out 0
      have y1 := (blk_cell BZ.out 1).trans rfl
      have yz1 := blk_frozen BZ.out 1
      have y2 := (blk_cell BZ.out 2).trans rfl
      have yz2 := blk_frozen BZ.out 2
      have y3 := (blk_cell BZ.out 3).trans rfl
      have yz3 := blk_frozen BZ.out 3
      have y4 := (blk_cell BZ.out 4).trans rfl
      have yz4 := blk_frozen BZ.out 4
      have y5 := (blk_cell BZ.out 5).trans rfl
      have yz5 := blk_frozen BZ.out 5
      have y6 := (blk_cell BZ.out 6).trans rfl
      have yz6 := blk_frozen BZ.out 6
      have y7 := (blk_cell BZ.out 7).trans rfl
      have yz7 := blk_frozen BZ.out 7
      have z0 := (blk_cell BR.out 0).trans rfl
      have zz0 := blk_frozen BR.out 0
      have z1 := (blk_cell BR.out 1).trans rfl
      have zz1 := blk_frozen BR.out 1
      have z2 := (blk_cell BR.out 2).trans rfl
      have zz2 := blk_frozen BR.out 2
      have z3 := (blk_cell BR.out 3).trans rfl
      have zz3 := blk_frozen BR.out 3
      have z4 := (blk_cell BR.out 4).trans rfl
      have zz4 := blk_frozen BR.out 4
      have z5 := (blk_cell BR.out 5).trans rfl
      have zz5 := blk_frozen BR.out 5
      have z6 := (blk_cell BR.out 6).trans rfl
      have zz6 := blk_frozen BR.out 6
      have z7 := (blk_cell BR.out 7).trans rfl
      have zz7 := blk_frozen BR.out 7
      go_wp2_with fail
      have BR2 := Aside0.mk (put8_blk BR.out (.slice B ch.length qc) (.int .i64 d) (.int .i64 u) (.slice A3 es.length c3) (.int .i64 h) (.slice A5 ps.length c5) (.int .i64 cl1) (.int .i64 kp))
      refine bodyPost_ret (results_c1 rfl _ _ w.heap.size 32 #[.slice B ch.length qc, .int .i64 d, .int .i64 u, .slice A3 es.length c3, .int .i64 h, .slice A5 ps.length c5, .int .i64 cl1, .int .i64 kp] (0, 0) _ rfl BR2.out Tryd.underlying32 rfl (by kernel_rfl)) rfl ?_
      exact ⟨_, _, _, ch, d, u, es, h, ps, _, _, rfl, Kd.R_mono (put8_R RC.out BR.out (by decide) _ _ _ _ _ _ _ _) (fun _ _ => trivial), Kd.S_mono (put8_S RE.out BR.out (by decide) _ _ _ _ _ _ _ _) (fun _ _ => trivial), Kd.R_mono (put8_R RP.out BR.out (by decide) _ _ _ _ _ _ _ _) (fun _ _ => trivial), ⟨⟨HCH.out.1, goodEnts_le HES.out (by omega), by omega⟩, HPS.1, HCH.out.2⟩, ⟨hd, hu⟩, put8_D D.out HL (Nat.le_refl _) NR _ _ _ _ _ _ _ _⟩
end Go.Proofs.YtjkjjfbcakbmnaaDoor.Q
