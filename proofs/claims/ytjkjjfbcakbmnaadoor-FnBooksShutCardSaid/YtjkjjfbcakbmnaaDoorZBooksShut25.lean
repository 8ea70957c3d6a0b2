/- Parts of the proof: what functions of the program and of the reference answer.
   No condition. -/
import Derived.Test.YtjkjjfbcakbmnaaDoorZBooksShut1
import Derived.Test.YtjkjjfbcakbmnaaDoorZBooksShut8
import Derived.Test.YtjkjjfbcakbmnaaDoorZBooksShut9
import Derived.Test.YtjkjjfbcakbmnaaDoorZBooksShut14
import Derived.Test.YtjkjjfbcakbmnaaDoorZBooksShut18
import Derived.Test.YtjkjjfbcakbmnaaDoorZBooksShut19
import Derived.Test.YtjkjjfbcakbmnaaDoorZBooksShut23
namespace Go.Proofs.YtjkjjfbcakbmnaaDoor.Q
open Go.RowKit Go.Proofs.YtjkjjfbcakbmnaaDoorW.PrintWords Go.Proofs.YtjkjjfbcakbmnaaDoorW.PrintLast Go.Proofs.YtjkjjfbcakbmnaaDoorW.PrintMore
set_option linter.unusedVariables false
set_option linter.unusedSimpArgs false
def spec_l6Spoil.T11 : Bool × List (List Nat × List Nat) := (true, [([], []), ([0], [0]), ([], []), ([2], [2]), ([3], [3]), ([4], [4]), ([5], [5]), ([], []), ([], []), ([7, 8], [7, 8]), ([6, 9], [6, 9]), ([1, 0, 1, 2, 3, 4, 5, 6, 7, 8, 9, 10], [1]), ([11, 0, 1, 2, 3, 4, 5, 6, 7, 8, 9, 10], [11]), ([12, 10, 9, 0, 1, 2, 3, 4, 5, 6, 7, 8, 9, 10], [10, 12])])
def spec_l6Spoil.B11 : List Nat := [0, 1, 0, 4, 12, 28, 60, 0, 0, 384, 1020, 2047, 4095, 8191]
theorem spec_l6Spoil.tab11 : rtab .any (opsOf Tryd.f12 11) = spec_l6Spoil.T11 := by kernel_rfl
theorem spec_l6Spoil.bits11 : waitsOk spec_l6Spoil.T11.2 spec_l6Spoil.B11 = true := by kernel_rfl
def spec_l6Spoil.T16 : Bool × List (List Nat × List Nat) := (true, [([], []), ([0], [0]), ([], []), ([2], [2]), ([3], [3]), ([4], [4]), ([5], [5]), ([6], [6]), ([1, 0, 1, 2, 3, 4, 5, 6, 7], [1]), ([8, 0, 1, 2, 3, 4, 5, 6, 7], [8]), ([9, 7, 0, 1, 2, 3, 4, 5, 6, 7], [7, 9])])
def spec_l6Spoil.B16 : List Nat := [0, 1, 0, 4, 12, 28, 60, 124, 255, 511, 1023]
theorem spec_l6Spoil.tab16 : rtab .any (opsOf Tryd.f12 16) = spec_l6Spoil.T16 := by kernel_rfl
theorem spec_l6Spoil.bits16 : waitsOk spec_l6Spoil.T16.2 spec_l6Spoil.B16 = true := by kernel_rfl
structure DrewR (w0 w w' : World) (g : Nat) (c : List Int) (row : Option Nat) : Prop where
  cur : Cur w0 w' g c
  bel : Below w0.heap.size w0 w'
  keep : KeepBut w w' g row
section
variable {w0 w W W1 : World} {g : Nat} {c : List Int} {row : Option Nat}
theorem Drew.toR (h : Drew w0 w W g c) (row : Option Nat) : DrewR w0 w W g c row := ⟨h.cur, h.bel, ⟨h.keep.1, fun i hi hne _ => h.keep.2 i hi hne (by simp)⟩⟩
theorem DrewR.set (h : DrewR w0 w W g c row) (hl : w0.heap.size ≤ w.heap.size) {p : Addr} (hp : w.heap.size ≤ p.block) (hne : p.block ≠ g) (u : Value) : DrewR w0 w (W.setCell p u) g c row := by
  refine ⟨h.cur.far (fun e => hne e.symm) u, h.bel.setCell (Nat.le_trans hl hp) u, ⟨by simpa using h.keep.1, fun i hi hi2 hn => ?_⟩⟩
  refine (Below.heap_setCell W p u i (by omega)).trans (h.keep.2 i hi hi2 hn)
theorem DrewR.setRow {gp : Nat} (h : DrewR w0 w W g c (some gp)) (hp : w0.heap.size ≤ gp) (hne : gp ≠ g) (j : Nat) (u : Value) : DrewR w0 w (W.setCell ⟨gp, j, none⟩ u) g c (some gp) := by
  refine ⟨h.cur.far (p := ⟨gp, j, none⟩) (fun e => hne e.symm) u, h.bel.setCell (p := ⟨gp, j, none⟩) hp u, ⟨by simpa using h.keep.1, fun i hi hi2 hn => ?_⟩⟩
  refine (Below.heap_setCell W ⟨gp, j, none⟩ u i (fun e => hn (by rw [e]))).trans (h.keep.2 i hi hi2 hn)
theorem put8_E (h : DrewR w0 w W g c row) (hl : w0.heap.size ≤ w.heap.size) {b : Nat} (hp : w.heap.size ≤ b) (hne : b ≠ g) (u0 u1 u2 u3 u4 u5 u6 u7 : Value) : DrewR w0 w ((((((((W.setCell ⟨b, 0, none⟩ u0).setCell ⟨b, 1, none⟩ u1).setCell ⟨b, 2, none⟩ u2).setCell ⟨b, 3, none⟩ u3).setCell ⟨b, 4, none⟩ u4).setCell ⟨b, 5, none⟩ u5).setCell ⟨b, 6, none⟩ u6).setCell ⟨b, 7, none⟩ u7) g c row := by
  repeat refine DrewR.set ?_ hl hp hne _
  exact h
end
theorem per_field {W : World} {base gp n cap : Nat} {ok : Nat → Prop} {ps : List Per} (h : k66.R 66 W base ok (.slice (some ⟨gp, 0, none⟩) n cap) ps) (i : Int) (h0 : 0 ≤ i) (h1 : i < n) (u : Int) : ∃ ps' : List Per, ps'.length = ps.length ∧ k66.R 66 (W.setCell ⟨gp, i.toNat * 2, none⟩ (.int .i64 u)) base ok (.slice (some ⟨gp, 0, none⟩) n cap) ps' := by
  obtain ⟨ce, hcl, hM, hcc, hfr⟩ := Kd.R_elem h z66 i h0 h1
  obtain rfl := k66_openM hM
  have HP := (Kd.R_seg h i h0 h1 (seg := [.int .i64 u]) (j := 0) hcl hcc (show 1 ≤ 2 from by decide) (x' := (⟨u, (rd_T66 ps i).f1⟩ : S66)) (k66_mkM _ _ _ (⟨u, (rd_T66 ps i).f1⟩ : S66)) (fun _ hk => hk)).1
  exact ⟨_, List.length_set, HP⟩
theorem ints_lit (W : World) (xs : List Int) (inner : List Value) (hi : inner = xs.map (Value.int .i64)) (hm : xs.length ≤ 1048576) : Kd.C (Kd.int .i64) (W.alloc (.cells inner.toArray 3)) (some ⟨W.heap.size, 0, none⟩) xs.length xs := by
  subst hi
  have h2 := World.ownsRow_lit (base := W.heap.size) (e := 3) (size := 1) W (xs.map (Value.int .i64)).toArray xs.length (Nat.le_refl _) (by simp [maxLen]; omega) (by simp)
  have h3 : (W.alloc (Obj.cells (xs.map (Value.int .i64)).toArray 3)).ownsRow W.heap.size 3 1 (.slice (some ⟨W.heap.size, 0, none⟩) xs.length xs.length) xs.length (encs (Value.int .i64) xs) := by simpa [encs] using h2
  exact (Kd.R_reads' (Kd.R_of_own (h1 := fun _ => rfl) (ok := fun _ => True) h3 (fun _ _ => trivial))).2.2
set_option maxHeartbeats 8000000 in
set_option maxRecDepth 100000 in
theorem spec_l6Spoil.e (w0 w : World) (g : Nat) (c : List Int) (A0 : Option Addr) (c0 : Nat) (ch : List Acc) (d u : Int) (A3 : Option Addr) (c3 : Nat) (es : List Ent) (h : Int) (A5 : Option Addr) (c5 : Nat) (ps : List Per) (cl kp : Int) (bb : Nat) (hI : Cur w0 w g c) (hB : Below w0.heap.size w0 w) (hc : c.length ≤ 1048576) (hb0 : w0.heap.size ≤ bb) (hb1 : bb ≤ w.heap.size) (hR : k66.R 66 w bb (fun k => k ≠ g) (.slice A5 ps.length c5) ps) (hp1 : 1 ≤ ps.length) (hp2 : ps.length ≤ 1000) (hch : ch.length ≤ 1000) :
    Calls Tryd.prog 12 #[.pointer (some ⟨g, 0, none⟩), .agg #[.slice A0 ch.length c0, .int .i64 d, .int .i64 u, .slice A3 es.length c3, .int .i64 h, .slice A5 ps.length c5, .int .i64 cl, .int .i64 kp]] w fun e w' => ∃ (A6 : Option Addr) (c6 : Nat) (qs : List Per) (h' cl' kp' : Int), e = .returned (.agg #[.slice A0 ch.length c0, .int .i64 d, .int .i64 u, .slice A3 es.length c3, .int .i64 h', .slice A6 qs.length c6, .int .i64 cl', .int .i64 kp']) ∧ k66.R 66 w' bb (fun k => k ≠ g) (.slice A6 qs.length c6) qs ∧ qs.length ≤ ps.length ∧ DrewR w0 w w' g c (Value.slice A5 ps.length c5).ownBlock := by
  have HL := hB.size
  have RP := Aside0.mk hR
  have D := Aside0.mk (Drew.refl hI hB)
  clear hI hB hR
  go_enter Tryd.func12, Tryd.ntmps12
  have BF := Aside0.mk (blk_alloc (blk_new w (Obj.cells #[.slice A0 ch.length c0, .int .i64 d, .int .i64 u, .slice A3 es.length c3, .int .i64 h, .slice A5 ps.length c5, .int .i64 cl, .int .i64 kp] 32)) (Obj.cells #[.slice none 0 0, .int .i64 0, .int .i64 0, .slice none 0 0, .int .i64 0, .slice none 0 0, .int .i64 0, .int .i64 0] 32))
  have BR := Aside0.mk (show ((w.alloc (Obj.cells #[.slice A0 ch.length c0, .int .i64 d, .int .i64 u, .slice A3 es.length c3, .int .i64 h, .slice A5 ps.length c5, .int .i64 cl, .int .i64 kp] 32)).alloc (Obj.cells #[.slice none 0 0, .int .i64 0, .int .i64 0, .slice none 0 0, .int .i64 0, .slice none 0 0, .int .i64 0, .int .i64 0] 32)).heap[w.heap.size + 1]? = some (Obj.cells #[.slice none 0 0, .int .i64 0, .int .i64 0, .slice none 0 0, .int .i64 0, .slice none 0 0, .int .i64 0, .int .i64 0] 32) from by have := blk_new (w.alloc (Obj.cells #[.slice A0 ch.length c0, .int .i64 d, .int .i64 u, .slice A3 es.length c3, .int .i64 h, .slice A5 ps.length c5, .int .i64 cl, .int .i64 kp] 32)) (Obj.cells #[.slice none 0 0, .int .i64 0, .int .i64 0, .slice none 0 0, .int .i64 0, .slice none 0 0, .int .i64 0, .int .i64 0] 32); simpa using this)
  have NF : w.heap.size ≠ g := Nat.ne_of_gt D.out.cur.lt
  have NR : w.heap.size + 1 ≠ g := by have := D.out.cur.lt; omega
  have ne_BF_BR : w.heap.size ≠ w.heap.size + 1 := by omega
  have ge_BF : w.heap.size ≤ w.heap.size := Nat.le_refl _
  have ge_BR : w.heap.size ≤ w.heap.size + 1 := Nat.le_succ _
  replace D := Aside0.mk ((D.out.alloc (Obj.cells #[.slice A0 ch.length c0, .int .i64 d, .int .i64 u, .slice A3 es.length c3, .int .i64 h, .slice A5 ps.length c5, .int .i64 cl, .int .i64 kp] 32)).alloc (Obj.cells #[.slice none 0 0, .int .i64 0, .int .i64 0, .slice none 0 0, .int .i64 0, .slice none 0 0, .int .i64 0, .int .i64 0] 32))
  have zz : w.heap.size + 1 < ((w.alloc (Obj.cells #[.slice A0 ch.length c0, .int .i64 d, .int .i64 u, .slice A3 es.length c3, .int .i64 h, .slice A5 ps.length c5, .int .i64 cl, .int .i64 kp] 32)).alloc (Obj.cells #[.slice none 0 0, .int .i64 0, .int .i64 0, .slice none 0 0, .int .i64 0, .slice none 0 0, .int .i64 0, .int .i64 0] 32)).heap.size := by simp
  replace RP := Aside0.mk (Kd.R_alloc (Kd.R_alloc RP.out (Obj.cells #[.slice A0 ch.length c0, .int .i64 d, .int .i64 u, .slice A3 es.length c3, .int .i64 h, .slice A5 ps.length c5, .int .i64 cl, .int .i64 kp] 32)) (Obj.cells #[.slice none 0 0, .int .i64 0, .int .i64 0, .slice none 0 0, .int .i64 0, .slice none 0 0, .int .i64 0, .int .i64 0] 32))
  have SZ := Aside0.mk (show ((w.alloc (Obj.cells #[.slice A0 ch.length c0, .int .i64 d, .int .i64 u, .slice A3 es.length c3, .int .i64 h, .slice A5 ps.length c5, .int .i64 cl, .int .i64 kp] 32)).alloc (Obj.cells #[.slice none 0 0, .int .i64 0, .int .i64 0, .slice none 0 0, .int .i64 0, .slice none 0 0, .int .i64 0, .int .i64 0] 32)).heap.size = w.heap.size + 1 + 1 by simp)
  go_wp2_with fail
  generalize (w.alloc (Obj.cells #[.slice A0 ch.length c0, .int .i64 d, .int .i64 u, .slice A3 es.length c3, .int .i64 h, .slice A5 ps.length c5, .int .i64 cl, .int .i64 kp] 32)).alloc (Obj.cells #[.slice none 0 0, .int .i64 0, .int .i64 0, .slice none 0 0, .int .i64 0, .slice none 0 0, .int .i64 0, .int .i64 0] 32) = w1 at *
  go_wp2_with fail
  refine (spec_l1Once.e 12 D.out.cur D.out.bel hc (by omega)).mono ?_
  rintro x w2 ⟨bb1, rfl, hD⟩
  replace BF := Aside0.mk (hD.blk BF.out NF)
  replace BR := Aside0.mk (hD.blk BR.out NR)
  replace RP := Aside0.mk (hD.R RP.out (fun _ hk => hk))
  replace D := Aside0.mk (D.out.call hD)
  clear hD
  cases bb1
  · have E := Aside0.mk (D.out.toR (Value.slice A5 ps.length c5).ownBlock)
    have y0 := (blk_cell BF.out 0).trans rfl
    have yz0 := blk_frozen BF.out 0
    have y1 := (blk_cell BF.out 1).trans rfl
    have yz1 := blk_frozen BF.out 1
    have y2 := (blk_cell BF.out 2).trans rfl
    have yz2 := blk_frozen BF.out 2
    have y3 := (blk_cell BF.out 3).trans rfl
    have yz3 := blk_frozen BF.out 3
    have y4 := (blk_cell BF.out 4).trans rfl
    have yz4 := blk_frozen BF.out 4
    have y5 := (blk_cell BF.out 5).trans rfl
    have yz5 := blk_frozen BF.out 5
    have y6 := (blk_cell BF.out 6).trans rfl
    have yz6 := blk_frozen BF.out 6
    have y7 := (blk_cell BF.out 7).trans rfl
    have yz7 := blk_frozen BF.out 7
    have z0 := (blk_cell BR.out 0).trans rfl
    have zz0 := blk_frozen BR.out 0
    have z1 := (blk_cell BR.out 1).trans rfl
    have zz1 := blk_frozen BR.out 1
    have z2 := (blk_cell BR.out 2).trans rfl
    have zz2 := blk_frozen BR.out 2
    have z3 := (blk_cell BR.out 3).trans rfl
    have zz3 := blk_frozen BR.out 3
    have z4 := (blk_cell BR.out 4).trans rfl
    have zz4 := blk_frozen BR.out 4
    have z5 := (blk_cell BR.out 5).trans rfl
    have zz5 := blk_frozen BR.out 5
    have z6 := (blk_cell BR.out 6).trans rfl
    have zz6 := blk_frozen BR.out 6
    have z7 := (blk_cell BR.out 7).trans rfl
    have zz7 := blk_frozen BR.out 7
    go_wp2_with fail
    have BR2 := Aside0.mk (put8_blk BR.out (.slice A0 ch.length c0) (.int .i64 d) (.int .i64 u) (.slice A3 es.length c3) (.int .i64 (h)) (.slice A5 ps.length c5) (.int .i64 (cl)) (.int .i64 (kp)))
    refine bodyPost_ret (results_c1 rfl _ _ (w.heap.size + 1) 32 #[.slice A0 ch.length c0, .int .i64 d, .int .i64 u, .slice A3 es.length c3, .int .i64 (h), .slice A5 ps.length c5, .int .i64 (cl), .int .i64 (kp)] (0, 0) _ rfl BR2.out Tryd.underlying32 rfl (by kernel_rfl)) rfl ?_
    exact ⟨_, _, ps, _, _, _, rfl, put8_R RP.out BR.out (by decide) _ _ _ _ _ _ _ _, (by first | omega | simp), put8_E E.out HL (Nat.le_succ _) NR _ _ _ _ _ _ _ _⟩
  · skip
    go_wp2_with fail
    refine (spec_l1Below.e 6 D.out.cur D.out.bel hc (by omega)).mono ?_
    rintro x w3 ⟨r, rfl, ⟨r0, r1, _⟩, hD⟩
    have r2 := r1 (by omega)
    replace BF := Aside0.mk (hD.blk BF.out NF)
    replace BR := Aside0.mk (hD.blk BR.out NR)
    replace RP := Aside0.mk (hD.R RP.out (fun _ hk => hk))
    replace D := Aside0.mk (D.out.call hD)
    clear hD r1
    rcases (show r = 0 ∨ r = 1 ∨ r = 2 ∨ r = 3 ∨ r = 4 ∨ r = 5 by omega) with rfl | rfl | rfl | rfl | rfl | rfl
    · skip
      have y4 := (blk_cell BF.out 4).trans rfl
      have yz4 := blk_frozen BF.out 4
      go_upto_region 17 with fail
      clear y4 yz4
      replace RP := Aside0.mk (Kd.R_set RP.out BF.out (by decide) 4 (.int .i64 (wrap64 (h + 1))))
      replace BR := Aside0.mk (blk_far BR.out (p := ⟨w.heap.size, 4, none⟩) (Ne.symm ne_BF_BR) (.int .i64 (wrap64 (h + 1))))
      replace BF := Aside0.mk (show (w3.setCell ⟨w.heap.size, 4, none⟩ (.int .i64 (wrap64 (h + 1)))).heap[w.heap.size]? = some (.cells #[.slice A0 ch.length c0, .int .i64 d, .int .i64 u, .slice A3 es.length c3, .int .i64 (wrap64 (h + 1)), .slice A5 ps.length c5, .int .i64 (cl), .int .i64 (kp)] 32 (0, 0)) from blk_set BF.out 4 (.int .i64 (wrap64 (h + 1))))
      replace D := Aside0.mk (D.out.set HL (p := ⟨w.heap.size, 4, none⟩) ge_BF NF (.int .i64 (wrap64 (h + 1))))
      generalize w3.setCell ⟨w.heap.size, 4, none⟩ (.int .i64 (wrap64 (h + 1))) = w4 at *
      have E := Aside0.mk (D.out.toR (Value.slice A5 ps.length c5).ownBlock)
      have y0 := (blk_cell BF.out 0).trans rfl
      have yz0 := blk_frozen BF.out 0
      have y1 := (blk_cell BF.out 1).trans rfl
      have yz1 := blk_frozen BF.out 1
      have y2 := (blk_cell BF.out 2).trans rfl
      have yz2 := blk_frozen BF.out 2
      have y3 := (blk_cell BF.out 3).trans rfl
      have yz3 := blk_frozen BF.out 3
      have y4 := (blk_cell BF.out 4).trans rfl
      have yz4 := blk_frozen BF.out 4
      have y5 := (blk_cell BF.out 5).trans rfl
      have yz5 := blk_frozen BF.out 5
      have y6 := (blk_cell BF.out 6).trans rfl
      have yz6 := blk_frozen BF.out 6
      have y7 := (blk_cell BF.out 7).trans rfl
      have yz7 := blk_frozen BF.out 7
      have z0 := (blk_cell BR.out 0).trans rfl
      have zz0 := blk_frozen BR.out 0
      have z1 := (blk_cell BR.out 1).trans rfl
      have zz1 := blk_frozen BR.out 1
      have z2 := (blk_cell BR.out 2).trans rfl
      have zz2 := blk_frozen BR.out 2
      have z3 := (blk_cell BR.out 3).trans rfl
      have zz3 := blk_frozen BR.out 3
      have z4 := (blk_cell BR.out 4).trans rfl
      have zz4 := blk_frozen BR.out 4
      have z5 := (blk_cell BR.out 5).trans rfl
      have zz5 := blk_frozen BR.out 5
      have z6 := (blk_cell BR.out 6).trans rfl
      have zz6 := blk_frozen BR.out 6
      have z7 := (blk_cell BR.out 7).trans rfl
      have zz7 := blk_frozen BR.out 7
      go_wp2_with fail
      have BR2 := Aside0.mk (put8_blk BR.out (.slice A0 ch.length c0) (.int .i64 d) (.int .i64 u) (.slice A3 es.length c3) (.int .i64 (wrap64 (h + 1))) (.slice A5 ps.length c5) (.int .i64 (cl)) (.int .i64 (kp)))
      refine bodyPost_ret (results_c1 rfl _ _ (w.heap.size + 1) 32 #[.slice A0 ch.length c0, .int .i64 d, .int .i64 u, .slice A3 es.length c3, .int .i64 (wrap64 (h + 1)), .slice A5 ps.length c5, .int .i64 (cl), .int .i64 (kp)] (0, 0) _ rfl BR2.out Tryd.underlying32 rfl (by kernel_rfl)) rfl ?_
      exact ⟨_, _, ps, _, _, _, rfl, put8_R RP.out BR.out (by decide) _ _ _ _ _ _ _ _, (by first | omega | simp), put8_E E.out HL (Nat.le_succ _) NR _ _ _ _ _ _ _ _⟩
    · skip
      have y0 := (blk_cell BF.out 0).trans rfl
      have yz0 := blk_frozen BF.out 0
      go_wp2_with (first | ((with_reducible refine gate_dst (N := 31) rfl ?_); refine Kd.R_lit (Kd.int .i64) _ 3 ?hg (N := 31) ?hd (xs := ([(-1), (0), ((ch.length : Int) - 1), ((ch.length : Int))] : List Int)) (inner := [.int .i64 (-1), .int .i64 (0), .int .i64 ((ch.length : Int) - 1), .int .i64 ((ch.length : Int))]) (ok := fun _ => True) (okp := fun _ => True) ?hr ?hp (fun _ hk => hk) trivial (Below.refl _ _) (Nat.le_refl _) (by simp) ?_; (case hd => rfl); (case hg => rfl); (case hr => first | (go_simp; done) | (go_simp; rfl)); (case hp => exact (Reps.one (show Kd.M (Kd.int .i64) _ _ _ (-1) [.int .i64 (-1)] from rfl) (Reps.one (show Kd.M (Kd.int .i64) _ _ _ (0) [.int .i64 (0)] from rfl) (Reps.one (show Kd.M (Kd.int .i64) _ _ _ ((ch.length : Int) - 1) [.int .i64 ((ch.length : Int) - 1)] from rfl) (Reps.one (show Kd.M (Kd.int .i64) _ _ _ ((ch.length : Int)) [.int .i64 ((ch.length : Int))] from rfl) (Reps.none _ _)))))); intro v31 w4 ho hb hg_ hnew_; clear hg_ hnew_; have hgL := D.out.cur.lt; replace BF := Aside0.mk (blk_below BF.out hb); replace BR := Aside0.mk (blk_below BR.out hb); replace RP := Aside0.mk (Kd.R_below RP.out hb); replace D := Aside0.mk (D.out.below hb); have LIT := Aside0.mk ho; clear hb ho))
      obtain ⟨AL, cL, eL⟩ := Kd.R_slice LIT.out
      subst eL
      clear y0 yz0
      refine (spec_l1PickInt.e AL cL ([(-1), (0), ((ch.length : Int) - 1), ((ch.length : Int))] : List Int) D.out.cur D.out.bel hc (Kd.R_reads' LIT.out).2.2 (Kd.R_reads' LIT.out).2.1 (row_far LIT.out hgL) (by simp) (by simp)).mono ?_
      rintro x w5 ⟨kp1, rfl, hm, hD⟩
      replace BF := Aside0.mk (hD.blk BF.out NF)
      replace BR := Aside0.mk (hD.blk BR.out NR)
      replace RP := Aside0.mk (hD.R RP.out (fun _ hk => hk))
      replace D := Aside0.mk (D.out.call hD)
      clear hD LIT hgL
      clear hm
      have y7 := (blk_cell BF.out 7).trans rfl
      have yz7 := blk_frozen BF.out 7
      go_upto_region 17 with fail
      clear y7 yz7
      replace RP := Aside0.mk (Kd.R_set RP.out BF.out (by decide) 7 (.int .i64 kp1))
      replace BR := Aside0.mk (blk_far BR.out (p := ⟨w.heap.size, 7, none⟩) (Ne.symm ne_BF_BR) (.int .i64 kp1))
      replace BF := Aside0.mk (show (w5.setCell ⟨w.heap.size, 7, none⟩ (.int .i64 kp1)).heap[w.heap.size]? = some (.cells #[.slice A0 ch.length c0, .int .i64 d, .int .i64 u, .slice A3 es.length c3, .int .i64 (h), .slice A5 ps.length c5, .int .i64 (cl), .int .i64 (kp1)] 32 (0, 0)) from blk_set BF.out 7 (.int .i64 kp1))
      replace D := Aside0.mk (D.out.set HL (p := ⟨w.heap.size, 7, none⟩) ge_BF NF (.int .i64 kp1))
      generalize w5.setCell ⟨w.heap.size, 7, none⟩ (.int .i64 kp1) = w6 at *
      have E := Aside0.mk (D.out.toR (Value.slice A5 ps.length c5).ownBlock)
      have y0 := (blk_cell BF.out 0).trans rfl
      have yz0 := blk_frozen BF.out 0
      have y1 := (blk_cell BF.out 1).trans rfl
      have yz1 := blk_frozen BF.out 1
      have y2 := (blk_cell BF.out 2).trans rfl
      have yz2 := blk_frozen BF.out 2
      have y3 := (blk_cell BF.out 3).trans rfl
      have yz3 := blk_frozen BF.out 3
      have y4 := (blk_cell BF.out 4).trans rfl
      have yz4 := blk_frozen BF.out 4
      have y5 := (blk_cell BF.out 5).trans rfl
      have yz5 := blk_frozen BF.out 5
      have y6 := (blk_cell BF.out 6).trans rfl
      have yz6 := blk_frozen BF.out 6
      have y7 := (blk_cell BF.out 7).trans rfl
      have yz7 := blk_frozen BF.out 7
      have z0 := (blk_cell BR.out 0).trans rfl
      have zz0 := blk_frozen BR.out 0
      have z1 := (blk_cell BR.out 1).trans rfl
      have zz1 := blk_frozen BR.out 1
      have z2 := (blk_cell BR.out 2).trans rfl
      have zz2 := blk_frozen BR.out 2
      have z3 := (blk_cell BR.out 3).trans rfl
      have zz3 := blk_frozen BR.out 3
      have z4 := (blk_cell BR.out 4).trans rfl
      have zz4 := blk_frozen BR.out 4
      have z5 := (blk_cell BR.out 5).trans rfl
      have zz5 := blk_frozen BR.out 5
      have z6 := (blk_cell BR.out 6).trans rfl
      have zz6 := blk_frozen BR.out 6
      have z7 := (blk_cell BR.out 7).trans rfl
      have zz7 := blk_frozen BR.out 7
      go_wp2_with fail
      have BR2 := Aside0.mk (put8_blk BR.out (.slice A0 ch.length c0) (.int .i64 d) (.int .i64 u) (.slice A3 es.length c3) (.int .i64 (h)) (.slice A5 ps.length c5) (.int .i64 (cl)) (.int .i64 (kp1)))
      refine bodyPost_ret (results_c1 rfl _ _ (w.heap.size + 1) 32 #[.slice A0 ch.length c0, .int .i64 d, .int .i64 u, .slice A3 es.length c3, .int .i64 (h), .slice A5 ps.length c5, .int .i64 (cl), .int .i64 (kp1)] (0, 0) _ rfl BR2.out Tryd.underlying32 rfl (by kernel_rfl)) rfl ?_
      exact ⟨_, _, ps, _, _, _, rfl, put8_R RP.out BR.out (by decide) _ _ _ _ _ _ _ _, (by first | omega | simp), put8_E E.out HL (Nat.le_succ _) NR _ _ _ _ _ _ _ _⟩
    · skip
      have y5 := (blk_cell BF.out 5).trans rfl
      have yz5 := blk_frozen BF.out 5
      go_wp2_with (first | ((with_reducible refine gate_dst (N := 44) rfl ?_); refine Kd.R_lit (Kd.int .i64) _ 3 ?hg (N := 44) ?hd (xs := ([(-1), ((ps.length : Int)), ((ps.length : Int) + 1)] : List Int)) (inner := [.int .i64 (-1), .int .i64 ((ps.length : Int)), .int .i64 ((ps.length : Int) + 1)]) (ok := fun _ => True) (okp := fun _ => True) ?hr ?hp (fun _ hk => hk) trivial (Below.refl _ _) (Nat.le_refl _) (by simp) ?_; (case hd => rfl); (case hg => rfl); (case hr => first | (go_simp; done) | (go_simp; rfl)); (case hp => exact (Reps.one (show Kd.M (Kd.int .i64) _ _ _ (-1) [.int .i64 (-1)] from rfl) (Reps.one (show Kd.M (Kd.int .i64) _ _ _ ((ps.length : Int)) [.int .i64 ((ps.length : Int))] from rfl) (Reps.one (show Kd.M (Kd.int .i64) _ _ _ ((ps.length : Int) + 1) [.int .i64 ((ps.length : Int) + 1)] from rfl) (Reps.none _ _))))); intro v44 w4 ho hb hg_ hnew_; clear hg_ hnew_; have hgL := D.out.cur.lt; replace BF := Aside0.mk (blk_below BF.out hb); replace BR := Aside0.mk (blk_below BR.out hb); replace RP := Aside0.mk (Kd.R_below RP.out hb); replace D := Aside0.mk (D.out.below hb); have LIT := Aside0.mk ho; clear hb ho))
      obtain ⟨AL, cL, eL⟩ := Kd.R_slice LIT.out
      subst eL
      clear y5 yz5
      refine (spec_l1PickInt.e AL cL ([(-1), ((ps.length : Int)), ((ps.length : Int) + 1)] : List Int) D.out.cur D.out.bel hc (Kd.R_reads' LIT.out).2.2 (Kd.R_reads' LIT.out).2.1 (row_far LIT.out hgL) (by simp) (by simp)).mono ?_
      rintro x w5 ⟨cl1, rfl, hm, hD⟩
      replace BF := Aside0.mk (hD.blk BF.out NF)
      replace BR := Aside0.mk (hD.blk BR.out NR)
      replace RP := Aside0.mk (hD.R RP.out (fun _ hk => hk))
      replace D := Aside0.mk (D.out.call hD)
      clear hD LIT hgL
      clear hm
      have y6 := (blk_cell BF.out 6).trans rfl
      have yz6 := blk_frozen BF.out 6
      go_upto_region 17 with fail
      clear y6 yz6
      replace RP := Aside0.mk (Kd.R_set RP.out BF.out (by decide) 6 (.int .i64 cl1))
      replace BR := Aside0.mk (blk_far BR.out (p := ⟨w.heap.size, 6, none⟩) (Ne.symm ne_BF_BR) (.int .i64 cl1))
      replace BF := Aside0.mk (show (w5.setCell ⟨w.heap.size, 6, none⟩ (.int .i64 cl1)).heap[w.heap.size]? = some (.cells #[.slice A0 ch.length c0, .int .i64 d, .int .i64 u, .slice A3 es.length c3, .int .i64 (h), .slice A5 ps.length c5, .int .i64 (cl1), .int .i64 (kp)] 32 (0, 0)) from blk_set BF.out 6 (.int .i64 cl1))
      replace D := Aside0.mk (D.out.set HL (p := ⟨w.heap.size, 6, none⟩) ge_BF NF (.int .i64 cl1))
      generalize w5.setCell ⟨w.heap.size, 6, none⟩ (.int .i64 cl1) = w6 at *
      have E := Aside0.mk (D.out.toR (Value.slice A5 ps.length c5).ownBlock)
      have y0 := (blk_cell BF.out 0).trans rfl
      have yz0 := blk_frozen BF.out 0
      have y1 := (blk_cell BF.out 1).trans rfl
      have yz1 := blk_frozen BF.out 1
      have y2 := (blk_cell BF.out 2).trans rfl
      have yz2 := blk_frozen BF.out 2
      have y3 := (blk_cell BF.out 3).trans rfl
      have yz3 := blk_frozen BF.out 3
      have y4 := (blk_cell BF.out 4).trans rfl
      have yz4 := blk_frozen BF.out 4
      have y5 := (blk_cell BF.out 5).trans rfl
      have yz5 := blk_frozen BF.out 5
      have y6 := (blk_cell BF.out 6).trans rfl
      have yz6 := blk_frozen BF.out 6
      have y7 := (blk_cell BF.out 7).trans rfl
      have yz7 := blk_frozen BF.out 7
      have z0 := (blk_cell BR.out 0).trans rfl
      have zz0 := blk_frozen BR.out 0
      have z1 := (blk_cell BR.out 1).trans rfl
      have zz1 := blk_frozen BR.out 1
      have z2 := (blk_cell BR.out 2).trans rfl
      have zz2 := blk_frozen BR.out 2
      have z3 := (blk_cell BR.out 3).trans rfl
      have zz3 := blk_frozen BR.out 3
      have z4 := (blk_cell BR.out 4).trans rfl
      have zz4 := blk_frozen BR.out 4
      have z5 := (blk_cell BR.out 5).trans rfl
      have zz5 := blk_frozen BR.out 5
      have z6 := (blk_cell BR.out 6).trans rfl
      have zz6 := blk_frozen BR.out 6
      have z7 := (blk_cell BR.out 7).trans rfl
      have zz7 := blk_frozen BR.out 7
      go_wp2_with fail
      have BR2 := Aside0.mk (put8_blk BR.out (.slice A0 ch.length c0) (.int .i64 d) (.int .i64 u) (.slice A3 es.length c3) (.int .i64 (h)) (.slice A5 ps.length c5) (.int .i64 (cl1)) (.int .i64 (kp)))
      refine bodyPost_ret (results_c1 rfl _ _ (w.heap.size + 1) 32 #[.slice A0 ch.length c0, .int .i64 d, .int .i64 u, .slice A3 es.length c3, .int .i64 (h), .slice A5 ps.length c5, .int .i64 (cl1), .int .i64 (kp)] (0, 0) _ rfl BR2.out Tryd.underlying32 rfl (by kernel_rfl)) rfl ?_
      exact ⟨_, _, ps, _, _, _, rfl, put8_R RP.out BR.out (by decide) _ _ _ _ _ _ _ _, (by first | omega | simp), put8_E E.out HL (Nat.le_succ _) NR _ _ _ _ _ _ _ _⟩
    · skip
      obtain ⟨gp, cap, eo, gb, gl, cells, HGp⟩ := Kd.R_form RP.out (by omega)
      have ea : A5 = some ⟨gp, 0, none⟩ := by injection eo
      have ec : c5 = cap := by injection eo
      clear eo
      subst ea ec
      have ngg : gp ≠ g := RP.out.1 gp rfl
      have ngF : gp ≠ w.heap.size := blk_ne HGp BF.out (by decide)
      have ngR : gp ≠ w.heap.size + 1 := blk_ne HGp BR.out (by decide)
      clear HGp gl
      have hp0 : 0 < ps.length := by omega
      go_upto_region 11 with fail
      try go_wp2_with fail
      obtain ⟨ce, hcl, hM, hcc, hfr⟩ := Kd.R_elem RP.out z66 0 (by omega) (by omega)
      obtain rfl := k66_openM hM
      have x0 : w3.cell? ⟨gp, 0, none⟩ = some (.int .i64 (rd_T66 ps 0).f0) := hcc 0 _ rfl
      have f0 : w3.frozen? ⟨gp, 0, none⟩ = false := hfr 0
      clear hcl hM hcc hfr
      replace x0 : w3.drew.cell? ⟨gp, 0, none⟩ = some (.int .i64 (rd_T66 ps 0).f0) := x0
      replace f0 : w3.drew.frozen? ⟨gp, 0, none⟩ = false := f0
      replace RP := Aside0.mk (Kd.R_drew RP.out)
      replace BF := Aside0.mk (blk_drew BF.out)
      replace BR := Aside0.mk (blk_drew BR.out)
      replace D := Aside0.mk D.out.drew
      refine start_ (n := 14) (S := fun w' => w'.cell? ⟨w.heap.size, 5, none⟩ = some (.slice (some ⟨gp, 0, none⟩) ps.length c5) ∧ w'.cell? ⟨gp, 0, none⟩ = some (.int .i64 (rd_T66 ps 0).f0)) (ds := [13]) #[false, false, false, false, false, false, false, false, false, false, false, false, false, false] (by kernel_rfl) rfl rfl ⟨(blk_cell BF.out 5).trans rfl, x0⟩ (fun hHeld => ?_)
      refine with_tabW spec_l6Spoil.tab11 spec_l6Spoil.bits11 (fun HT_ HW_ => ?_)
      generalize w3.drew = w4 at *
      refine pure_ (i := 0) (N := some 49) (v := ?_) (a' := ?_) #[true, false, false, false, false, false, false, false, false, false, false, false, false, false] rfl rfl (any_of HT_.out (by kernel_rfl)) (fun _ _ _ h => h) (Or.inl ⟨by rfl, ?_⟩) ?_ ?_
      rotate_left
      · intro w'
        go_simp
        with_reducible rfl
      rotate_left
      · simp only [Act.put, List.setIfInBounds_toArray, List.set_cons_zero, List.set_cons_succ, i64_w, i32_w]
        rfl
      refine pure_ (i := 2) (N := some 51) (v := ?_) (a' := ?_) #[true, false, true, false, false, false, false, false, false, false, false, false, false, false] rfl rfl (any_of HT_.out (by kernel_rfl)) (fun _ _ _ h => h) (Or.inl ⟨by rfl, ?_⟩) ?_ ?_
      rotate_left
      · intro w'
        go_simp
        with_reducible rfl
      rotate_left
      · simp only [Act.put, List.setIfInBounds_toArray, List.set_cons_zero, List.set_cons_succ, i64_w, i32_w]
        rfl
      refine pure_ (i := 7) (N := some 56) (v := ?_) (a' := ?_) #[true, false, true, false, false, false, false, true, false, false, false, false, false, false] rfl rfl (any_of HT_.out (by kernel_rfl)) (fun _ _ _ h => h) (Or.inl ⟨by rfl, ?_⟩) ?_ ?_
      rotate_left
      · intro w'
        go_simp
        with_reducible rfl
      rotate_left
      · simp only [Act.put, List.setIfInBounds_toArray, List.set_cons_zero, List.set_cons_succ, i64_w, i32_w]
        rfl
      refine take_ (i := 1) (N := some 50) (v := ?_) (a' := ?_) #[true, true, true, false, false, false, false, true, false, false, false, false, false, false] rfl rfl (take_ofW HT_.out HW_.out (by kernel_rfl)) (fun _ _ _ h => h) (Or.inl ⟨by rfl, ?_⟩) hHeld ?_ ?_
      rotate_left
      · rintro w' ⟨s0, s1⟩
        go_simp
        with_reducible rfl
      rotate_left
      · simp only [Act.put, List.setIfInBounds_toArray, List.set_cons_zero, List.set_cons_succ, i64_w, i32_w]
        rfl
      refine take_ (i := 3) (N := some 52) (v := ?_) (a' := ?_) #[true, true, true, true, false, false, false, true, false, false, false, false, false, false] rfl rfl (take_ofW HT_.out HW_.out (by kernel_rfl)) (fun _ _ _ h => h) (Or.inl ⟨by rfl, ?_⟩) hHeld ?_ ?_
      rotate_left
      · rintro w' ⟨s0, s1⟩
        go_simp
        with_reducible rfl
      rotate_left
      · simp only [Act.put, List.setIfInBounds_toArray, List.set_cons_zero, List.set_cons_succ, i64_w, i32_w]
        rfl
      refine pure_ (i := 4) (N := some 53) (v := ?_) (a' := ?_) #[true, true, true, true, true, false, false, true, false, false, false, false, false, false] rfl rfl (any_of HT_.out (by kernel_rfl)) (fun _ _ _ h => h) (Or.inl ⟨by rfl, ?_⟩) ?_ ?_
      rotate_left
      · intro w'
        go_simp
        with_reducible rfl
      rotate_left
      · simp only [Act.put, List.setIfInBounds_toArray, List.set_cons_zero, List.set_cons_succ, i64_w, i32_w]
        rfl
      refine pure_ (i := 5) (N := some 54) (v := ?_) (a' := ?_) #[true, true, true, true, true, true, false, true, false, false, false, false, false, false] rfl rfl (any_of HT_.out (by kernel_rfl)) (fun _ _ _ h => h) (Or.inl ⟨by rfl, ?_⟩) ?_ ?_
      rotate_left
      · intro w'
        go_simp
        with_reducible rfl
      rotate_left
      · simp only [Act.put, List.setIfInBounds_toArray, List.set_cons_zero, List.set_cons_succ, i64_w, i32_w]
        rfl
      refine take_ (i := 6) (N := some 55) (v := ?_) (a' := ?_) #[true, true, true, true, true, true, true, true, false, false, false, false, false, false] rfl rfl (take_ofW HT_.out HW_.out (by kernel_rfl)) (fun _ _ _ h => h) (Or.inl ⟨by rfl, ?_⟩) hHeld ?_ ?_
      rotate_left
      · rintro w' ⟨s0, s1⟩
        go_simp
        with_reducible rfl
      rotate_left
      · simp only [Act.put, List.setIfInBounds_toArray, List.set_cons_zero, List.set_cons_succ, i64_w, i32_w]
        rfl
      refine one_ (i := 8) (N := some 57) #[true, true, true, true, true, true, true, true, true, false, false, false, false, false] rfl rfl (one_of HT_.out (by kernel_rfl)) (by decide) (fun K hK => ?_)
      refine value_ (w1 := ?_) (v := ?_) (by rfl) rfl ?_ ?_
      rotate_left 2
      · go_simp
        constructor
        · rfl
        · rfl
      refine hK.out _ _ ⟨(blk_cell (blk_alloc BF.out _) 5).trans rfl, pw_cell_below (below_alloc (Below.refl w4.heap.size w4) _) x0⟩ (fun hHeld => ?_)
      clear hK K
      refine norm_ (a' := ?_) ?_ ?_
      rotate_left
      · show Act.put _ (some 57) _ = _
        simp only [Act.put, List.setIfInBounds_toArray, List.set_cons_zero, List.set_cons_succ, i64_w, i32_w]
        rfl
      refine one_ (i := 9) (N := some 58) #[true, true, true, true, true, true, true, true, true, true, false, false, false, false] rfl rfl (one_of HT_.out (by kernel_rfl)) (by decide) (fun K hK => ?_)
      refine goes_ Tryd.func33 (by kernel_rfl) rfl #[.pointer (some ⟨g, 0, none⟩), .slice (some ⟨w4.heap.size, 0, none⟩) 3 3] (by rfl) rfl rfl (by (try simp only [List.map_toArray, List.map_cons, List.map_nil]); first | done | rfl) ?_
      refine (spec_l1PickInt.e (some ⟨w4.heap.size, 0, none⟩) 3 [(-1), 100, 1] (D.out.alloc _).cur (D.out.alloc _).bel hc (ints_lit _ [(-1), 100, 1] _ rfl (by simp)) (Nat.le_refl _) (fun ad ha _ => by injection ha with ha; rw [← ha]; exact Nat.ne_of_gt D.out.cur.lt) (by simp) (by simp)).mono ?_
      rintro x w5 ⟨r, rfl, _, hD⟩
      refine ⟨_, rfl, ?_⟩
      replace BF := Aside0.mk (hD.blk (blk_alloc BF.out _) NF)
      replace BR := Aside0.mk (hD.blk (blk_alloc BR.out _) NR)
      replace RP := Aside0.mk (hD.R (Kd.R_alloc RP.out _) (fun _ hk => hk))
      replace D := Aside0.mk ((D.out.alloc _).call hD)
      clear x0 f0 hD
      obtain ⟨ce, hcl, hM, hcc, hfr⟩ := Kd.R_elem RP.out z66 0 (by omega) (by omega)
      obtain rfl := k66_openM hM
      have x0 : w5.cell? ⟨gp, 0, none⟩ = some (.int .i64 (rd_T66 ps 0).f0) := hcc 0 _ rfl
      have f0 : w5.frozen? ⟨gp, 0, none⟩ = false := hfr 0
      clear hcl hM hcc hfr
      refine hK.out _ _ ⟨(blk_cell BF.out 5).trans rfl, x0⟩ (fun hHeld => ?_)
      clear hK K
      refine norm_ (a' := ?_) ?_ ?_
      rotate_left
      · show Act.put _ (some 58) _ = _
        simp only [Act.put, List.setIfInBounds_toArray, List.set_cons_zero, List.set_cons_succ, i64_w, i32_w]
        rfl
      refine pure_ (i := 10) (N := some 59) (v := ?_) (a' := ?_) #[true, true, true, true, true, true, true, true, true, true, true, false, false, false] rfl rfl (any_of HT_.out (by kernel_rfl)) (fun _ _ _ h => h) (Or.inl ⟨by rfl, ?_⟩) ?_ ?_
      rotate_left
      · intro w'
        go_simp
        with_reducible rfl
      rotate_left
      · simp only [Act.put, List.setIfInBounds_toArray, List.set_cons_zero, List.set_cons_succ, i64_w, i32_w]
        rfl
      refine pure_ (i := 11) (N := some 60) (v := ?_) (a' := ?_) #[true, true, true, true, true, true, true, true, true, true, true, true, false, false] rfl rfl (any_of HT_.out (by kernel_rfl)) (fun _ _ _ h => h) (Or.inl ⟨by rfl, ?_⟩) ?_ ?_
      rotate_left
      · intro w'
        go_simp
        with_reducible rfl
      rotate_left
      · simp only [Act.put, List.setIfInBounds_toArray, List.set_cons_zero, List.set_cons_succ, i64_w, i32_w]
        rfl
      refine pure_ (i := 12) (N := some 61) (v := ?_) (a' := ?_) #[true, true, true, true, true, true, true, true, true, true, true, true, true, false] rfl rfl (any_of HT_.out (by kernel_rfl)) (fun _ _ _ h => h) (Or.inl ⟨by rfl, ?_⟩) ?_ ?_
      rotate_left
      · intro w'
        go_simp
        with_reducible rfl
      rotate_left
      · simp only [Act.put, List.setIfInBounds_toArray, List.set_cons_zero, List.set_cons_succ, i64_w, i32_w]
        rfl
      refine last_ (i := 13) (N := none) #[true, true, true, true, true, true, true, true, true, true, true, true, true, true] rfl rfl (one_of HT_.out (by kernel_rfl)) (by decide) (fun K hK => ?_)
      refine skip_ (w1 := ?_) (by rfl) rfl ?_ ?_
      rotate_left
      · go_simp
        rfl
      refine hK.out _ _ ?_
      clear hK K
      refine done_ (done_of HT_.out (by kernel_rfl)) ?_
      go_upto_region 17 with fail
      clear x0 f0
      obtain ⟨qs, hq, RQ⟩ := per_field RP.out 0 (by omega) (by omega) (wrap64 ((rd_T66 ps 0).f0 + r))
      have RQ := Aside0.mk (show k66.R 66 (w5.setCell ⟨gp, 0, none⟩ (.int .i64 (wrap64 ((rd_T66 ps 0).f0 + r)))) bb (fun k => k ≠ g) (.slice (some ⟨gp, 0, none⟩) qs.length c5) qs from by rw [hq]; exact RQ)
      have E := Aside0.mk ((D.out.toR (some gp)).setRow (by omega) ngg 0 (.int .i64 (wrap64 ((rd_T66 ps 0).f0 + r))))
      replace BF := Aside0.mk (show (w5.setCell ⟨gp, 0, none⟩ (.int .i64 (wrap64 ((rd_T66 ps 0).f0 + r)))).heap[w.heap.size]? = some (.cells #[.slice A0 ch.length c0, .int .i64 d, .int .i64 u, .slice A3 es.length c3, .int .i64 (h), .slice (some ⟨gp, 0, none⟩) qs.length c5, .int .i64 (cl), .int .i64 (kp)] 32 (0, 0)) from by rw [hq]; exact blk_far BF.out (p := ⟨gp, 0, none⟩) (Ne.symm ngF) _)
      replace BR := Aside0.mk (blk_far BR.out (p := ⟨gp, 0, none⟩) (Ne.symm ngR) (.int .i64 (wrap64 ((rd_T66 ps 0).f0 + r))))
      clear RP D
      generalize w5.setCell ⟨gp, 0, none⟩ (.int .i64 (wrap64 ((rd_T66 ps 0).f0 + r))) = w6 at *
      have hq2 : qs.length ≤ ps.length := by omega
      clear hq
      have y0 := (blk_cell BF.out 0).trans rfl
      have yz0 := blk_frozen BF.out 0
      have y1 := (blk_cell BF.out 1).trans rfl
      have yz1 := blk_frozen BF.out 1
      have y2 := (blk_cell BF.out 2).trans rfl
      have yz2 := blk_frozen BF.out 2
      have y3 := (blk_cell BF.out 3).trans rfl
      have yz3 := blk_frozen BF.out 3
      have y4 := (blk_cell BF.out 4).trans rfl
      have yz4 := blk_frozen BF.out 4
      have y5 := (blk_cell BF.out 5).trans rfl
      have yz5 := blk_frozen BF.out 5
      have y6 := (blk_cell BF.out 6).trans rfl
      have yz6 := blk_frozen BF.out 6
      have y7 := (blk_cell BF.out 7).trans rfl
      have yz7 := blk_frozen BF.out 7
      have z0 := (blk_cell BR.out 0).trans rfl
      have zz0 := blk_frozen BR.out 0
      have z1 := (blk_cell BR.out 1).trans rfl
      have zz1 := blk_frozen BR.out 1
      have z2 := (blk_cell BR.out 2).trans rfl
      have zz2 := blk_frozen BR.out 2
      have z3 := (blk_cell BR.out 3).trans rfl
      have zz3 := blk_frozen BR.out 3
      have z4 := (blk_cell BR.out 4).trans rfl
      have zz4 := blk_frozen BR.out 4
      have z5 := (blk_cell BR.out 5).trans rfl
      have zz5 := blk_frozen BR.out 5
      have z6 := (blk_cell BR.out 6).trans rfl
      have zz6 := blk_frozen BR.out 6
      have z7 := (blk_cell BR.out 7).trans rfl
      have zz7 := blk_frozen BR.out 7
      go_wp2_with fail
      have BR2 := Aside0.mk (put8_blk BR.out (.slice A0 ch.length c0) (.int .i64 d) (.int .i64 u) (.slice A3 es.length c3) (.int .i64 (h)) (.slice (some ⟨gp, 0, none⟩) qs.length c5) (.int .i64 (cl)) (.int .i64 (kp)))
      refine bodyPost_ret (results_c1 rfl _ _ (w.heap.size + 1) 32 #[.slice A0 ch.length c0, .int .i64 d, .int .i64 u, .slice A3 es.length c3, .int .i64 (h), .slice (some ⟨gp, 0, none⟩) qs.length c5, .int .i64 (cl), .int .i64 (kp)] (0, 0) _ rfl BR2.out Tryd.underlying32 rfl (by kernel_rfl)) rfl ?_
      exact ⟨_, _, qs, _, _, _, rfl, put8_R RQ.out BR.out (by decide) _ _ _ _ _ _ _ _, (by first | omega | simp), put8_E E.out HL (Nat.le_succ _) NR _ _ _ _ _ _ _ _⟩
    · skip
      have hws := D.out.size
      go_upto_region 17 with (first | ((with_reducible refine gate_dst (N := 64) rfl ?_); refine Kd.R_lit k66 _ 66 ?hg (N := 64) ?hd (xs := ([] : List S66)) (inner := []) (ok := fun _ => True) (okp := fun _ => True) ?hr ?hp (fun _ hk => hk) trivial (Below.refl _ _) (Nat.le_refl _) (by simp) ?_; (case hd => rfl); (case hg => rfl); (case hr => first | (go_simp; done) | (go_simp; rfl)); (case hp => exact (Reps.none _ _)); intro v64 w4 ho hb hg_ hnew_; clear hg_ hnew_; replace BF := Aside0.mk (blk_below BF.out hb); replace BR := Aside0.mk (blk_below BR.out hb); replace RP := Aside0.mk (Kd.R_below RP.out hb); replace D := Aside0.mk (D.out.below hb); obtain ⟨AL, cL, eL⟩ := Kd.R_slice ho; subst eL; have GW := Aside0.mk (D.out.cur.apart ho (by decide)); have RQ := Aside0.mk (Kd.R_mono (Kd.R_lower GW.out (base' := bb) (by omega)) (ok' := fun k => k ≠ g) (fun k hk => hk.2)); have y5 := (blk_cell BF.out 5).trans rfl; have yz5 := blk_frozen BF.out 5; clear hb ho GW))
      clear y5 yz5
      replace RP := Aside0.mk (Kd.R_set RP.out BF.out (by decide) 5 (.slice AL 0 cL))
      replace RQ := Aside0.mk (Kd.R_set RQ.out BF.out (by decide) 5 (.slice AL 0 cL))
      replace BR := Aside0.mk (blk_far BR.out (p := ⟨w.heap.size, 5, none⟩) (Ne.symm ne_BF_BR) (.slice AL 0 cL))
      replace BF := Aside0.mk (show (w4.setCell ⟨w.heap.size, 5, none⟩ (.slice AL 0 cL)).heap[w.heap.size]? = some (.cells #[.slice A0 ch.length c0, .int .i64 d, .int .i64 u, .slice A3 es.length c3, .int .i64 (h), .slice AL 0 cL, .int .i64 (cl), .int .i64 (kp)] 32 (0, 0)) from blk_set BF.out 5 (.slice AL 0 cL))
      replace D := Aside0.mk (D.out.set HL (p := ⟨w.heap.size, 5, none⟩) ge_BF NF (.slice AL 0 cL))
      generalize w4.setCell ⟨w.heap.size, 5, none⟩ (.slice AL 0 cL) = w5 at *
      have E := Aside0.mk (D.out.toR (Value.slice A5 ps.length c5).ownBlock)
      have y0 := (blk_cell BF.out 0).trans rfl
      have yz0 := blk_frozen BF.out 0
      have y1 := (blk_cell BF.out 1).trans rfl
      have yz1 := blk_frozen BF.out 1
      have y2 := (blk_cell BF.out 2).trans rfl
      have yz2 := blk_frozen BF.out 2
      have y3 := (blk_cell BF.out 3).trans rfl
      have yz3 := blk_frozen BF.out 3
      have y4 := (blk_cell BF.out 4).trans rfl
      have yz4 := blk_frozen BF.out 4
      have y5 := (blk_cell BF.out 5).trans rfl
      have yz5 := blk_frozen BF.out 5
      have y6 := (blk_cell BF.out 6).trans rfl
      have yz6 := blk_frozen BF.out 6
      have y7 := (blk_cell BF.out 7).trans rfl
      have yz7 := blk_frozen BF.out 7
      have z0 := (blk_cell BR.out 0).trans rfl
      have zz0 := blk_frozen BR.out 0
      have z1 := (blk_cell BR.out 1).trans rfl
      have zz1 := blk_frozen BR.out 1
      have z2 := (blk_cell BR.out 2).trans rfl
      have zz2 := blk_frozen BR.out 2
      have z3 := (blk_cell BR.out 3).trans rfl
      have zz3 := blk_frozen BR.out 3
      have z4 := (blk_cell BR.out 4).trans rfl
      have zz4 := blk_frozen BR.out 4
      have z5 := (blk_cell BR.out 5).trans rfl
      have zz5 := blk_frozen BR.out 5
      have z6 := (blk_cell BR.out 6).trans rfl
      have zz6 := blk_frozen BR.out 6
      have z7 := (blk_cell BR.out 7).trans rfl
      have zz7 := blk_frozen BR.out 7
      go_wp2_with fail
      have BR2 := Aside0.mk (put8_blk BR.out (.slice A0 ch.length c0) (.int .i64 d) (.int .i64 u) (.slice A3 es.length c3) (.int .i64 (h)) (.slice AL 0 cL) (.int .i64 (cl)) (.int .i64 (kp)))
      refine bodyPost_ret (results_c1 rfl _ _ (w.heap.size + 1) 32 #[.slice A0 ch.length c0, .int .i64 d, .int .i64 u, .slice A3 es.length c3, .int .i64 (h), .slice AL 0 cL, .int .i64 (cl), .int .i64 (kp)] (0, 0) _ rfl BR2.out Tryd.underlying32 rfl (by kernel_rfl)) rfl ?_
      exact ⟨_, _, [], _, _, _, rfl, put8_R RQ.out BR.out (by decide) _ _ _ _ _ _ _ _, (by first | omega | simp), put8_E E.out HL (Nat.le_succ _) NR _ _ _ _ _ _ _ _⟩
    · skip
      obtain ⟨gp, cap, eo, gb, gl, cells, HGp⟩ := Kd.R_form RP.out (by omega)
      have ea : A5 = some ⟨gp, 0, none⟩ := by injection eo
      have ec : c5 = cap := by injection eo
      clear eo
      subst ea ec
      have ngg : gp ≠ g := RP.out.1 gp rfl
      have ngF : gp ≠ w.heap.size := blk_ne HGp BF.out (by decide)
      have ngR : gp ≠ w.heap.size + 1 := blk_ne HGp BR.out (by decide)
      clear HGp gl
      have y5 := (blk_cell BF.out 5).trans rfl
      have yz5 := blk_frozen BF.out 5
      by_cases hp5 : 1 < ps.length
      · have hp5' : ((ps.length : Int) > 1) := by omega
        go_upto_region 16 with fail
        try go_wp2_with fail
        clear y5 yz5
        obtain ⟨ce, hcl, hM, hcc, hfr⟩ := Kd.R_elem RP.out z66 1 (by omega) (by omega)
        obtain rfl := k66_openM hM
        have x0 : w3.cell? ⟨gp, 2, none⟩ = some (.int .i64 (rd_T66 ps 1).f0) := hcc 0 _ rfl
        have f0 : w3.frozen? ⟨gp, 2, none⟩ = false := hfr 0
        clear hcl hM hcc hfr
        replace x0 : w3.drew.cell? ⟨gp, 2, none⟩ = some (.int .i64 (rd_T66 ps 1).f0) := x0
        replace f0 : w3.drew.frozen? ⟨gp, 2, none⟩ = false := f0
        replace RP := Aside0.mk (Kd.R_drew RP.out)
        replace BF := Aside0.mk (blk_drew BF.out)
        replace BR := Aside0.mk (blk_drew BR.out)
        replace D := Aside0.mk D.out.drew
        refine start_ (n := 11) (S := fun w' => w'.cell? ⟨w.heap.size, 5, none⟩ = some (.slice (some ⟨gp, 0, none⟩) ps.length c5) ∧ w'.cell? ⟨gp, 2, none⟩ = some (.int .i64 (rd_T66 ps 1).f0)) (ds := [10]) #[false, false, false, false, false, false, false, false, false, false, false] (by kernel_rfl) rfl rfl ⟨(blk_cell BF.out 5).trans rfl, x0⟩ (fun hHeld => ?_)
        refine with_tabW spec_l6Spoil.tab16 spec_l6Spoil.bits16 (fun HT_ HW_ => ?_)
        generalize w3.drew = w4 at *
        refine pure_ (i := 0) (N := some 72) (v := ?_) (a' := ?_) #[true, false, false, false, false, false, false, false, false, false, false] rfl rfl (any_of HT_.out (by kernel_rfl)) (fun _ _ _ h => h) (Or.inl ⟨by rfl, ?_⟩) ?_ ?_
        rotate_left
        · intro w'
          go_simp
          with_reducible rfl
        rotate_left
        · simp only [Act.put, List.setIfInBounds_toArray, List.set_cons_zero, List.set_cons_succ, i64_w, i32_w]
          rfl
        refine pure_ (i := 2) (N := some 74) (v := ?_) (a' := ?_) #[true, false, true, false, false, false, false, false, false, false, false] rfl rfl (any_of HT_.out (by kernel_rfl)) (fun _ _ _ h => h) (Or.inl ⟨by rfl, ?_⟩) ?_ ?_
        rotate_left
        · intro w'
          go_simp
          with_reducible rfl
        rotate_left
        · simp only [Act.put, List.setIfInBounds_toArray, List.set_cons_zero, List.set_cons_succ, i64_w, i32_w]
          rfl
        refine take_ (i := 1) (N := some 73) (v := ?_) (a' := ?_) #[true, true, true, false, false, false, false, false, false, false, false] rfl rfl (take_ofW HT_.out HW_.out (by kernel_rfl)) (fun _ _ _ h => h) (Or.inl ⟨by rfl, ?_⟩) hHeld ?_ ?_
        rotate_left
        · rintro w' ⟨s0, s1⟩
          go_simp
          with_reducible rfl
        rotate_left
        · simp only [Act.put, List.setIfInBounds_toArray, List.set_cons_zero, List.set_cons_succ, i64_w, i32_w]
          rfl
        refine take_ (i := 3) (N := some 75) (v := ?_) (a' := ?_) #[true, true, true, true, false, false, false, false, false, false, false] rfl rfl (take_ofW HT_.out HW_.out (by kernel_rfl)) (fun _ _ _ h => h) (Or.inl ⟨by rfl, ?_⟩) hHeld ?_ ?_
        rotate_left
        · rintro w' ⟨s0, s1⟩
          go_simp
          with_reducible rfl
        rotate_left
        · simp only [Act.put, List.setIfInBounds_toArray, List.set_cons_zero, List.set_cons_succ, i64_w, i32_w]
          rfl
        refine pure_ (i := 4) (N := some 76) (v := ?_) (a' := ?_) #[true, true, true, true, true, false, false, false, false, false, false] rfl rfl (any_of HT_.out (by kernel_rfl)) (fun _ _ _ h => h) (Or.inl ⟨by rfl, ?_⟩) ?_ ?_
        rotate_left
        · intro w'
          go_simp
          with_reducible rfl
        rotate_left
        · simp only [Act.put, List.setIfInBounds_toArray, List.set_cons_zero, List.set_cons_succ, i64_w, i32_w]
          rfl
        refine pure_ (i := 5) (N := some 77) (v := ?_) (a' := ?_) #[true, true, true, true, true, true, false, false, false, false, false] rfl rfl (any_of HT_.out (by kernel_rfl)) (fun _ _ _ h => h) (Or.inl ⟨by rfl, ?_⟩) ?_ ?_
        rotate_left
        · intro w'
          go_simp
          with_reducible rfl
        rotate_left
        · simp only [Act.put, List.setIfInBounds_toArray, List.set_cons_zero, List.set_cons_succ, i64_w, i32_w]
          rfl
        refine take_ (i := 6) (N := some 78) (v := ?_) (a' := ?_) #[true, true, true, true, true, true, true, false, false, false, false] rfl rfl (take_ofW HT_.out HW_.out (by kernel_rfl)) (fun _ _ _ h => h) (Or.inl ⟨by rfl, ?_⟩) hHeld ?_ ?_
        rotate_left
        · rintro w' ⟨s0, s1⟩
          go_simp
          with_reducible rfl
        rotate_left
        · simp only [Act.put, List.setIfInBounds_toArray, List.set_cons_zero, List.set_cons_succ, i64_w, i32_w]
          rfl
        refine pure_ (i := 7) (N := some 79) (v := ?_) (a' := ?_) #[true, true, true, true, true, true, true, true, false, false, false] rfl rfl (any_of HT_.out (by kernel_rfl)) (fun _ _ _ h => h) (Or.inl ⟨by rfl, ?_⟩) ?_ ?_
        rotate_left
        · intro w'
          go_simp
          with_reducible rfl
        rotate_left
        · simp only [Act.put, List.setIfInBounds_toArray, List.set_cons_zero, List.set_cons_succ, i64_w, i32_w]
          rfl
        refine pure_ (i := 8) (N := some 80) (v := ?_) (a' := ?_) #[true, true, true, true, true, true, true, true, true, false, false] rfl rfl (any_of HT_.out (by kernel_rfl)) (fun _ _ _ h => h) (Or.inl ⟨by rfl, ?_⟩) ?_ ?_
        rotate_left
        · intro w'
          go_simp
          with_reducible rfl
        rotate_left
        · simp only [Act.put, List.setIfInBounds_toArray, List.set_cons_zero, List.set_cons_succ, i64_w, i32_w]
          rfl
        refine pure_ (i := 9) (N := some 81) (v := ?_) (a' := ?_) #[true, true, true, true, true, true, true, true, true, true, false] rfl rfl (any_of HT_.out (by kernel_rfl)) (fun _ _ _ h => h) (Or.inl ⟨by rfl, ?_⟩) ?_ ?_
        rotate_left
        · intro w'
          go_simp
          with_reducible rfl
        rotate_left
        · simp only [Act.put, List.setIfInBounds_toArray, List.set_cons_zero, List.set_cons_succ, i64_w, i32_w]
          rfl
        refine last_ (i := 10) (N := none) #[true, true, true, true, true, true, true, true, true, true, true] rfl rfl (one_of HT_.out (by kernel_rfl)) (by decide) (fun K hK => ?_)
        refine skip_ (w1 := ?_) (by rfl) rfl ?_ ?_
        rotate_left
        · go_simp
          rfl
        refine hK.out _ _ ?_
        clear hK K
        refine done_ (done_of HT_.out (by kernel_rfl)) ?_
        go_upto_region 17 with fail
        clear x0 f0
        obtain ⟨qs, hq, RQ⟩ := per_field RP.out 1 (by omega) (by omega) (wrap64 ((rd_T66 ps 1).f0 + 1))
        have RQ := Aside0.mk (show k66.R 66 (w4.setCell ⟨gp, 2, none⟩ (.int .i64 (wrap64 ((rd_T66 ps 1).f0 + 1)))) bb (fun k => k ≠ g) (.slice (some ⟨gp, 0, none⟩) qs.length c5) qs from by rw [hq]; exact RQ)
        have E := Aside0.mk ((D.out.toR (some gp)).setRow (by omega) ngg 2 (.int .i64 (wrap64 ((rd_T66 ps 1).f0 + 1))))
        replace BF := Aside0.mk (show (w4.setCell ⟨gp, 2, none⟩ (.int .i64 (wrap64 ((rd_T66 ps 1).f0 + 1)))).heap[w.heap.size]? = some (.cells #[.slice A0 ch.length c0, .int .i64 d, .int .i64 u, .slice A3 es.length c3, .int .i64 (h), .slice (some ⟨gp, 0, none⟩) qs.length c5, .int .i64 (cl), .int .i64 (kp)] 32 (0, 0)) from by rw [hq]; exact blk_far BF.out (p := ⟨gp, 2, none⟩) (Ne.symm ngF) _)
        replace BR := Aside0.mk (blk_far BR.out (p := ⟨gp, 2, none⟩) (Ne.symm ngR) (.int .i64 (wrap64 ((rd_T66 ps 1).f0 + 1))))
        clear RP D
        generalize w4.setCell ⟨gp, 2, none⟩ (.int .i64 (wrap64 ((rd_T66 ps 1).f0 + 1))) = w5 at *
        have hq2 : qs.length ≤ ps.length := by omega
        clear hq
        have y0 := (blk_cell BF.out 0).trans rfl
        have yz0 := blk_frozen BF.out 0
        have y1 := (blk_cell BF.out 1).trans rfl
        have yz1 := blk_frozen BF.out 1
        have y2 := (blk_cell BF.out 2).trans rfl
        have yz2 := blk_frozen BF.out 2
        have y3 := (blk_cell BF.out 3).trans rfl
        have yz3 := blk_frozen BF.out 3
        have y4 := (blk_cell BF.out 4).trans rfl
        have yz4 := blk_frozen BF.out 4
        have y5 := (blk_cell BF.out 5).trans rfl
        have yz5 := blk_frozen BF.out 5
        have y6 := (blk_cell BF.out 6).trans rfl
        have yz6 := blk_frozen BF.out 6
        have y7 := (blk_cell BF.out 7).trans rfl
        have yz7 := blk_frozen BF.out 7
        have z0 := (blk_cell BR.out 0).trans rfl
        have zz0 := blk_frozen BR.out 0
        have z1 := (blk_cell BR.out 1).trans rfl
        have zz1 := blk_frozen BR.out 1
        have z2 := (blk_cell BR.out 2).trans rfl
        have zz2 := blk_frozen BR.out 2
        have z3 := (blk_cell BR.out 3).trans rfl
        have zz3 := blk_frozen BR.out 3
        have z4 := (blk_cell BR.out 4).trans rfl
        have zz4 := blk_frozen BR.out 4
        have z5 := (blk_cell BR.out 5).trans rfl
        have zz5 := blk_frozen BR.out 5
        have z6 := (blk_cell BR.out 6).trans rfl
        have zz6 := blk_frozen BR.out 6
        have z7 := (blk_cell BR.out 7).trans rfl
        have zz7 := blk_frozen BR.out 7
        go_wp2_with fail
        have BR2 := Aside0.mk (put8_blk BR.out (.slice A0 ch.length c0) (.int .i64 d) (.int .i64 u) (.slice A3 es.length c3) (.int .i64 (h)) (.slice (some ⟨gp, 0, none⟩) qs.length c5) (.int .i64 (cl)) (.int .i64 (kp)))
        refine bodyPost_ret (results_c1 rfl _ _ (w.heap.size + 1) 32 #[.slice A0 ch.length c0, .int .i64 d, .int .i64 u, .slice A3 es.length c3, .int .i64 (h), .slice (some ⟨gp, 0, none⟩) qs.length c5, .int .i64 (cl), .int .i64 (kp)] (0, 0) _ rfl BR2.out Tryd.underlying32 rfl (by kernel_rfl)) rfl ?_
        exact ⟨_, _, qs, _, _, _, rfl, put8_R RQ.out BR.out (by decide) _ _ _ _ _ _ _ _, (by first | omega | simp), put8_E E.out HL (Nat.le_succ _) NR _ _ _ _ _ _ _ _⟩
      · have hp5' : ¬ ((ps.length : Int) > 1) := by omega
        go_upto_region 17 with fail
        clear y5 yz5
        have E := Aside0.mk (D.out.toR (some gp))
        have y0 := (blk_cell BF.out 0).trans rfl
        have yz0 := blk_frozen BF.out 0
        have y1 := (blk_cell BF.out 1).trans rfl
        have yz1 := blk_frozen BF.out 1
        have y2 := (blk_cell BF.out 2).trans rfl
        have yz2 := blk_frozen BF.out 2
        have y3 := (blk_cell BF.out 3).trans rfl
        have yz3 := blk_frozen BF.out 3
        have y4 := (blk_cell BF.out 4).trans rfl
        have yz4 := blk_frozen BF.out 4
        have y5 := (blk_cell BF.out 5).trans rfl
        have yz5 := blk_frozen BF.out 5
        have y6 := (blk_cell BF.out 6).trans rfl
        have yz6 := blk_frozen BF.out 6
        have y7 := (blk_cell BF.out 7).trans rfl
        have yz7 := blk_frozen BF.out 7
        have z0 := (blk_cell BR.out 0).trans rfl
        have zz0 := blk_frozen BR.out 0
        have z1 := (blk_cell BR.out 1).trans rfl
        have zz1 := blk_frozen BR.out 1
        have z2 := (blk_cell BR.out 2).trans rfl
        have zz2 := blk_frozen BR.out 2
        have z3 := (blk_cell BR.out 3).trans rfl
        have zz3 := blk_frozen BR.out 3
        have z4 := (blk_cell BR.out 4).trans rfl
        have zz4 := blk_frozen BR.out 4
        have z5 := (blk_cell BR.out 5).trans rfl
        have zz5 := blk_frozen BR.out 5
        have z6 := (blk_cell BR.out 6).trans rfl
        have zz6 := blk_frozen BR.out 6
        have z7 := (blk_cell BR.out 7).trans rfl
        have zz7 := blk_frozen BR.out 7
        go_wp2_with fail
        have BR2 := Aside0.mk (put8_blk BR.out (.slice A0 ch.length c0) (.int .i64 d) (.int .i64 u) (.slice A3 es.length c3) (.int .i64 (h)) (.slice (some ⟨gp, 0, none⟩) ps.length c5) (.int .i64 (cl)) (.int .i64 (kp)))
        refine bodyPost_ret (results_c1 rfl _ _ (w.heap.size + 1) 32 #[.slice A0 ch.length c0, .int .i64 d, .int .i64 u, .slice A3 es.length c3, .int .i64 (h), .slice (some ⟨gp, 0, none⟩) ps.length c5, .int .i64 (cl), .int .i64 (kp)] (0, 0) _ rfl BR2.out Tryd.underlying32 rfl (by kernel_rfl)) rfl ?_
        exact ⟨_, _, ps, _, _, _, rfl, put8_R RP.out BR.out (by decide) _ _ _ _ _ _ _ _, (by first | omega | simp), put8_E E.out HL (Nat.le_succ _) NR _ _ _ _ _ _ _ _⟩
end Go.Proofs.YtjkjjfbcakbmnaaDoor.Q
