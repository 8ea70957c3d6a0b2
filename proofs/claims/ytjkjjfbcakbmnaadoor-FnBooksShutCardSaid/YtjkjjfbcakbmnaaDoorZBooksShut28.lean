/- Parts of the proof: what functions of the program and of the reference answer.
   No condition. -/
import Derived.Test.YtjkjjfbcakbmnaaDoorZBooksShut1
import Derived.Test.YtjkjjfbcakbmnaaDoorZBooksShut9
import Derived.Test.YtjkjjfbcakbmnaaDoorZBooksShut14
import Derived.Test.YtjkjjfbcakbmnaaDoorZBooksShut18
import Derived.Test.YtjkjjfbcakbmnaaDoorZBooksShut19
import Derived.Test.YtjkjjfbcakbmnaaDoorZBooksShut25
namespace Go.Proofs.YtjkjjfbcakbmnaaDoor.Q
open Go.RowKit Go.Proofs.YtjkjjfbcakbmnaaDoorW.PrintWords Go.Proofs.YtjkjjfbcakbmnaaDoorW.PrintLast Go.Proofs.YtjkjjfbcakbmnaaDoorW.PrintMore
set_option linter.unusedVariables false
set_option linter.unusedSimpArgs false
def spec_l5SpoilEntry.T12 : Bool × List (List Nat × List Nat) := (true, [([], []), ([0], [0]), ([], []), ([], []), ([3], [3]), ([4], [4]), ([1, 2, 0, 1, 2, 3, 4, 5], [1, 2]), ([6, 0, 1, 2, 3, 4, 5], [6]), ([7, 5, 4, 0, 1, 2, 3, 4, 5], [5, 7])])
def spec_l5SpoilEntry.B12 : List Nat := [0, 1, 0, 0, 8, 24, 63, 127, 255]
theorem spec_l5SpoilEntry.tab12 : rtab .any (opsOf Tryd.f16 12) = spec_l5SpoilEntry.T12 := by kernel_rfl
theorem spec_l5SpoilEntry.bits12 : waitsOk spec_l5SpoilEntry.T12.2 spec_l5SpoilEntry.B12 = true := by kernel_rfl
def spec_l5SpoilEntry.T14 : Bool × List (List Nat × List Nat) := (true, [([], []), ([0], [0]), ([], []), ([], []), ([3], [3]), ([4], [4]), ([1, 2, 0, 1, 2, 3, 4, 5], [1, 2]), ([6, 0, 1, 2, 3, 4, 5], [6]), ([7, 5, 4, 0, 1, 2, 3, 4, 5], [5, 7])])
def spec_l5SpoilEntry.B14 : List Nat := [0, 1, 0, 0, 8, 24, 63, 127, 255]
theorem spec_l5SpoilEntry.tab14 : rtab .any (opsOf Tryd.f16 14) = spec_l5SpoilEntry.T14 := by kernel_rfl
theorem spec_l5SpoilEntry.bits14 : waitsOk spec_l5SpoilEntry.T14.2 spec_l5SpoilEntry.B14 = true := by kernel_rfl
def spec_l5SpoilEntry.T16 : Bool × List (List Nat × List Nat) := (true, [([], []), ([0], [0]), ([], []), ([], []), ([3], [3]), ([4], [4]), ([1, 2, 0, 1, 2, 3, 4, 5], [1, 2]), ([6, 0, 1, 2, 3, 4, 5], [6]), ([7, 5, 4, 0, 1, 2, 3, 4, 5], [5, 7])])
def spec_l5SpoilEntry.B16 : List Nat := [0, 1, 0, 0, 8, 24, 63, 127, 255]
theorem spec_l5SpoilEntry.tab16 : rtab .any (opsOf Tryd.f16 16) = spec_l5SpoilEntry.T16 := by kernel_rfl
theorem spec_l5SpoilEntry.bits16 : waitsOk spec_l5SpoilEntry.T16.2 spec_l5SpoilEntry.B16 = true := by kernel_rfl
def spec_l5SpoilEntry.T18 : Bool × List (List Nat × List Nat) := (true, [([], []), ([0], [0]), ([], []), ([], []), ([3], [3]), ([], []), ([4, 5], [4, 5]), ([6], [6]), ([7], [7]), ([], []), ([], []), ([9, 10], [9, 10]), ([8, 11], [8, 11]), ([1, 2, 0, 1, 2, 3, 4, 5, 6, 7, 8, 9, 10, 11, 12], [1, 2]), ([13, 0, 1, 2, 3, 4, 5, 6, 7, 8, 9, 10, 11, 12], [13]), ([14, 12, 11, 0, 1, 2, 3, 4, 5, 6, 7, 8, 9, 10, 11, 12], [12, 14])])
def spec_l5SpoilEntry.B18 : List Nat := [0, 1, 0, 0, 8, 0, 56, 120, 248, 0, 0, 1536, 4088, 8191, 16383, 32767]
theorem spec_l5SpoilEntry.tab18 : rtab .any (opsOf Tryd.f16 18) = spec_l5SpoilEntry.T18 := by kernel_rfl
theorem spec_l5SpoilEntry.bits18 : waitsOk spec_l5SpoilEntry.T18.2 spec_l5SpoilEntry.B18 = true := by kernel_rfl
def spec_l5SpoilEntry.T20 : Bool × List (List Nat × List Nat) := (true, [([], []), ([0], [0]), ([], []), ([], []), ([3], [3]), ([], []), ([4, 5], [4, 5]), ([6], [6]), ([7], [7]), ([8], [8]), ([1, 2, 0, 1, 2, 3, 4, 5, 6, 7, 8, 9], [1, 2]), ([10, 0, 1, 2, 3, 4, 5, 6, 7, 8, 9], [10]), ([11, 9, 0, 1, 2, 3, 4, 5, 6, 7, 8, 9], [9, 11])])
def spec_l5SpoilEntry.B20 : List Nat := [0, 1, 0, 0, 8, 0, 56, 120, 248, 504, 1023, 2047, 4095]
theorem spec_l5SpoilEntry.tab20 : rtab .any (opsOf Tryd.f16 20) = spec_l5SpoilEntry.T20 := by kernel_rfl
theorem spec_l5SpoilEntry.bits20 : waitsOk spec_l5SpoilEntry.T20.2 spec_l5SpoilEntry.B20 = true := by kernel_rfl
theorem put4_R {α : Type} {dd : Kd α} {e base g t : Nat} {W : World} {ok : Nat → Prop} {v : Value} {xs : List α} {cells : Array Value} (h : dd.R e W base ok v xs) (hb : W.heap[g]? = some (.cells cells t (0, 0))) (ht : ∀ q, q ∈ e :: dd.E → q ≠ t) (u0 u1 u2 u3 : Value) : dd.R e ((((W.setCell ⟨g, 0, none⟩ u0).setCell ⟨g, 1, none⟩ u1).setCell ⟨g, 2, none⟩ u2).setCell ⟨g, 3, none⟩ u3) base ok v xs := by
  refine Kd.R_mono (ok := fun k => ok k ∧ k ≠ g) ?_ (fun _ hk => hk.1)
  repeat refine Kd.R_far ?_ (fun _ hk => hk.2) _
  exact Kd.R_types h hb ht
theorem put4_E {w0 w W : World} {g : Nat} {c : List Int} {row : Option Nat} (h : DrewR w0 w W g c row) (hl : w0.heap.size ≤ w.heap.size) {b : Nat} (hp : w.heap.size ≤ b) (hne : b ≠ g) (u0 u1 u2 u3 : Value) : DrewR w0 w ((((W.setCell ⟨b, 0, none⟩ u0).setCell ⟨b, 1, none⟩ u1).setCell ⟨b, 2, none⟩ u2).setCell ⟨b, 3, none⟩ u3) g c row := by
  repeat refine DrewR.set ?_ hl hp hne _
  exact h
theorem line_elem {W : World} {base gp n cap : Nat} {ok : Nat → Prop} {r : List Lin} (h : k81.R 81 W base ok (.slice (some ⟨gp, 0, none⟩) n cap) r) (i : Int) (h0 : 0 ≤ i) (h1 : i < n) : (W.cell? ⟨gp, i.toNat * 5, none⟩ = some (.int .i64 (rd_T81 r i).f0) ∧ W.cell? ⟨gp, i.toNat * 5 + 1, none⟩ = some (.int .i64 (rd_T81 r i).f1) ∧ W.cell? ⟨gp, i.toNat * 5 + 2, none⟩ = some (.int .i64 (rd_T81 r i).f2) ∧ W.cell? ⟨gp, i.toNat * 5 + 3, none⟩ = some (.int .i64 (rd_T81 r i).f3) ∧ W.cell? ⟨gp, i.toNat * 5 + 4, none⟩ = some (.int .i64 (rd_T81 r i).f4)) ∧ (W.frozen? ⟨gp, i.toNat * 5, none⟩ = false ∧ W.frozen? ⟨gp, i.toNat * 5 + 1, none⟩ = false ∧ W.frozen? ⟨gp, i.toNat * 5 + 2, none⟩ = false ∧ W.frozen? ⟨gp, i.toNat * 5 + 3, none⟩ = false ∧ W.frozen? ⟨gp, i.toNat * 5 + 4, none⟩ = false) := by
  obtain ⟨ce, hcl, hM, hcc, hfr⟩ := Kd.R_elem h z81 i h0 h1
  obtain rfl := k81_openM hM
  exact ⟨⟨hcc 0 _ rfl, hcc 1 _ rfl, hcc 2 _ rfl, hcc 3 _ rfl, hcc 4 _ rfl⟩, hfr 0, hfr 1, hfr 2, hfr 3, hfr 4⟩
theorem line_field0 {W : World} {base gp n cap : Nat} {ok : Nat → Prop} {r : List Lin} (h : k81.R 81 W base ok (.slice (some ⟨gp, 0, none⟩) n cap) r) (i : Int) (h0 : 0 ≤ i) (h1 : i < n) (u : Int) : ∃ r' : List Lin, r'.length = r.length ∧ k81.R 81 (W.setCell ⟨gp, i.toNat * 5, none⟩ (.int .i64 u)) base ok (.slice (some ⟨gp, 0, none⟩) n cap) r' := by
  obtain ⟨ce, hcl, hM, hcc, hfr⟩ := Kd.R_elem h z81 i h0 h1
  obtain rfl := k81_openM hM
  have HP := (Kd.R_seg h i h0 h1 (seg := [.int .i64 u]) (j := 0) hcl hcc (show 1 ≤ 5 from by decide) (x' := (⟨u, (rd_T81 r i).f1, (rd_T81 r i).f2, (rd_T81 r i).f3, (rd_T81 r i).f4⟩ : S81)) (k81_mkM _ _ _ (⟨u, (rd_T81 r i).f1, (rd_T81 r i).f2, (rd_T81 r i).f3, (rd_T81 r i).f4⟩ : S81)) (fun _ hk => hk)).1
  exact ⟨_, List.length_set, HP⟩
theorem line_field1 {W : World} {base gp n cap : Nat} {ok : Nat → Prop} {r : List Lin} (h : k81.R 81 W base ok (.slice (some ⟨gp, 0, none⟩) n cap) r) (i : Int) (h0 : 0 ≤ i) (h1 : i < n) (u : Int) : ∃ r' : List Lin, r'.length = r.length ∧ k81.R 81 (W.setCell ⟨gp, i.toNat * 5 + 1, none⟩ (.int .i64 u)) base ok (.slice (some ⟨gp, 0, none⟩) n cap) r' := by
  obtain ⟨ce, hcl, hM, hcc, hfr⟩ := Kd.R_elem h z81 i h0 h1
  obtain rfl := k81_openM hM
  have HP := (Kd.R_seg h i h0 h1 (seg := [.int .i64 u]) (j := 1) hcl hcc (show 2 ≤ 5 from by decide) (x' := (⟨(rd_T81 r i).f0, u, (rd_T81 r i).f2, (rd_T81 r i).f3, (rd_T81 r i).f4⟩ : S81)) (k81_mkM _ _ _ (⟨(rd_T81 r i).f0, u, (rd_T81 r i).f2, (rd_T81 r i).f3, (rd_T81 r i).f4⟩ : S81)) (fun _ hk => hk)).1
  exact ⟨_, List.length_set, HP⟩
theorem line_field2 {W : World} {base gp n cap : Nat} {ok : Nat → Prop} {r : List Lin} (h : k81.R 81 W base ok (.slice (some ⟨gp, 0, none⟩) n cap) r) (i : Int) (h0 : 0 ≤ i) (h1 : i < n) (u : Int) : ∃ r' : List Lin, r'.length = r.length ∧ k81.R 81 (W.setCell ⟨gp, i.toNat * 5 + 2, none⟩ (.int .i64 u)) base ok (.slice (some ⟨gp, 0, none⟩) n cap) r' := by
  obtain ⟨ce, hcl, hM, hcc, hfr⟩ := Kd.R_elem h z81 i h0 h1
  obtain rfl := k81_openM hM
  have HP := (Kd.R_seg h i h0 h1 (seg := [.int .i64 u]) (j := 2) hcl hcc (show 3 ≤ 5 from by decide) (x' := (⟨(rd_T81 r i).f0, (rd_T81 r i).f1, u, (rd_T81 r i).f3, (rd_T81 r i).f4⟩ : S81)) (k81_mkM _ _ _ (⟨(rd_T81 r i).f0, (rd_T81 r i).f1, u, (rd_T81 r i).f3, (rd_T81 r i).f4⟩ : S81)) (fun _ hk => hk)).1
  exact ⟨_, List.length_set, HP⟩
theorem line_field3 {W : World} {base gp n cap : Nat} {ok : Nat → Prop} {r : List Lin} (h : k81.R 81 W base ok (.slice (some ⟨gp, 0, none⟩) n cap) r) (i : Int) (h0 : 0 ≤ i) (h1 : i < n) (u : Int) : ∃ r' : List Lin, r'.length = r.length ∧ k81.R 81 (W.setCell ⟨gp, i.toNat * 5 + 3, none⟩ (.int .i64 u)) base ok (.slice (some ⟨gp, 0, none⟩) n cap) r' := by
  obtain ⟨ce, hcl, hM, hcc, hfr⟩ := Kd.R_elem h z81 i h0 h1
  obtain rfl := k81_openM hM
  have HP := (Kd.R_seg h i h0 h1 (seg := [.int .i64 u]) (j := 3) hcl hcc (show 4 ≤ 5 from by decide) (x' := (⟨(rd_T81 r i).f0, (rd_T81 r i).f1, (rd_T81 r i).f2, u, (rd_T81 r i).f4⟩ : S81)) (k81_mkM _ _ _ (⟨(rd_T81 r i).f0, (rd_T81 r i).f1, (rd_T81 r i).f2, u, (rd_T81 r i).f4⟩ : S81)) (fun _ hk => hk)).1
  exact ⟨_, List.length_set, HP⟩
theorem line_field4 {W : World} {base gp n cap : Nat} {ok : Nat → Prop} {r : List Lin} (h : k81.R 81 W base ok (.slice (some ⟨gp, 0, none⟩) n cap) r) (i : Int) (h0 : 0 ≤ i) (h1 : i < n) (u : Int) : ∃ r' : List Lin, r'.length = r.length ∧ k81.R 81 (W.setCell ⟨gp, i.toNat * 5 + 4, none⟩ (.int .i64 u)) base ok (.slice (some ⟨gp, 0, none⟩) n cap) r' := by
  obtain ⟨ce, hcl, hM, hcc, hfr⟩ := Kd.R_elem h z81 i h0 h1
  obtain rfl := k81_openM hM
  have HP := (Kd.R_seg h i h0 h1 (seg := [.int .i64 u]) (j := 4) hcl hcc (show 5 ≤ 5 from by decide) (x' := (⟨(rd_T81 r i).f0, (rd_T81 r i).f1, (rd_T81 r i).f2, (rd_T81 r i).f3, u⟩ : S81)) (k81_mkM _ _ _ (⟨(rd_T81 r i).f0, (rd_T81 r i).f1, (rd_T81 r i).f2, (rd_T81 r i).f3, u⟩ : S81)) (fun _ hk => hk)).1
  exact ⟨_, List.length_set, HP⟩
set_option maxHeartbeats 8000000 in
set_option maxRecDepth 100000 in
theorem spec_l5SpoilEntry.e (w0 w : World) (g : Nat) (c : List Int) (a b : Int) (t : ByteArray) (A : Option Addr) (c1 : Nat) (r : List Lin) (bb : Nat) (P : Nat → Prop) (hP : ∀ k, P k → k ≠ g) (hI : Cur w0 w g c) (hB : Below w0.heap.size w0 w) (hc : c.length ≤ 1048576) (hb0 : w0.heap.size ≤ bb) (hb1 : bb ≤ w.heap.size) (hR : k81.R 81 w bb P (.slice A r.length c1) r) (hr : r.length ≤ 1000) (ht : t.size ≤ 50) :
    Calls Tryd.prog 16 #[.pointer (some ⟨g, 0, none⟩), .agg #[.int .i64 a, .int .i64 b, .string t, .slice A r.length c1]] w fun e w' => ∃ (A6 : Option Addr) (c6 : Nat) (a' b' : Int) (t' : ByteArray) (rs : List Lin), e = .returned (.agg #[.int .i64 a', .int .i64 b', .string t', .slice A6 rs.length c6]) ∧ k81.R 81 w' bb P (.slice A6 rs.length c6) rs ∧ (rs.length ≤ r.length ∧ t'.size ≤ 50) ∧ DrewR w0 w w' g c (Value.slice A r.length c1).ownBlock := by
  have HL := hB.size
  have RP := Aside0.mk hR
  have D := Aside0.mk (Drew.refl hI hB)
  clear hI hB hR
  go_enter Tryd.func16, Tryd.ntmps16
  have BF := Aside0.mk (blk_alloc (blk_new w (Obj.cells #[.int .i64 (a), .int .i64 (b), .string t, .slice A r.length c1] 35)) (Obj.cells #[.int .i64 0, .int .i64 0, .string ⟨#[]⟩, .slice none 0 0] 35))
  have BR := Aside0.mk (show ((w.alloc (Obj.cells #[.int .i64 (a), .int .i64 (b), .string t, .slice A r.length c1] 35)).alloc (Obj.cells #[.int .i64 0, .int .i64 0, .string ⟨#[]⟩, .slice none 0 0] 35)).heap[w.heap.size + 1]? = some (Obj.cells #[.int .i64 0, .int .i64 0, .string ⟨#[]⟩, .slice none 0 0] 35) from by have := blk_new (w.alloc (Obj.cells #[.int .i64 (a), .int .i64 (b), .string t, .slice A r.length c1] 35)) (Obj.cells #[.int .i64 0, .int .i64 0, .string ⟨#[]⟩, .slice none 0 0] 35); simpa using this)
  have NF : w.heap.size ≠ g := Nat.ne_of_gt D.out.cur.lt
  have NR : w.heap.size + 1 ≠ g := by have := D.out.cur.lt; omega
  have ne_BF_BR : w.heap.size ≠ w.heap.size + 1 := by omega
  have ge_BF : w.heap.size ≤ w.heap.size := Nat.le_refl _
  have ge_BR : w.heap.size ≤ w.heap.size + 1 := Nat.le_succ _
  replace D := Aside0.mk ((D.out.alloc (Obj.cells #[.int .i64 (a), .int .i64 (b), .string t, .slice A r.length c1] 35)).alloc (Obj.cells #[.int .i64 0, .int .i64 0, .string ⟨#[]⟩, .slice none 0 0] 35))
  have zz : w.heap.size + 1 < ((w.alloc (Obj.cells #[.int .i64 (a), .int .i64 (b), .string t, .slice A r.length c1] 35)).alloc (Obj.cells #[.int .i64 0, .int .i64 0, .string ⟨#[]⟩, .slice none 0 0] 35)).heap.size := by simp
  replace RP := Aside0.mk (Kd.R_alloc (Kd.R_alloc RP.out (Obj.cells #[.int .i64 (a), .int .i64 (b), .string t, .slice A r.length c1] 35)) (Obj.cells #[.int .i64 0, .int .i64 0, .string ⟨#[]⟩, .slice none 0 0] 35))
  have SZ := Aside0.mk (show ((w.alloc (Obj.cells #[.int .i64 (a), .int .i64 (b), .string t, .slice A r.length c1] 35)).alloc (Obj.cells #[.int .i64 0, .int .i64 0, .string ⟨#[]⟩, .slice none 0 0] 35)).heap.size = w.heap.size + 1 + 1 by simp)
  go_wp2_with fail
  generalize (w.alloc (Obj.cells #[.int .i64 (a), .int .i64 (b), .string t, .slice A r.length c1] 35)).alloc (Obj.cells #[.int .i64 0, .int .i64 0, .string ⟨#[]⟩, .slice none 0 0] 35) = w1 at *
  go_wp2_with fail
  refine (spec_l1Once.e 8 D.out.cur D.out.bel hc (by omega)).mono ?_
  rintro x w2 ⟨bb1, rfl, hD⟩
  replace BF := Aside0.mk (hD.blk BF.out NF)
  replace BR := Aside0.mk (hD.blk BR.out NR)
  replace RP := Aside0.mk (hD.R RP.out (fun _ hk => hP _ hk))
  replace D := Aside0.mk (D.out.call hD)
  clear hD
  cases bb1
  · skip
    have E := Aside0.mk (D.out.toR (Value.slice A r.length c1).ownBlock)
    have y0 := (blk_cell BF.out 0).trans rfl
    have yz0 := blk_frozen BF.out 0
    have y1 := (blk_cell BF.out 1).trans rfl
    have yz1 := blk_frozen BF.out 1
    have y2 := (blk_cell BF.out 2).trans rfl
    have yz2 := blk_frozen BF.out 2
    have y3 := (blk_cell BF.out 3).trans rfl
    have yz3 := blk_frozen BF.out 3
    have z0 := (blk_cell BR.out 0).trans rfl
    have zz0 := blk_frozen BR.out 0
    have z1 := (blk_cell BR.out 1).trans rfl
    have zz1 := blk_frozen BR.out 1
    have z2 := (blk_cell BR.out 2).trans rfl
    have zz2 := blk_frozen BR.out 2
    have z3 := (blk_cell BR.out 3).trans rfl
    have zz3 := blk_frozen BR.out 3
    go_wp2_with fail
    have BR2 := Aside0.mk (blk4 BR.out (.int .i64 (a)) (.int .i64 (b)) (.string t) (.slice A r.length c1))
    refine bodyPost_ret (results_c1 rfl _ _ (w.heap.size + 1) 35 #[.int .i64 (a), .int .i64 (b), .string t, .slice A r.length c1] (0, 0) _ rfl BR2.out Tryd.underlying35 rfl (by kernel_rfl)) rfl ?_
    exact ⟨_, _, _, _, _, r, rfl, put4_R RP.out BR.out (by decide) _ _ _ _, ⟨(by first | omega | simp), (by omega)⟩, put4_E E.out HL (Nat.le_succ _) NR _ _ _ _⟩
  · skip
    have y3 := (blk_cell BF.out 3).trans rfl
    have yz3 := blk_frozen BF.out 3
    by_cases hr0 : r.length = 0
    · skip
      have hr0' : ((r.length : Int) == 0) = true := by simp [hr0]
      clear hr0
      go_upto_region 2 with fail
      clear y3 yz3
      have E := Aside0.mk (D.out.toR (Value.slice A r.length c1).ownBlock)
      have y0 := (blk_cell BF.out 0).trans rfl
      have yz0 := blk_frozen BF.out 0
      have y1 := (blk_cell BF.out 1).trans rfl
      have yz1 := blk_frozen BF.out 1
      have y2 := (blk_cell BF.out 2).trans rfl
      have yz2 := blk_frozen BF.out 2
      have y3 := (blk_cell BF.out 3).trans rfl
      have yz3 := blk_frozen BF.out 3
      have z0 := (blk_cell BR.out 0).trans rfl
      have zz0 := blk_frozen BR.out 0
      have z1 := (blk_cell BR.out 1).trans rfl
      have zz1 := blk_frozen BR.out 1
      have z2 := (blk_cell BR.out 2).trans rfl
      have zz2 := blk_frozen BR.out 2
      have z3 := (blk_cell BR.out 3).trans rfl
      have zz3 := blk_frozen BR.out 3
      go_wp2_with fail
      have BR2 := Aside0.mk (blk4 BR.out (.int .i64 (a)) (.int .i64 (b)) (.string t) (.slice A r.length c1))
      refine bodyPost_ret (results_c1 rfl _ _ (w.heap.size + 1) 35 #[.int .i64 (a), .int .i64 (b), .string t, .slice A r.length c1] (0, 0) _ rfl BR2.out Tryd.underlying35 rfl (by kernel_rfl)) rfl ?_
      exact ⟨_, _, _, _, _, r, rfl, put4_R RP.out BR.out (by decide) _ _ _ _, ⟨(by first | omega | simp), (by omega)⟩, put4_E E.out HL (Nat.le_succ _) NR _ _ _ _⟩
    have hr0' : ((r.length : Int) == 0) = false := beq_eq_false_iff_ne.mpr (by omega)
    go_wp2_with fail
    refine (spec_l1Below.e (r.length : Int) D.out.cur D.out.bel hc (by omega)).mono ?_
    rintro x w3 ⟨k, rfl, ⟨k0, k1, _⟩, hD⟩
    have k2 := k1 (by omega)
    replace BF := Aside0.mk (hD.blk BF.out NF)
    replace BR := Aside0.mk (hD.blk BR.out NR)
    replace RP := Aside0.mk (hD.R RP.out (fun _ hk => hP _ hk))
    replace D := Aside0.mk (D.out.call hD)
    clear hD k1
    clear y3 yz3
    have kp := eq_true k0
    have kq := eq_true k2
    go_wp2_with fail
    refine (spec_l1Below.e 9 D.out.cur D.out.bel hc (by omega)).mono ?_
    rintro x w4 ⟨sw, rfl, ⟨sw0, sw1, _⟩, hD⟩
    have sw2 := sw1 (by omega)
    replace BF := Aside0.mk (hD.blk BF.out NF)
    replace BR := Aside0.mk (hD.blk BR.out NR)
    replace RP := Aside0.mk (hD.R RP.out (fun _ hk => hP _ hk))
    replace D := Aside0.mk (D.out.call hD)
    clear hD sw1
    rcases (show sw = 0 ∨ sw = 1 ∨ sw = 2 ∨ sw = 3 ∨ sw = 4 ∨ sw = 5 ∨ sw = 6 ∨ sw = 7 ∨ sw = 8 by omega) with rfl | rfl | rfl | rfl | rfl | rfl | rfl | rfl | rfl
    · clear kp kq; have kp := eq_true k0; have kq := eq_true k2
      go_wp2_with (first | ((with_reducible refine gate_dst (N := 26) rfl ?_); refine Kd.R_lit (Kd.int .i64) _ 3 ?hg (N := 26) ?hd (xs := ([(-1), (40001)] : List Int)) (inner := [.int .i64 (-1), .int .i64 (40001)]) (ok := fun _ => True) (okp := fun _ => True) ?hr ?hp (fun _ hk => hk) trivial (Below.refl _ _) (Nat.le_refl _) (by simp) ?_; (case hd => rfl); (case hg => rfl); (case hr => first | (go_simp; done) | (go_simp; rfl)); (case hp => exact (Reps.one (show Kd.M (Kd.int .i64) _ _ _ (-1) [.int .i64 (-1)] from rfl) (Reps.one (show Kd.M (Kd.int .i64) _ _ _ (40001) [.int .i64 (40001)] from rfl) (Reps.none _ _)))); intro v5 w5 ho hb hg_ hnew_; clear hg_ hnew_; have hgL := D.out.cur.lt; replace BF := Aside0.mk (blk_below BF.out hb); replace BR := Aside0.mk (blk_below BR.out hb); replace RP := Aside0.mk (Kd.R_below RP.out hb); replace D := Aside0.mk (D.out.below hb); have LIT := Aside0.mk ho; clear hb ho))
      obtain ⟨AL, cL, eL⟩ := Kd.R_slice LIT.out
      subst eL
      refine (spec_l1PickInt.e AL cL ([(-1), (40001)] : List Int) D.out.cur D.out.bel hc (Kd.R_reads' LIT.out).2.2 (Kd.R_reads' LIT.out).2.1 (row_far LIT.out hgL) (by simp) (by simp)).mono ?_
      rintro x w6 ⟨x, rfl, hm, hD⟩
      replace BF := Aside0.mk (hD.blk BF.out NF)
      replace BR := Aside0.mk (hD.blk BR.out NR)
      replace RP := Aside0.mk (hD.R RP.out (fun _ hk => hP _ hk))
      replace D := Aside0.mk (D.out.call hD)
      clear hD LIT hgL
      clear hm
      have y0 := (blk_cell BF.out 0).trans rfl
      have yz0 := blk_frozen BF.out 0
      go_upto_region 23 with fail
      clear y0 yz0
      replace RP := Aside0.mk (Kd.R_set RP.out BF.out (by decide) 0 (.int .i64 x))
      replace BR := Aside0.mk (blk_far BR.out (p := ⟨w.heap.size, 0, none⟩) (Ne.symm ne_BF_BR) (.int .i64 x))
      replace BF := Aside0.mk (show (w6.setCell ⟨w.heap.size, 0, none⟩ (.int .i64 x)).heap[w.heap.size]? = some (.cells #[.int .i64 (x), .int .i64 (b), .string t, .slice A r.length c1] 35 (0, 0)) from blk_set BF.out 0 (.int .i64 x))
      replace D := Aside0.mk (D.out.set HL (p := ⟨w.heap.size, 0, none⟩) ge_BF NF (.int .i64 x))
      generalize w6.setCell ⟨w.heap.size, 0, none⟩ (.int .i64 x) = w7 at *
      have E := Aside0.mk (D.out.toR (Value.slice A r.length c1).ownBlock)
      have y0 := (blk_cell BF.out 0).trans rfl
      have yz0 := blk_frozen BF.out 0
      have y1 := (blk_cell BF.out 1).trans rfl
      have yz1 := blk_frozen BF.out 1
      have y2 := (blk_cell BF.out 2).trans rfl
      have yz2 := blk_frozen BF.out 2
      have y3 := (blk_cell BF.out 3).trans rfl
      have yz3 := blk_frozen BF.out 3
      have z0 := (blk_cell BR.out 0).trans rfl
      have zz0 := blk_frozen BR.out 0
      have z1 := (blk_cell BR.out 1).trans rfl
      have zz1 := blk_frozen BR.out 1
      have z2 := (blk_cell BR.out 2).trans rfl
      have zz2 := blk_frozen BR.out 2
      have z3 := (blk_cell BR.out 3).trans rfl
      have zz3 := blk_frozen BR.out 3
      go_wp2_with fail
      have BR2 := Aside0.mk (blk4 BR.out (.int .i64 (x)) (.int .i64 (b)) (.string t) (.slice A r.length c1))
      refine bodyPost_ret (results_c1 rfl _ _ (w.heap.size + 1) 35 #[.int .i64 (x), .int .i64 (b), .string t, .slice A r.length c1] (0, 0) _ rfl BR2.out Tryd.underlying35 rfl (by kernel_rfl)) rfl ?_
      exact ⟨_, _, _, _, _, r, rfl, put4_R RP.out BR.out (by decide) _ _ _ _, ⟨(by first | omega | simp), (by omega)⟩, put4_E E.out HL (Nat.le_succ _) NR _ _ _ _⟩
    · clear kp kq; have kp := eq_true k0; have kq := eq_true k2
      go_wp2_with (first | ((with_reducible refine gate_dst (N := 32) rfl ?_); refine Kd.R_lit (Kd.int .i64) _ 3 ?hg (N := 32) ?hd (xs := ([(-1), (1000), (1001)] : List Int)) (inner := [.int .i64 (-1), .int .i64 (1000), .int .i64 (1001)]) (ok := fun _ => True) (okp := fun _ => True) ?hr ?hp (fun _ hk => hk) trivial (Below.refl _ _) (Nat.le_refl _) (by simp) ?_; (case hd => rfl); (case hg => rfl); (case hr => first | (go_simp; done) | (go_simp; rfl)); (case hp => exact (Reps.one (show Kd.M (Kd.int .i64) _ _ _ (-1) [.int .i64 (-1)] from rfl) (Reps.one (show Kd.M (Kd.int .i64) _ _ _ (1000) [.int .i64 (1000)] from rfl) (Reps.one (show Kd.M (Kd.int .i64) _ _ _ (1001) [.int .i64 (1001)] from rfl) (Reps.none _ _))))); intro v5 w5 ho hb hg_ hnew_; clear hg_ hnew_; have hgL := D.out.cur.lt; replace BF := Aside0.mk (blk_below BF.out hb); replace BR := Aside0.mk (blk_below BR.out hb); replace RP := Aside0.mk (Kd.R_below RP.out hb); replace D := Aside0.mk (D.out.below hb); have LIT := Aside0.mk ho; clear hb ho))
      obtain ⟨AL, cL, eL⟩ := Kd.R_slice LIT.out
      subst eL
      refine (spec_l1PickInt.e AL cL ([(-1), (1000), (1001)] : List Int) D.out.cur D.out.bel hc (Kd.R_reads' LIT.out).2.2 (Kd.R_reads' LIT.out).2.1 (row_far LIT.out hgL) (by simp) (by simp)).mono ?_
      rintro x w6 ⟨x, rfl, hm, hD⟩
      replace BF := Aside0.mk (hD.blk BF.out NF)
      replace BR := Aside0.mk (hD.blk BR.out NR)
      replace RP := Aside0.mk (hD.R RP.out (fun _ hk => hP _ hk))
      replace D := Aside0.mk (D.out.call hD)
      clear hD LIT hgL
      clear hm
      have y1 := (blk_cell BF.out 1).trans rfl
      have yz1 := blk_frozen BF.out 1
      go_upto_region 23 with fail
      clear y1 yz1
      replace RP := Aside0.mk (Kd.R_set RP.out BF.out (by decide) 1 (.int .i64 x))
      replace BR := Aside0.mk (blk_far BR.out (p := ⟨w.heap.size, 1, none⟩) (Ne.symm ne_BF_BR) (.int .i64 x))
      replace BF := Aside0.mk (show (w6.setCell ⟨w.heap.size, 1, none⟩ (.int .i64 x)).heap[w.heap.size]? = some (.cells #[.int .i64 (a), .int .i64 (x), .string t, .slice A r.length c1] 35 (0, 0)) from blk_set BF.out 1 (.int .i64 x))
      replace D := Aside0.mk (D.out.set HL (p := ⟨w.heap.size, 1, none⟩) ge_BF NF (.int .i64 x))
      generalize w6.setCell ⟨w.heap.size, 1, none⟩ (.int .i64 x) = w7 at *
      have E := Aside0.mk (D.out.toR (Value.slice A r.length c1).ownBlock)
      have y0 := (blk_cell BF.out 0).trans rfl
      have yz0 := blk_frozen BF.out 0
      have y1 := (blk_cell BF.out 1).trans rfl
      have yz1 := blk_frozen BF.out 1
      have y2 := (blk_cell BF.out 2).trans rfl
      have yz2 := blk_frozen BF.out 2
      have y3 := (blk_cell BF.out 3).trans rfl
      have yz3 := blk_frozen BF.out 3
      have z0 := (blk_cell BR.out 0).trans rfl
      have zz0 := blk_frozen BR.out 0
      have z1 := (blk_cell BR.out 1).trans rfl
      have zz1 := blk_frozen BR.out 1
      have z2 := (blk_cell BR.out 2).trans rfl
      have zz2 := blk_frozen BR.out 2
      have z3 := (blk_cell BR.out 3).trans rfl
      have zz3 := blk_frozen BR.out 3
      go_wp2_with fail
      have BR2 := Aside0.mk (blk4 BR.out (.int .i64 (a)) (.int .i64 (x)) (.string t) (.slice A r.length c1))
      refine bodyPost_ret (results_c1 rfl _ _ (w.heap.size + 1) 35 #[.int .i64 (a), .int .i64 (x), .string t, .slice A r.length c1] (0, 0) _ rfl BR2.out Tryd.underlying35 rfl (by kernel_rfl)) rfl ?_
      exact ⟨_, _, _, _, _, r, rfl, put4_R RP.out BR.out (by decide) _ _ _ _, ⟨(by first | omega | simp), (by omega)⟩, put4_E E.out HL (Nat.le_succ _) NR _ _ _ _⟩
    · clear kp kq; have kp := eq_true k0; have kq := eq_true k2
      go_wp2_with (first | ((with_reducible refine gate_dst (N := 38) rfl ?_); refine Kd.R_lit Kd.string _ 9 ?hg (N := 38) ?hd (xs := ([(⟨#[97, 10, 98]⟩ : ByteArray), (⟨#[48, 49, 50, 51, 52, 53, 54, 55, 56, 57, 48, 49, 50, 51, 52, 53, 54, 55, 56, 57, 48, 49, 50, 51, 52, 53, 54, 55, 56, 57, 48, 49, 50, 51, 52, 53, 54, 55, 56, 57]⟩ : ByteArray), (⟨#[48, 49, 50, 51, 52, 53, 54, 55, 56, 57, 48, 49, 50, 51, 52, 53, 54, 55, 56, 57, 48, 49, 50, 51, 52, 53, 54, 55, 56, 57, 48, 49, 50, 51, 52, 53, 54, 55, 56, 57, 48]⟩ : ByteArray), (⟨#[31]⟩ : ByteArray), (⟨#[32]⟩ : ByteArray)] : List ByteArray)) (inner := [.string (⟨#[97, 10, 98]⟩ : ByteArray), .string (⟨#[48, 49, 50, 51, 52, 53, 54, 55, 56, 57, 48, 49, 50, 51, 52, 53, 54, 55, 56, 57, 48, 49, 50, 51, 52, 53, 54, 55, 56, 57, 48, 49, 50, 51, 52, 53, 54, 55, 56, 57]⟩ : ByteArray), .string (⟨#[48, 49, 50, 51, 52, 53, 54, 55, 56, 57, 48, 49, 50, 51, 52, 53, 54, 55, 56, 57, 48, 49, 50, 51, 52, 53, 54, 55, 56, 57, 48, 49, 50, 51, 52, 53, 54, 55, 56, 57, 48]⟩ : ByteArray), .string (⟨#[31]⟩ : ByteArray), .string (⟨#[32]⟩ : ByteArray)]) (ok := fun _ => True) (okp := fun _ => True) ?hr ?hp (fun _ hk => hk) trivial (Below.refl _ _) (Nat.le_refl _) (by simp) ?_; (case hd => rfl); (case hg => rfl); (case hr => first | (go_simp; done) | (go_simp; rfl)); (case hp => exact (Reps.one (show Kd.M Kd.string _ _ _ (⟨#[97, 10, 98]⟩ : ByteArray) [.string (⟨#[97, 10, 98]⟩ : ByteArray)] from rfl) (Reps.one (show Kd.M Kd.string _ _ _ (⟨#[48, 49, 50, 51, 52, 53, 54, 55, 56, 57, 48, 49, 50, 51, 52, 53, 54, 55, 56, 57, 48, 49, 50, 51, 52, 53, 54, 55, 56, 57, 48, 49, 50, 51, 52, 53, 54, 55, 56, 57]⟩ : ByteArray) [.string (⟨#[48, 49, 50, 51, 52, 53, 54, 55, 56, 57, 48, 49, 50, 51, 52, 53, 54, 55, 56, 57, 48, 49, 50, 51, 52, 53, 54, 55, 56, 57, 48, 49, 50, 51, 52, 53, 54, 55, 56, 57]⟩ : ByteArray)] from rfl) (Reps.one (show Kd.M Kd.string _ _ _ (⟨#[48, 49, 50, 51, 52, 53, 54, 55, 56, 57, 48, 49, 50, 51, 52, 53, 54, 55, 56, 57, 48, 49, 50, 51, 52, 53, 54, 55, 56, 57, 48, 49, 50, 51, 52, 53, 54, 55, 56, 57, 48]⟩ : ByteArray) [.string (⟨#[48, 49, 50, 51, 52, 53, 54, 55, 56, 57, 48, 49, 50, 51, 52, 53, 54, 55, 56, 57, 48, 49, 50, 51, 52, 53, 54, 55, 56, 57, 48, 49, 50, 51, 52, 53, 54, 55, 56, 57, 48]⟩ : ByteArray)] from rfl) (Reps.one (show Kd.M Kd.string _ _ _ (⟨#[31]⟩ : ByteArray) [.string (⟨#[31]⟩ : ByteArray)] from rfl) (Reps.one (show Kd.M Kd.string _ _ _ (⟨#[32]⟩ : ByteArray) [.string (⟨#[32]⟩ : ByteArray)] from rfl) (Reps.none _ _))))))); intro v5 w5 ho hb hg_ hnew_; clear hg_ hnew_; have hgL := D.out.cur.lt; replace BF := Aside0.mk (blk_below BF.out hb); replace BR := Aside0.mk (blk_below BR.out hb); replace RP := Aside0.mk (Kd.R_below RP.out hb); replace D := Aside0.mk (D.out.below hb); have LIT := Aside0.mk ho; clear hb ho))
      obtain ⟨AL, cL, eL⟩ := Kd.R_slice LIT.out
      subst eL
      refine (spec_l1Pick.e AL cL ([(⟨#[97, 10, 98]⟩ : ByteArray), (⟨#[48, 49, 50, 51, 52, 53, 54, 55, 56, 57, 48, 49, 50, 51, 52, 53, 54, 55, 56, 57, 48, 49, 50, 51, 52, 53, 54, 55, 56, 57, 48, 49, 50, 51, 52, 53, 54, 55, 56, 57]⟩ : ByteArray), (⟨#[48, 49, 50, 51, 52, 53, 54, 55, 56, 57, 48, 49, 50, 51, 52, 53, 54, 55, 56, 57, 48, 49, 50, 51, 52, 53, 54, 55, 56, 57, 48, 49, 50, 51, 52, 53, 54, 55, 56, 57, 48]⟩ : ByteArray), (⟨#[31]⟩ : ByteArray), (⟨#[32]⟩ : ByteArray)] : List ByteArray) D.out.cur D.out.bel hc (Kd.R_reads' LIT.out).2.2 (Kd.R_reads' LIT.out).2.1 (row_far LIT.out hgL) (by simp) (by simp)).mono ?_
      rintro x w6 ⟨x, rfl, hm, hD⟩
      have xs := (show ∀ y ∈ ([(⟨#[97, 10, 98]⟩ : ByteArray), (⟨#[48, 49, 50, 51, 52, 53, 54, 55, 56, 57, 48, 49, 50, 51, 52, 53, 54, 55, 56, 57, 48, 49, 50, 51, 52, 53, 54, 55, 56, 57, 48, 49, 50, 51, 52, 53, 54, 55, 56, 57]⟩ : ByteArray), (⟨#[48, 49, 50, 51, 52, 53, 54, 55, 56, 57, 48, 49, 50, 51, 52, 53, 54, 55, 56, 57, 48, 49, 50, 51, 52, 53, 54, 55, 56, 57, 48, 49, 50, 51, 52, 53, 54, 55, 56, 57, 48]⟩ : ByteArray), (⟨#[31]⟩ : ByteArray), (⟨#[32]⟩ : ByteArray)] : List ByteArray), y.size ≤ 50 by decide) _ hm
      replace BF := Aside0.mk (hD.blk BF.out NF)
      replace BR := Aside0.mk (hD.blk BR.out NR)
      replace RP := Aside0.mk (hD.R RP.out (fun _ hk => hP _ hk))
      replace D := Aside0.mk (D.out.call hD)
      clear hD hm LIT hgL
      have y2 := (blk_cell BF.out 2).trans rfl
      have yz2 := blk_frozen BF.out 2
      go_upto_region 23 with fail
      clear y2 yz2
      replace RP := Aside0.mk (Kd.R_set RP.out BF.out (by decide) 2 (.string x))
      replace BR := Aside0.mk (blk_far BR.out (p := ⟨w.heap.size, 2, none⟩) (Ne.symm ne_BF_BR) (.string x))
      replace BF := Aside0.mk (show (w6.setCell ⟨w.heap.size, 2, none⟩ (.string x)).heap[w.heap.size]? = some (.cells #[.int .i64 (a), .int .i64 (b), .string x, .slice A r.length c1] 35 (0, 0)) from blk_set BF.out 2 (.string x))
      replace D := Aside0.mk (D.out.set HL (p := ⟨w.heap.size, 2, none⟩) ge_BF NF (.string x))
      generalize w6.setCell ⟨w.heap.size, 2, none⟩ (.string x) = w7 at *
      have E := Aside0.mk (D.out.toR (Value.slice A r.length c1).ownBlock)
      have y0 := (blk_cell BF.out 0).trans rfl
      have yz0 := blk_frozen BF.out 0
      have y1 := (blk_cell BF.out 1).trans rfl
      have yz1 := blk_frozen BF.out 1
      have y2 := (blk_cell BF.out 2).trans rfl
      have yz2 := blk_frozen BF.out 2
      have y3 := (blk_cell BF.out 3).trans rfl
      have yz3 := blk_frozen BF.out 3
      have z0 := (blk_cell BR.out 0).trans rfl
      have zz0 := blk_frozen BR.out 0
      have z1 := (blk_cell BR.out 1).trans rfl
      have zz1 := blk_frozen BR.out 1
      have z2 := (blk_cell BR.out 2).trans rfl
      have zz2 := blk_frozen BR.out 2
      have z3 := (blk_cell BR.out 3).trans rfl
      have zz3 := blk_frozen BR.out 3
      go_wp2_with fail
      have BR2 := Aside0.mk (blk4 BR.out (.int .i64 (a)) (.int .i64 (b)) (.string x) (.slice A r.length c1))
      refine bodyPost_ret (results_c1 rfl _ _ (w.heap.size + 1) 35 #[.int .i64 (a), .int .i64 (b), .string x, .slice A r.length c1] (0, 0) _ rfl BR2.out Tryd.underlying35 rfl (by kernel_rfl)) rfl ?_
      exact ⟨_, _, _, _, _, r, rfl, put4_R RP.out BR.out (by decide) _ _ _ _, ⟨(by first | omega | simp), xs⟩, put4_E E.out HL (Nat.le_succ _) NR _ _ _ _⟩
    · clear kp kq; have kp := eq_true k0; have kq := eq_true k2
      obtain ⟨gp, cap, eo, gb, gl, cells, HGp⟩ := Kd.R_form RP.out (by omega)
      have ea : A = some ⟨gp, 0, none⟩ := by injection eo
      have ec : c1 = cap := by injection eo
      clear eo
      subst ea ec
      have ngg : gp ≠ g := hP _ (RP.out.1 gp rfl)
      have ngF : gp ≠ w.heap.size := blk_ne HGp BF.out (by decide)
      have ngR : gp ≠ w.heap.size + 1 := blk_ne HGp BR.out (by decide)
      clear HGp gl
      go_upto_region 12 with fail
      try go_wp2_with fail
      replace RP := Aside0.mk (Kd.R_drew RP.out)
      replace BF := Aside0.mk (blk_drew BF.out)
      replace BR := Aside0.mk (blk_drew BR.out)
      replace D := Aside0.mk D.out.drew
      refine start_ (n := 9) (S := fun w' => w'.cell? ⟨w.heap.size, 3, none⟩ = some (.slice (some ⟨gp, 0, none⟩) r.length c1)) (ds := [8]) #[false, false, false, false, false, false, false, false, false] (by kernel_rfl) rfl rfl ((blk_cell BF.out 3).trans rfl) (fun hHeld => ?_)
      refine with_tabW spec_l5SpoilEntry.tab12 spec_l5SpoilEntry.bits12 (fun HT_ HW_ => ?_)
      generalize w4.drew = w5 at *
      refine pure_ (i := 0) (N := some 43) (v := ?_) (a' := ?_) #[true, false, false, false, false, false, false, false, false] rfl rfl (any_of HT_.out (by kernel_rfl)) (fun _ _ _ h => h) (Or.inl ⟨by rfl, ?_⟩) ?_ ?_
      rotate_left
      · intro w'
        go_simp
        with_reducible rfl
      rotate_left
      · simp only [Act.put, List.setIfInBounds_toArray, List.set_cons_zero, List.set_cons_succ, i64_w, i32_w]
        rfl
      refine pure_ (i := 2) (N := some 45) (v := ?_) (a' := ?_) #[true, false, true, false, false, false, false, false, false] rfl rfl (any_of HT_.out (by kernel_rfl)) (fun _ _ _ h => h) (Or.inl ⟨by rfl, ?_⟩) ?_ ?_
      rotate_left
      · intro w'
        go_simp
        with_reducible rfl
      rotate_left
      · simp only [Act.put, List.setIfInBounds_toArray, List.set_cons_zero, List.set_cons_succ, i64_w, i32_w]
        rfl
      refine pure_ (i := 3) (N := some 46) (v := ?_) (a' := ?_) #[true, false, true, true, false, false, false, false, false] rfl rfl (any_of HT_.out (by kernel_rfl)) (fun _ _ _ h => h) (Or.inl ⟨by rfl, ?_⟩) ?_ ?_
      rotate_left
      · intro w'
        go_simp
        with_reducible rfl
      rotate_left
      · simp only [Act.put, List.setIfInBounds_toArray, List.set_cons_zero, List.set_cons_succ, i64_w, i32_w]
        rfl
      refine take_ (i := 1) (N := some 44) (v := ?_) (a' := ?_) #[true, true, true, true, false, false, false, false, false] rfl rfl (take_ofW HT_.out HW_.out (by kernel_rfl)) (fun _ _ _ h => h) (Or.inl ⟨by rfl, ?_⟩) hHeld ?_ ?_
      rotate_left
      · rintro w' s0
        go_simp
        with_reducible rfl
      rotate_left
      · simp only [Act.put, List.setIfInBounds_toArray, List.set_cons_zero, List.set_cons_succ, i64_w, i32_w]
        rfl
      refine one_ (i := 4) (N := some 47) #[true, true, true, true, true, false, false, false, false] rfl rfl (one_of HT_.out (by kernel_rfl)) (by decide) (fun K hK => ?_)
      refine goes_ Tryd.func14 (by kernel_rfl) rfl #[.pointer (some ⟨g, 0, none⟩), .int .i64 12] (by rfl) rfl rfl (by (try simp only [List.map_toArray, List.map_cons, List.map_nil]); first | done | rfl) ?_
      refine (spec_l1Below.e 12 D.out.cur D.out.bel hc (by omega)).mono ?_
      rintro x w6 ⟨z, rfl, ⟨z0, z1, _⟩, hD⟩
      have z2 := z1 (by omega)
      refine ⟨_, rfl, ?_⟩
      replace BF := Aside0.mk (hD.blk BF.out NF)
      replace BR := Aside0.mk (hD.blk BR.out NR)
      replace RP := Aside0.mk (hD.R RP.out (fun _ hk => hP _ hk))
      replace D := Aside0.mk (D.out.call hD)
      clear hD z1
      have hel := line_elem RP.out k k0 k2
      have x0 : w6.cell? ⟨gp, k.toNat * 5, none⟩ = some (.int .i64 (rd_T81 r k).f0) := hel.1.1
      have f0 : w6.frozen? ⟨gp, k.toNat * 5, none⟩ = false := hel.2.1
      clear hel
      refine hK.out _ _ ((blk_cell BF.out 3).trans rfl) (fun hHeld => ?_)
      clear hK K
      refine norm_ (a' := ?_) ?_ ?_
      rotate_left
      · show Act.put _ (some 47) _ = _
        simp only [Act.put, List.setIfInBounds_toArray, List.set_cons_zero, List.set_cons_succ, i64_w, i32_w]
        rfl
      refine pure_ (i := 5) (N := some 48) (v := ?_) (a' := ?_) #[true, true, true, true, true, true, false, false, false] rfl rfl (any_of HT_.out (by kernel_rfl)) (fun _ _ _ h => h) (Or.inl ⟨by rfl, ?_⟩) ?_ ?_
      rotate_left
      · intro w'
        go_simp
        with_reducible rfl
      rotate_left
      · simp only [Act.put, List.setIfInBounds_toArray, List.set_cons_zero, List.set_cons_succ, i64_w, i32_w]
        rfl
      refine pure_ (i := 6) (N := some 49) (v := ?_) (a' := ?_) #[true, true, true, true, true, true, true, false, false] rfl rfl (any_of HT_.out (by kernel_rfl)) (fun _ _ _ h => h) (Or.inl ⟨by rfl, ?_⟩) ?_ ?_
      rotate_left
      · intro w'
        go_simp
        with_reducible rfl
      rotate_left
      · simp only [Act.put, List.setIfInBounds_toArray, List.set_cons_zero, List.set_cons_succ, i64_w, i32_w]
        rfl
      refine pure_ (i := 7) (N := some 50) (v := ?_) (a' := ?_) #[true, true, true, true, true, true, true, true, false] rfl rfl (any_of HT_.out (by kernel_rfl)) (fun _ _ _ h => h) (Or.inl ⟨by rfl, ?_⟩) ?_ ?_
      rotate_left
      · intro w'
        go_simp
        with_reducible rfl
      rotate_left
      · simp only [Act.put, List.setIfInBounds_toArray, List.set_cons_zero, List.set_cons_succ, i64_w, i32_w]
        rfl
      refine last_ (i := 8) (N := none) #[true, true, true, true, true, true, true, true, true] rfl rfl (one_of HT_.out (by kernel_rfl)) (by decide) (fun K hK => ?_)
      refine skip_ (w1 := ?_) (by rfl) rfl ?_ ?_
      rotate_left
      · go_simp
        rfl
      refine hK.out _ _ ?_
      clear hK K
      refine done_ (done_of HT_.out (by kernel_rfl)) ?_
      go_upto_region 23 with fail
      clear x0 f0
      obtain ⟨rs, hq, RQ⟩ := line_field0 RP.out k k0 k2 (wrap64 (z - 1))
      have RQ := Aside0.mk (show k81.R 81 (w6.setCell ⟨gp, k.toNat * 5, none⟩ (.int .i64 (wrap64 (z - 1)))) bb P (.slice (some ⟨gp, 0, none⟩) rs.length c1) rs from by rw [hq]; exact RQ)
      have E := Aside0.mk ((D.out.toR (some gp)).setRow (by omega) ngg (k.toNat * 5) (.int .i64 (wrap64 (z - 1))))
      replace BF := Aside0.mk (show (w6.setCell ⟨gp, k.toNat * 5, none⟩ (.int .i64 (wrap64 (z - 1)))).heap[w.heap.size]? = some (.cells #[.int .i64 (a), .int .i64 (b), .string t, .slice (some ⟨gp, 0, none⟩) rs.length c1] 35 (0, 0)) from by rw [hq]; exact blk_far BF.out (p := ⟨gp, k.toNat * 5, none⟩) (Ne.symm ngF) _)
      replace BR := Aside0.mk (blk_far BR.out (p := ⟨gp, k.toNat * 5, none⟩) (Ne.symm ngR) (.int .i64 (wrap64 (z - 1))))
      clear RP D
      generalize w6.setCell ⟨gp, k.toNat * 5, none⟩ (.int .i64 (wrap64 (z - 1))) = w7 at *
      have hq2 : rs.length ≤ r.length := by omega
      clear hq
      have y0 := (blk_cell BF.out 0).trans rfl
      have yz0 := blk_frozen BF.out 0
      have y1 := (blk_cell BF.out 1).trans rfl
      have yz1 := blk_frozen BF.out 1
      have y2 := (blk_cell BF.out 2).trans rfl
      have yz2 := blk_frozen BF.out 2
      have y3 := (blk_cell BF.out 3).trans rfl
      have yz3 := blk_frozen BF.out 3
      have z0 := (blk_cell BR.out 0).trans rfl
      have zz0 := blk_frozen BR.out 0
      have z1 := (blk_cell BR.out 1).trans rfl
      have zz1 := blk_frozen BR.out 1
      have z2 := (blk_cell BR.out 2).trans rfl
      have zz2 := blk_frozen BR.out 2
      have z3 := (blk_cell BR.out 3).trans rfl
      have zz3 := blk_frozen BR.out 3
      go_wp2_with fail
      have BR2 := Aside0.mk (blk4 BR.out (.int .i64 (a)) (.int .i64 (b)) (.string t) (.slice (some ⟨gp, 0, none⟩) rs.length c1))
      refine bodyPost_ret (results_c1 rfl _ _ (w.heap.size + 1) 35 #[.int .i64 (a), .int .i64 (b), .string t, .slice (some ⟨gp, 0, none⟩) rs.length c1] (0, 0) _ rfl BR2.out Tryd.underlying35 rfl (by kernel_rfl)) rfl ?_
      exact ⟨_, _, _, _, _, rs, rfl, put4_R RQ.out BR.out (by decide) _ _ _ _, ⟨(by first | omega | simp), (by omega)⟩, put4_E E.out HL (Nat.le_succ _) NR _ _ _ _⟩
    · clear kp kq; have kp := eq_true k0; have kq := eq_true k2
      obtain ⟨gp, cap, eo, gb, gl, cells, HGp⟩ := Kd.R_form RP.out (by omega)
      have ea : A = some ⟨gp, 0, none⟩ := by injection eo
      have ec : c1 = cap := by injection eo
      clear eo
      subst ea ec
      have ngg : gp ≠ g := hP _ (RP.out.1 gp rfl)
      have ngF : gp ≠ w.heap.size := blk_ne HGp BF.out (by decide)
      have ngR : gp ≠ w.heap.size + 1 := blk_ne HGp BR.out (by decide)
      clear HGp gl
      go_upto_region 14 with fail
      try go_wp2_with fail
      replace RP := Aside0.mk (Kd.R_drew RP.out)
      replace BF := Aside0.mk (blk_drew BF.out)
      replace BR := Aside0.mk (blk_drew BR.out)
      replace D := Aside0.mk D.out.drew
      refine start_ (n := 9) (S := fun w' => w'.cell? ⟨w.heap.size, 3, none⟩ = some (.slice (some ⟨gp, 0, none⟩) r.length c1)) (ds := [8]) #[false, false, false, false, false, false, false, false, false] (by kernel_rfl) rfl rfl ((blk_cell BF.out 3).trans rfl) (fun hHeld => ?_)
      refine with_tabW spec_l5SpoilEntry.tab14 spec_l5SpoilEntry.bits14 (fun HT_ HW_ => ?_)
      generalize w4.drew = w5 at *
      refine pure_ (i := 0) (N := some 53) (v := ?_) (a' := ?_) #[true, false, false, false, false, false, false, false, false] rfl rfl (any_of HT_.out (by kernel_rfl)) (fun _ _ _ h => h) (Or.inl ⟨by rfl, ?_⟩) ?_ ?_
      rotate_left
      · intro w'
        go_simp
        with_reducible rfl
      rotate_left
      · simp only [Act.put, List.setIfInBounds_toArray, List.set_cons_zero, List.set_cons_succ, i64_w, i32_w]
        rfl
      refine pure_ (i := 2) (N := some 55) (v := ?_) (a' := ?_) #[true, false, true, false, false, false, false, false, false] rfl rfl (any_of HT_.out (by kernel_rfl)) (fun _ _ _ h => h) (Or.inl ⟨by rfl, ?_⟩) ?_ ?_
      rotate_left
      · intro w'
        go_simp
        with_reducible rfl
      rotate_left
      · simp only [Act.put, List.setIfInBounds_toArray, List.set_cons_zero, List.set_cons_succ, i64_w, i32_w]
        rfl
      refine pure_ (i := 3) (N := some 56) (v := ?_) (a' := ?_) #[true, false, true, true, false, false, false, false, false] rfl rfl (any_of HT_.out (by kernel_rfl)) (fun _ _ _ h => h) (Or.inl ⟨by rfl, ?_⟩) ?_ ?_
      rotate_left
      · intro w'
        go_simp
        with_reducible rfl
      rotate_left
      · simp only [Act.put, List.setIfInBounds_toArray, List.set_cons_zero, List.set_cons_succ, i64_w, i32_w]
        rfl
      refine take_ (i := 1) (N := some 54) (v := ?_) (a' := ?_) #[true, true, true, true, false, false, false, false, false] rfl rfl (take_ofW HT_.out HW_.out (by kernel_rfl)) (fun _ _ _ h => h) (Or.inl ⟨by rfl, ?_⟩) hHeld ?_ ?_
      rotate_left
      · rintro w' s0
        go_simp
        with_reducible rfl
      rotate_left
      · simp only [Act.put, List.setIfInBounds_toArray, List.set_cons_zero, List.set_cons_succ, i64_w, i32_w]
        rfl
      refine one_ (i := 4) (N := some 57) #[true, true, true, true, true, false, false, false, false] rfl rfl (one_of HT_.out (by kernel_rfl)) (by decide) (fun K hK => ?_)
      refine goes_ Tryd.func14 (by kernel_rfl) rfl #[.pointer (some ⟨g, 0, none⟩), .int .i64 4] (by rfl) rfl rfl (by (try simp only [List.map_toArray, List.map_cons, List.map_nil]); first | done | rfl) ?_
      refine (spec_l1Below.e 4 D.out.cur D.out.bel hc (by omega)).mono ?_
      rintro x w6 ⟨z, rfl, ⟨z0, z1, _⟩, hD⟩
      have z2 := z1 (by omega)
      refine ⟨_, rfl, ?_⟩
      replace BF := Aside0.mk (hD.blk BF.out NF)
      replace BR := Aside0.mk (hD.blk BR.out NR)
      replace RP := Aside0.mk (hD.R RP.out (fun _ hk => hP _ hk))
      replace D := Aside0.mk (D.out.call hD)
      clear hD z1
      have hel := line_elem RP.out k k0 k2
      have x0 : w6.cell? ⟨gp, k.toNat * 5 + 1, none⟩ = some (.int .i64 (rd_T81 r k).f1) := hel.1.2.1
      have f0 : w6.frozen? ⟨gp, k.toNat * 5 + 1, none⟩ = false := hel.2.2.1
      clear hel
      refine hK.out _ _ ((blk_cell BF.out 3).trans rfl) (fun hHeld => ?_)
      clear hK K
      refine norm_ (a' := ?_) ?_ ?_
      rotate_left
      · show Act.put _ (some 57) _ = _
        simp only [Act.put, List.setIfInBounds_toArray, List.set_cons_zero, List.set_cons_succ, i64_w, i32_w]
        rfl
      refine pure_ (i := 5) (N := some 58) (v := ?_) (a' := ?_) #[true, true, true, true, true, true, false, false, false] rfl rfl (any_of HT_.out (by kernel_rfl)) (fun _ _ _ h => h) (Or.inl ⟨by rfl, ?_⟩) ?_ ?_
      rotate_left
      · intro w'
        go_simp
        with_reducible rfl
      rotate_left
      · simp only [Act.put, List.setIfInBounds_toArray, List.set_cons_zero, List.set_cons_succ, i64_w, i32_w]
        rfl
      refine pure_ (i := 6) (N := some 59) (v := ?_) (a' := ?_) #[true, true, true, true, true, true, true, false, false] rfl rfl (any_of HT_.out (by kernel_rfl)) (fun _ _ _ h => h) (Or.inl ⟨by rfl, ?_⟩) ?_ ?_
      rotate_left
      · intro w'
        go_simp
        with_reducible rfl
      rotate_left
      · simp only [Act.put, List.setIfInBounds_toArray, List.set_cons_zero, List.set_cons_succ, i64_w, i32_w]
        rfl
      refine pure_ (i := 7) (N := some 60) (v := ?_) (a' := ?_) #[true, true, true, true, true, true, true, true, false] rfl rfl (any_of HT_.out (by kernel_rfl)) (fun _ _ _ h => h) (Or.inl ⟨by rfl, ?_⟩) ?_ ?_
      rotate_left
      · intro w'
        go_simp
        with_reducible rfl
      rotate_left
      · simp only [Act.put, List.setIfInBounds_toArray, List.set_cons_zero, List.set_cons_succ, i64_w, i32_w]
        rfl
      refine last_ (i := 8) (N := none) #[true, true, true, true, true, true, true, true, true] rfl rfl (one_of HT_.out (by kernel_rfl)) (by decide) (fun K hK => ?_)
      refine skip_ (w1 := ?_) (by rfl) rfl ?_ ?_
      rotate_left
      · go_simp
        rfl
      refine hK.out _ _ ?_
      clear hK K
      refine done_ (done_of HT_.out (by kernel_rfl)) ?_
      go_upto_region 23 with fail
      clear x0 f0
      obtain ⟨rs, hq, RQ⟩ := line_field1 RP.out k k0 k2 (wrap64 (z - 1))
      have RQ := Aside0.mk (show k81.R 81 (w6.setCell ⟨gp, k.toNat * 5 + 1, none⟩ (.int .i64 (wrap64 (z - 1)))) bb P (.slice (some ⟨gp, 0, none⟩) rs.length c1) rs from by rw [hq]; exact RQ)
      have E := Aside0.mk ((D.out.toR (some gp)).setRow (by omega) ngg (k.toNat * 5 + 1) (.int .i64 (wrap64 (z - 1))))
      replace BF := Aside0.mk (show (w6.setCell ⟨gp, k.toNat * 5 + 1, none⟩ (.int .i64 (wrap64 (z - 1)))).heap[w.heap.size]? = some (.cells #[.int .i64 (a), .int .i64 (b), .string t, .slice (some ⟨gp, 0, none⟩) rs.length c1] 35 (0, 0)) from by rw [hq]; exact blk_far BF.out (p := ⟨gp, k.toNat * 5 + 1, none⟩) (Ne.symm ngF) _)
      replace BR := Aside0.mk (blk_far BR.out (p := ⟨gp, k.toNat * 5 + 1, none⟩) (Ne.symm ngR) (.int .i64 (wrap64 (z - 1))))
      clear RP D
      generalize w6.setCell ⟨gp, k.toNat * 5 + 1, none⟩ (.int .i64 (wrap64 (z - 1))) = w7 at *
      have hq2 : rs.length ≤ r.length := by omega
      clear hq
      have y0 := (blk_cell BF.out 0).trans rfl
      have yz0 := blk_frozen BF.out 0
      have y1 := (blk_cell BF.out 1).trans rfl
      have yz1 := blk_frozen BF.out 1
      have y2 := (blk_cell BF.out 2).trans rfl
      have yz2 := blk_frozen BF.out 2
      have y3 := (blk_cell BF.out 3).trans rfl
      have yz3 := blk_frozen BF.out 3
      have z0 := (blk_cell BR.out 0).trans rfl
      have zz0 := blk_frozen BR.out 0
      have z1 := (blk_cell BR.out 1).trans rfl
      have zz1 := blk_frozen BR.out 1
      have z2 := (blk_cell BR.out 2).trans rfl
      have zz2 := blk_frozen BR.out 2
      have z3 := (blk_cell BR.out 3).trans rfl
      have zz3 := blk_frozen BR.out 3
      go_wp2_with fail
      have BR2 := Aside0.mk (blk4 BR.out (.int .i64 (a)) (.int .i64 (b)) (.string t) (.slice (some ⟨gp, 0, none⟩) rs.length c1))
      refine bodyPost_ret (results_c1 rfl _ _ (w.heap.size + 1) 35 #[.int .i64 (a), .int .i64 (b), .string t, .slice (some ⟨gp, 0, none⟩) rs.length c1] (0, 0) _ rfl BR2.out Tryd.underlying35 rfl (by kernel_rfl)) rfl ?_
      exact ⟨_, _, _, _, _, rs, rfl, put4_R RQ.out BR.out (by decide) _ _ _ _, ⟨(by first | omega | simp), (by omega)⟩, put4_E E.out HL (Nat.le_succ _) NR _ _ _ _⟩
    · clear kp kq; have kp := eq_true k0; have kq := eq_true k2
      obtain ⟨gp, cap, eo, gb, gl, cells, HGp⟩ := Kd.R_form RP.out (by omega)
      have ea : A = some ⟨gp, 0, none⟩ := by injection eo
      have ec : c1 = cap := by injection eo
      clear eo
      subst ea ec
      have ngg : gp ≠ g := hP _ (RP.out.1 gp rfl)
      have ngF : gp ≠ w.heap.size := blk_ne HGp BF.out (by decide)
      have ngR : gp ≠ w.heap.size + 1 := blk_ne HGp BR.out (by decide)
      clear HGp gl
      go_upto_region 16 with fail
      try go_wp2_with fail
      replace RP := Aside0.mk (Kd.R_drew RP.out)
      replace BF := Aside0.mk (blk_drew BF.out)
      replace BR := Aside0.mk (blk_drew BR.out)
      replace D := Aside0.mk D.out.drew
      refine start_ (n := 9) (S := fun w' => w'.cell? ⟨w.heap.size, 3, none⟩ = some (.slice (some ⟨gp, 0, none⟩) r.length c1)) (ds := [8]) #[false, false, false, false, false, false, false, false, false] (by kernel_rfl) rfl rfl ((blk_cell BF.out 3).trans rfl) (fun hHeld => ?_)
      refine with_tabW spec_l5SpoilEntry.tab16 spec_l5SpoilEntry.bits16 (fun HT_ HW_ => ?_)
      generalize w4.drew = w5 at *
      refine pure_ (i := 0) (N := some 63) (v := ?_) (a' := ?_) #[true, false, false, false, false, false, false, false, false] rfl rfl (any_of HT_.out (by kernel_rfl)) (fun _ _ _ h => h) (Or.inl ⟨by rfl, ?_⟩) ?_ ?_
      rotate_left
      · intro w'
        go_simp
        with_reducible rfl
      rotate_left
      · simp only [Act.put, List.setIfInBounds_toArray, List.set_cons_zero, List.set_cons_succ, i64_w, i32_w]
        rfl
      refine pure_ (i := 2) (N := some 65) (v := ?_) (a' := ?_) #[true, false, true, false, false, false, false, false, false] rfl rfl (any_of HT_.out (by kernel_rfl)) (fun _ _ _ h => h) (Or.inl ⟨by rfl, ?_⟩) ?_ ?_
      rotate_left
      · intro w'
        go_simp
        with_reducible rfl
      rotate_left
      · simp only [Act.put, List.setIfInBounds_toArray, List.set_cons_zero, List.set_cons_succ, i64_w, i32_w]
        rfl
      refine pure_ (i := 3) (N := some 66) (v := ?_) (a' := ?_) #[true, false, true, true, false, false, false, false, false] rfl rfl (any_of HT_.out (by kernel_rfl)) (fun _ _ _ h => h) (Or.inl ⟨by rfl, ?_⟩) ?_ ?_
      rotate_left
      · intro w'
        go_simp
        with_reducible rfl
      rotate_left
      · simp only [Act.put, List.setIfInBounds_toArray, List.set_cons_zero, List.set_cons_succ, i64_w, i32_w]
        rfl
      refine take_ (i := 1) (N := some 64) (v := ?_) (a' := ?_) #[true, true, true, true, false, false, false, false, false] rfl rfl (take_ofW HT_.out HW_.out (by kernel_rfl)) (fun _ _ _ h => h) (Or.inl ⟨by rfl, ?_⟩) hHeld ?_ ?_
      rotate_left
      · rintro w' s0
        go_simp
        with_reducible rfl
      rotate_left
      · simp only [Act.put, List.setIfInBounds_toArray, List.set_cons_zero, List.set_cons_succ, i64_w, i32_w]
        rfl
      refine one_ (i := 4) (N := some 67) #[true, true, true, true, true, false, false, false, false] rfl rfl (one_of HT_.out (by kernel_rfl)) (by decide) (fun K hK => ?_)
      refine goes_ Tryd.func14 (by kernel_rfl) rfl #[.pointer (some ⟨g, 0, none⟩), .int .i64 4] (by rfl) rfl rfl (by (try simp only [List.map_toArray, List.map_cons, List.map_nil]); first | done | rfl) ?_
      refine (spec_l1Below.e 4 D.out.cur D.out.bel hc (by omega)).mono ?_
      rintro x w6 ⟨z, rfl, ⟨z0, z1, _⟩, hD⟩
      have z2 := z1 (by omega)
      refine ⟨_, rfl, ?_⟩
      replace BF := Aside0.mk (hD.blk BF.out NF)
      replace BR := Aside0.mk (hD.blk BR.out NR)
      replace RP := Aside0.mk (hD.R RP.out (fun _ hk => hP _ hk))
      replace D := Aside0.mk (D.out.call hD)
      clear hD z1
      have hel := line_elem RP.out k k0 k2
      have x0 : w6.cell? ⟨gp, k.toNat * 5 + 2, none⟩ = some (.int .i64 (rd_T81 r k).f2) := hel.1.2.2.1
      have f0 : w6.frozen? ⟨gp, k.toNat * 5 + 2, none⟩ = false := hel.2.2.2.1
      clear hel
      refine hK.out _ _ ((blk_cell BF.out 3).trans rfl) (fun hHeld => ?_)
      clear hK K
      refine norm_ (a' := ?_) ?_ ?_
      rotate_left
      · show Act.put _ (some 67) _ = _
        simp only [Act.put, List.setIfInBounds_toArray, List.set_cons_zero, List.set_cons_succ, i64_w, i32_w]
        rfl
      refine pure_ (i := 5) (N := some 68) (v := ?_) (a' := ?_) #[true, true, true, true, true, true, false, false, false] rfl rfl (any_of HT_.out (by kernel_rfl)) (fun _ _ _ h => h) (Or.inl ⟨by rfl, ?_⟩) ?_ ?_
      rotate_left
      · intro w'
        go_simp
        with_reducible rfl
      rotate_left
      · simp only [Act.put, List.setIfInBounds_toArray, List.set_cons_zero, List.set_cons_succ, i64_w, i32_w]
        rfl
      refine pure_ (i := 6) (N := some 69) (v := ?_) (a' := ?_) #[true, true, true, true, true, true, true, false, false] rfl rfl (any_of HT_.out (by kernel_rfl)) (fun _ _ _ h => h) (Or.inl ⟨by rfl, ?_⟩) ?_ ?_
      rotate_left
      · intro w'
        go_simp
        with_reducible rfl
      rotate_left
      · simp only [Act.put, List.setIfInBounds_toArray, List.set_cons_zero, List.set_cons_succ, i64_w, i32_w]
        rfl
      refine pure_ (i := 7) (N := some 70) (v := ?_) (a' := ?_) #[true, true, true, true, true, true, true, true, false] rfl rfl (any_of HT_.out (by kernel_rfl)) (fun _ _ _ h => h) (Or.inl ⟨by rfl, ?_⟩) ?_ ?_
      rotate_left
      · intro w'
        go_simp
        with_reducible rfl
      rotate_left
      · simp only [Act.put, List.setIfInBounds_toArray, List.set_cons_zero, List.set_cons_succ, i64_w, i32_w]
        rfl
      refine last_ (i := 8) (N := none) #[true, true, true, true, true, true, true, true, true] rfl rfl (one_of HT_.out (by kernel_rfl)) (by decide) (fun K hK => ?_)
      refine skip_ (w1 := ?_) (by rfl) rfl ?_ ?_
      rotate_left
      · go_simp
        rfl
      refine hK.out _ _ ?_
      clear hK K
      refine done_ (done_of HT_.out (by kernel_rfl)) ?_
      go_upto_region 23 with fail
      clear x0 f0
      obtain ⟨rs, hq, RQ⟩ := line_field2 RP.out k k0 k2 (wrap64 (z - 1))
      have RQ := Aside0.mk (show k81.R 81 (w6.setCell ⟨gp, k.toNat * 5 + 2, none⟩ (.int .i64 (wrap64 (z - 1)))) bb P (.slice (some ⟨gp, 0, none⟩) rs.length c1) rs from by rw [hq]; exact RQ)
      have E := Aside0.mk ((D.out.toR (some gp)).setRow (by omega) ngg (k.toNat * 5 + 2) (.int .i64 (wrap64 (z - 1))))
      replace BF := Aside0.mk (show (w6.setCell ⟨gp, k.toNat * 5 + 2, none⟩ (.int .i64 (wrap64 (z - 1)))).heap[w.heap.size]? = some (.cells #[.int .i64 (a), .int .i64 (b), .string t, .slice (some ⟨gp, 0, none⟩) rs.length c1] 35 (0, 0)) from by rw [hq]; exact blk_far BF.out (p := ⟨gp, k.toNat * 5 + 2, none⟩) (Ne.symm ngF) _)
      replace BR := Aside0.mk (blk_far BR.out (p := ⟨gp, k.toNat * 5 + 2, none⟩) (Ne.symm ngR) (.int .i64 (wrap64 (z - 1))))
      clear RP D
      generalize w6.setCell ⟨gp, k.toNat * 5 + 2, none⟩ (.int .i64 (wrap64 (z - 1))) = w7 at *
      have hq2 : rs.length ≤ r.length := by omega
      clear hq
      have y0 := (blk_cell BF.out 0).trans rfl
      have yz0 := blk_frozen BF.out 0
      have y1 := (blk_cell BF.out 1).trans rfl
      have yz1 := blk_frozen BF.out 1
      have y2 := (blk_cell BF.out 2).trans rfl
      have yz2 := blk_frozen BF.out 2
      have y3 := (blk_cell BF.out 3).trans rfl
      have yz3 := blk_frozen BF.out 3
      have z0 := (blk_cell BR.out 0).trans rfl
      have zz0 := blk_frozen BR.out 0
      have z1 := (blk_cell BR.out 1).trans rfl
      have zz1 := blk_frozen BR.out 1
      have z2 := (blk_cell BR.out 2).trans rfl
      have zz2 := blk_frozen BR.out 2
      have z3 := (blk_cell BR.out 3).trans rfl
      have zz3 := blk_frozen BR.out 3
      go_wp2_with fail
      have BR2 := Aside0.mk (blk4 BR.out (.int .i64 (a)) (.int .i64 (b)) (.string t) (.slice (some ⟨gp, 0, none⟩) rs.length c1))
      refine bodyPost_ret (results_c1 rfl _ _ (w.heap.size + 1) 35 #[.int .i64 (a), .int .i64 (b), .string t, .slice (some ⟨gp, 0, none⟩) rs.length c1] (0, 0) _ rfl BR2.out Tryd.underlying35 rfl (by kernel_rfl)) rfl ?_
      exact ⟨_, _, _, _, _, rs, rfl, put4_R RQ.out BR.out (by decide) _ _ _ _, ⟨(by first | omega | simp), (by omega)⟩, put4_E E.out HL (Nat.le_succ _) NR _ _ _ _⟩
    · clear kp kq; have kp := eq_true k0; have kq := eq_true k2
      obtain ⟨gp, cap, eo, gb, gl, cells, HGp⟩ := Kd.R_form RP.out (by omega)
      have ea : A = some ⟨gp, 0, none⟩ := by injection eo
      have ec : c1 = cap := by injection eo
      clear eo
      subst ea ec
      have ngg : gp ≠ g := hP _ (RP.out.1 gp rfl)
      have ngF : gp ≠ w.heap.size := blk_ne HGp BF.out (by decide)
      have ngR : gp ≠ w.heap.size + 1 := blk_ne HGp BR.out (by decide)
      clear HGp gl
      go_upto_region 18 with fail
      try go_wp2_with fail
      have hel := line_elem RP.out k k0 k2
      have x0 : w4.cell? ⟨gp, k.toNat * 5 + 3, none⟩ = some (.int .i64 (rd_T81 r k).f3) := hel.1.2.2.2.1
      have f0 : w4.frozen? ⟨gp, k.toNat * 5 + 3, none⟩ = false := hel.2.2.2.2.1
      clear hel
      replace x0 : w4.drew.cell? ⟨gp, k.toNat * 5 + 3, none⟩ = some (.int .i64 (rd_T81 r k).f3) := x0
      replace f0 : w4.drew.frozen? ⟨gp, k.toNat * 5 + 3, none⟩ = false := f0
      replace RP := Aside0.mk (Kd.R_drew RP.out)
      replace BF := Aside0.mk (blk_drew BF.out)
      replace BR := Aside0.mk (blk_drew BR.out)
      replace D := Aside0.mk D.out.drew
      refine start_ (n := 16) (S := fun w' => w'.cell? ⟨w.heap.size, 3, none⟩ = some (.slice (some ⟨gp, 0, none⟩) r.length c1) ∧ w'.cell? ⟨gp, k.toNat * 5 + 3, none⟩ = some (.int .i64 (rd_T81 r k).f3)) (ds := [15]) #[false, false, false, false, false, false, false, false, false, false, false, false, false, false, false, false] (by kernel_rfl) rfl rfl ⟨(blk_cell BF.out 3).trans rfl, x0⟩ (fun hHeld => ?_)
      refine with_tabW spec_l5SpoilEntry.tab18 spec_l5SpoilEntry.bits18 (fun HT_ HW_ => ?_)
      generalize w4.drew = w5 at *
      refine pure_ (i := 0) (N := some 73) (v := ?_) (a' := ?_) #[true, false, false, false, false, false, false, false, false, false, false, false, false, false, false, false] rfl rfl (any_of HT_.out (by kernel_rfl)) (fun _ _ _ h => h) (Or.inl ⟨by rfl, ?_⟩) ?_ ?_
      rotate_left
      · intro w'
        go_simp
        with_reducible rfl
      rotate_left
      · simp only [Act.put, List.setIfInBounds_toArray, List.set_cons_zero, List.set_cons_succ, i64_w, i32_w]
        rfl
      refine pure_ (i := 2) (N := some 75) (v := ?_) (a' := ?_) #[true, false, true, false, false, false, false, false, false, false, false, false, false, false, false, false] rfl rfl (any_of HT_.out (by kernel_rfl)) (fun _ _ _ h => h) (Or.inl ⟨by rfl, ?_⟩) ?_ ?_
      rotate_left
      · intro w'
        go_simp
        with_reducible rfl
      rotate_left
      · simp only [Act.put, List.setIfInBounds_toArray, List.set_cons_zero, List.set_cons_succ, i64_w, i32_w]
        rfl
      refine pure_ (i := 3) (N := some 76) (v := ?_) (a' := ?_) #[true, false, true, true, false, false, false, false, false, false, false, false, false, false, false, false] rfl rfl (any_of HT_.out (by kernel_rfl)) (fun _ _ _ h => h) (Or.inl ⟨by rfl, ?_⟩) ?_ ?_
      rotate_left
      · intro w'
        go_simp
        with_reducible rfl
      rotate_left
      · simp only [Act.put, List.setIfInBounds_toArray, List.set_cons_zero, List.set_cons_succ, i64_w, i32_w]
        rfl
      refine pure_ (i := 5) (N := some 78) (v := ?_) (a' := ?_) #[true, false, true, true, false, true, false, false, false, false, false, false, false, false, false, false] rfl rfl (any_of HT_.out (by kernel_rfl)) (fun _ _ _ h => h) (Or.inl ⟨by rfl, ?_⟩) ?_ ?_
      rotate_left
      · intro w'
        go_simp
        with_reducible rfl
      rotate_left
      · simp only [Act.put, List.setIfInBounds_toArray, List.set_cons_zero, List.set_cons_succ, i64_w, i32_w]
        rfl
      refine pure_ (i := 9) (N := some 82) (v := ?_) (a' := ?_) #[true, false, true, true, false, true, false, false, false, true, false, false, false, false, false, false] rfl rfl (any_of HT_.out (by kernel_rfl)) (fun _ _ _ h => h) (Or.inl ⟨by rfl, ?_⟩) ?_ ?_
      rotate_left
      · intro w'
        go_simp
        with_reducible rfl
      rotate_left
      · simp only [Act.put, List.setIfInBounds_toArray, List.set_cons_zero, List.set_cons_succ, i64_w, i32_w]
        rfl
      refine take_ (i := 1) (N := some 74) (v := ?_) (a' := ?_) #[true, true, true, true, false, true, false, false, false, true, false, false, false, false, false, false] rfl rfl (take_ofW HT_.out HW_.out (by kernel_rfl)) (fun _ _ _ h => h) (Or.inl ⟨by rfl, ?_⟩) hHeld ?_ ?_
      rotate_left
      · rintro w' ⟨s0, s1⟩
        go_simp
        with_reducible rfl
      rotate_left
      · simp only [Act.put, List.setIfInBounds_toArray, List.set_cons_zero, List.set_cons_succ, i64_w, i32_w]
        rfl
      refine take_ (i := 4) (N := some 77) (v := ?_) (a' := ?_) #[true, true, true, true, true, true, false, false, false, true, false, false, false, false, false, false] rfl rfl (take_ofW HT_.out HW_.out (by kernel_rfl)) (fun _ _ _ h => h) (Or.inl ⟨by rfl, ?_⟩) hHeld ?_ ?_
      rotate_left
      · rintro w' ⟨s0, s1⟩
        go_simp
        with_reducible rfl
      rotate_left
      · simp only [Act.put, List.setIfInBounds_toArray, List.set_cons_zero, List.set_cons_succ, i64_w, i32_w]
        rfl
      refine pure_ (i := 6) (N := some 79) (v := ?_) (a' := ?_) #[true, true, true, true, true, true, true, false, false, true, false, false, false, false, false, false] rfl rfl (any_of HT_.out (by kernel_rfl)) (fun _ _ _ h => h) (Or.inl ⟨by rfl, ?_⟩) ?_ ?_
      rotate_left
      · intro w'
        go_simp
        with_reducible rfl
      rotate_left
      · simp only [Act.put, List.setIfInBounds_toArray, List.set_cons_zero, List.set_cons_succ, i64_w, i32_w]
        rfl
      refine pure_ (i := 7) (N := some 80) (v := ?_) (a' := ?_) #[true, true, true, true, true, true, true, true, false, true, false, false, false, false, false, false] rfl rfl (any_of HT_.out (by kernel_rfl)) (fun _ _ _ h => h) (Or.inl ⟨by rfl, ?_⟩) ?_ ?_
      rotate_left
      · intro w'
        go_simp
        with_reducible rfl
      rotate_left
      · simp only [Act.put, List.setIfInBounds_toArray, List.set_cons_zero, List.set_cons_succ, i64_w, i32_w]
        rfl
      refine take_ (i := 8) (N := some 81) (v := ?_) (a' := ?_) #[true, true, true, true, true, true, true, true, true, true, false, false, false, false, false, false] rfl rfl (take_ofW HT_.out HW_.out (by kernel_rfl)) (fun _ _ _ h => h) (Or.inl ⟨by rfl, ?_⟩) hHeld ?_ ?_
      rotate_left
      · rintro w' ⟨s0, s1⟩
        go_simp
        with_reducible rfl
      rotate_left
      · simp only [Act.put, List.setIfInBounds_toArray, List.set_cons_zero, List.set_cons_succ, i64_w, i32_w]
        rfl
      refine one_ (i := 10) (N := some 83) #[true, true, true, true, true, true, true, true, true, true, true, false, false, false, false, false] rfl rfl (one_of HT_.out (by kernel_rfl)) (by decide) (fun K hK => ?_)
      refine value_ (w1 := ?_) (v := ?_) (by rfl) rfl ?_ ?_
      rotate_left 2
      · go_simp
        constructor
        · rfl
        · rfl
      refine hK.out _ _ ⟨(blk_cell (blk_alloc BF.out _) 3).trans rfl, pw_cell_below (below_alloc (Below.refl w5.heap.size w5) _) x0⟩ (fun hHeld => ?_)
      clear hK K
      refine norm_ (a' := ?_) ?_ ?_
      rotate_left
      · show Act.put _ (some 83) _ = _
        simp only [Act.put, List.setIfInBounds_toArray, List.set_cons_zero, List.set_cons_succ, i64_w, i32_w]
        rfl
      refine one_ (i := 11) (N := some 84) #[true, true, true, true, true, true, true, true, true, true, true, true, false, false, false, false] rfl rfl (one_of HT_.out (by kernel_rfl)) (by decide) (fun K hK => ?_)
      refine goes_ Tryd.func33 (by kernel_rfl) rfl #[.pointer (some ⟨g, 0, none⟩), .slice (some ⟨w5.heap.size, 0, none⟩) 3 3] (by rfl) rfl rfl (by (try simp only [List.map_toArray, List.map_cons, List.map_nil]); first | done | rfl) ?_
      refine (spec_l1PickInt.e (some ⟨w5.heap.size, 0, none⟩) 3 [1, (-1), 100000000000] (D.out.alloc _).cur (D.out.alloc _).bel hc (ints_lit _ [1, (-1), 100000000000] _ rfl (by simp)) (Nat.le_refl _) (fun ad ha _ => by injection ha with ha; rw [← ha]; exact Nat.ne_of_gt D.out.cur.lt) (by simp) (by simp)).mono ?_
      rintro x w6 ⟨z, rfl, _, hD⟩
      refine ⟨_, rfl, ?_⟩
      replace BF := Aside0.mk (hD.blk (blk_alloc BF.out _) NF)
      replace BR := Aside0.mk (hD.blk (blk_alloc BR.out _) NR)
      replace RP := Aside0.mk (hD.R (Kd.R_alloc RP.out _) (fun _ hk => hP _ hk))
      replace D := Aside0.mk ((D.out.alloc _).call hD)
      clear x0 f0 hD
      have hel := line_elem RP.out k k0 k2
      have x0 : w6.cell? ⟨gp, k.toNat * 5 + 3, none⟩ = some (.int .i64 (rd_T81 r k).f3) := hel.1.2.2.2.1
      have f0 : w6.frozen? ⟨gp, k.toNat * 5 + 3, none⟩ = false := hel.2.2.2.2.1
      clear hel
      refine hK.out _ _ ⟨(blk_cell BF.out 3).trans rfl, x0⟩ (fun hHeld => ?_)
      clear hK K
      refine norm_ (a' := ?_) ?_ ?_
      rotate_left
      · show Act.put _ (some 84) _ = _
        simp only [Act.put, List.setIfInBounds_toArray, List.set_cons_zero, List.set_cons_succ, i64_w, i32_w]
        rfl
      refine pure_ (i := 12) (N := some 85) (v := ?_) (a' := ?_) #[true, true, true, true, true, true, true, true, true, true, true, true, true, false, false, false] rfl rfl (any_of HT_.out (by kernel_rfl)) (fun _ _ _ h => h) (Or.inl ⟨by rfl, ?_⟩) ?_ ?_
      rotate_left
      · intro w'
        go_simp
        with_reducible rfl
      rotate_left
      · simp only [Act.put, List.setIfInBounds_toArray, List.set_cons_zero, List.set_cons_succ, i64_w, i32_w]
        rfl
      refine pure_ (i := 13) (N := some 86) (v := ?_) (a' := ?_) #[true, true, true, true, true, true, true, true, true, true, true, true, true, true, false, false] rfl rfl (any_of HT_.out (by kernel_rfl)) (fun _ _ _ h => h) (Or.inl ⟨by rfl, ?_⟩) ?_ ?_
      rotate_left
      · intro w'
        go_simp
        with_reducible rfl
      rotate_left
      · simp only [Act.put, List.setIfInBounds_toArray, List.set_cons_zero, List.set_cons_succ, i64_w, i32_w]
        rfl
      refine pure_ (i := 14) (N := some 87) (v := ?_) (a' := ?_) #[true, true, true, true, true, true, true, true, true, true, true, true, true, true, true, false] rfl rfl (any_of HT_.out (by kernel_rfl)) (fun _ _ _ h => h) (Or.inl ⟨by rfl, ?_⟩) ?_ ?_
      rotate_left
      · intro w'
        go_simp
        with_reducible rfl
      rotate_left
      · simp only [Act.put, List.setIfInBounds_toArray, List.set_cons_zero, List.set_cons_succ, i64_w, i32_w]
        rfl
      refine last_ (i := 15) (N := none) #[true, true, true, true, true, true, true, true, true, true, true, true, true, true, true, true] rfl rfl (one_of HT_.out (by kernel_rfl)) (by decide) (fun K hK => ?_)
      refine skip_ (w1 := ?_) (by rfl) rfl ?_ ?_
      rotate_left
      · go_simp
        rfl
      refine hK.out _ _ ?_
      clear hK K
      refine done_ (done_of HT_.out (by kernel_rfl)) ?_
      go_upto_region 23 with fail
      clear x0 f0
      obtain ⟨rs, hq, RQ⟩ := line_field3 RP.out k k0 k2 (wrap64 ((rd_T81 r k).f3 + z))
      have RQ := Aside0.mk (show k81.R 81 (w6.setCell ⟨gp, k.toNat * 5 + 3, none⟩ (.int .i64 (wrap64 ((rd_T81 r k).f3 + z)))) bb P (.slice (some ⟨gp, 0, none⟩) rs.length c1) rs from by rw [hq]; exact RQ)
      have E := Aside0.mk ((D.out.toR (some gp)).setRow (by omega) ngg (k.toNat * 5 + 3) (.int .i64 (wrap64 ((rd_T81 r k).f3 + z))))
      replace BF := Aside0.mk (show (w6.setCell ⟨gp, k.toNat * 5 + 3, none⟩ (.int .i64 (wrap64 ((rd_T81 r k).f3 + z)))).heap[w.heap.size]? = some (.cells #[.int .i64 (a), .int .i64 (b), .string t, .slice (some ⟨gp, 0, none⟩) rs.length c1] 35 (0, 0)) from by rw [hq]; exact blk_far BF.out (p := ⟨gp, k.toNat * 5 + 3, none⟩) (Ne.symm ngF) _)
      replace BR := Aside0.mk (blk_far BR.out (p := ⟨gp, k.toNat * 5 + 3, none⟩) (Ne.symm ngR) (.int .i64 (wrap64 ((rd_T81 r k).f3 + z))))
      clear RP D
      generalize w6.setCell ⟨gp, k.toNat * 5 + 3, none⟩ (.int .i64 (wrap64 ((rd_T81 r k).f3 + z))) = w7 at *
      have hq2 : rs.length ≤ r.length := by omega
      clear hq
      have y0 := (blk_cell BF.out 0).trans rfl
      have yz0 := blk_frozen BF.out 0
      have y1 := (blk_cell BF.out 1).trans rfl
      have yz1 := blk_frozen BF.out 1
      have y2 := (blk_cell BF.out 2).trans rfl
      have yz2 := blk_frozen BF.out 2
      have y3 := (blk_cell BF.out 3).trans rfl
      have yz3 := blk_frozen BF.out 3
      have z0 := (blk_cell BR.out 0).trans rfl
      have zz0 := blk_frozen BR.out 0
      have z1 := (blk_cell BR.out 1).trans rfl
      have zz1 := blk_frozen BR.out 1
      have z2 := (blk_cell BR.out 2).trans rfl
      have zz2 := blk_frozen BR.out 2
      have z3 := (blk_cell BR.out 3).trans rfl
      have zz3 := blk_frozen BR.out 3
      go_wp2_with fail
      have BR2 := Aside0.mk (blk4 BR.out (.int .i64 (a)) (.int .i64 (b)) (.string t) (.slice (some ⟨gp, 0, none⟩) rs.length c1))
      refine bodyPost_ret (results_c1 rfl _ _ (w.heap.size + 1) 35 #[.int .i64 (a), .int .i64 (b), .string t, .slice (some ⟨gp, 0, none⟩) rs.length c1] (0, 0) _ rfl BR2.out Tryd.underlying35 rfl (by kernel_rfl)) rfl ?_
      exact ⟨_, _, _, _, _, rs, rfl, put4_R RQ.out BR.out (by decide) _ _ _ _, ⟨(by first | omega | simp), (by omega)⟩, put4_E E.out HL (Nat.le_succ _) NR _ _ _ _⟩
    · clear kp kq; have kp := eq_true k0; have kq := eq_true k2
      obtain ⟨gp, cap, eo, gb, gl, cells, HGp⟩ := Kd.R_form RP.out (by omega)
      have ea : A = some ⟨gp, 0, none⟩ := by injection eo
      have ec : c1 = cap := by injection eo
      clear eo
      subst ea ec
      have ngg : gp ≠ g := hP _ (RP.out.1 gp rfl)
      have ngF : gp ≠ w.heap.size := blk_ne HGp BF.out (by decide)
      have ngR : gp ≠ w.heap.size + 1 := blk_ne HGp BR.out (by decide)
      clear HGp gl
      go_upto_region 20 with fail
      try go_wp2_with fail
      have hel := line_elem RP.out k k0 k2
      have x0 : w4.cell? ⟨gp, k.toNat * 5 + 4, none⟩ = some (.int .i64 (rd_T81 r k).f4) := hel.1.2.2.2.2
      have f0 : w4.frozen? ⟨gp, k.toNat * 5 + 4, none⟩ = false := hel.2.2.2.2.2
      clear hel
      replace x0 : w4.drew.cell? ⟨gp, k.toNat * 5 + 4, none⟩ = some (.int .i64 (rd_T81 r k).f4) := x0
      replace f0 : w4.drew.frozen? ⟨gp, k.toNat * 5 + 4, none⟩ = false := f0
      replace RP := Aside0.mk (Kd.R_drew RP.out)
      replace BF := Aside0.mk (blk_drew BF.out)
      replace BR := Aside0.mk (blk_drew BR.out)
      replace D := Aside0.mk D.out.drew
      refine start_ (n := 13) (S := fun w' => w'.cell? ⟨w.heap.size, 3, none⟩ = some (.slice (some ⟨gp, 0, none⟩) r.length c1) ∧ w'.cell? ⟨gp, k.toNat * 5 + 4, none⟩ = some (.int .i64 (rd_T81 r k).f4)) (ds := [12]) #[false, false, false, false, false, false, false, false, false, false, false, false, false] (by kernel_rfl) rfl rfl ⟨(blk_cell BF.out 3).trans rfl, x0⟩ (fun hHeld => ?_)
      refine with_tabW spec_l5SpoilEntry.tab20 spec_l5SpoilEntry.bits20 (fun HT_ HW_ => ?_)
      generalize w4.drew = w5 at *
      refine pure_ (i := 0) (N := some 90) (v := ?_) (a' := ?_) #[true, false, false, false, false, false, false, false, false, false, false, false, false] rfl rfl (any_of HT_.out (by kernel_rfl)) (fun _ _ _ h => h) (Or.inl ⟨by rfl, ?_⟩) ?_ ?_
      rotate_left
      · intro w'
        go_simp
        with_reducible rfl
      rotate_left
      · simp only [Act.put, List.setIfInBounds_toArray, List.set_cons_zero, List.set_cons_succ, i64_w, i32_w]
        rfl
      refine pure_ (i := 2) (N := some 92) (v := ?_) (a' := ?_) #[true, false, true, false, false, false, false, false, false, false, false, false, false] rfl rfl (any_of HT_.out (by kernel_rfl)) (fun _ _ _ h => h) (Or.inl ⟨by rfl, ?_⟩) ?_ ?_
      rotate_left
      · intro w'
        go_simp
        with_reducible rfl
      rotate_left
      · simp only [Act.put, List.setIfInBounds_toArray, List.set_cons_zero, List.set_cons_succ, i64_w, i32_w]
        rfl
      refine pure_ (i := 3) (N := some 93) (v := ?_) (a' := ?_) #[true, false, true, true, false, false, false, false, false, false, false, false, false] rfl rfl (any_of HT_.out (by kernel_rfl)) (fun _ _ _ h => h) (Or.inl ⟨by rfl, ?_⟩) ?_ ?_
      rotate_left
      · intro w'
        go_simp
        with_reducible rfl
      rotate_left
      · simp only [Act.put, List.setIfInBounds_toArray, List.set_cons_zero, List.set_cons_succ, i64_w, i32_w]
        rfl
      refine pure_ (i := 5) (N := some 95) (v := ?_) (a' := ?_) #[true, false, true, true, false, true, false, false, false, false, false, false, false] rfl rfl (any_of HT_.out (by kernel_rfl)) (fun _ _ _ h => h) (Or.inl ⟨by rfl, ?_⟩) ?_ ?_
      rotate_left
      · intro w'
        go_simp
        with_reducible rfl
      rotate_left
      · simp only [Act.put, List.setIfInBounds_toArray, List.set_cons_zero, List.set_cons_succ, i64_w, i32_w]
        rfl
      refine take_ (i := 1) (N := some 91) (v := ?_) (a' := ?_) #[true, true, true, true, false, true, false, false, false, false, false, false, false] rfl rfl (take_ofW HT_.out HW_.out (by kernel_rfl)) (fun _ _ _ h => h) (Or.inl ⟨by rfl, ?_⟩) hHeld ?_ ?_
      rotate_left
      · rintro w' ⟨s0, s1⟩
        go_simp
        with_reducible rfl
      rotate_left
      · simp only [Act.put, List.setIfInBounds_toArray, List.set_cons_zero, List.set_cons_succ, i64_w, i32_w]
        rfl
      refine take_ (i := 4) (N := some 94) (v := ?_) (a' := ?_) #[true, true, true, true, true, true, false, false, false, false, false, false, false] rfl rfl (take_ofW HT_.out HW_.out (by kernel_rfl)) (fun _ _ _ h => h) (Or.inl ⟨by rfl, ?_⟩) hHeld ?_ ?_
      rotate_left
      · rintro w' ⟨s0, s1⟩
        go_simp
        with_reducible rfl
      rotate_left
      · simp only [Act.put, List.setIfInBounds_toArray, List.set_cons_zero, List.set_cons_succ, i64_w, i32_w]
        rfl
      refine pure_ (i := 6) (N := some 96) (v := ?_) (a' := ?_) #[true, true, true, true, true, true, true, false, false, false, false, false, false] rfl rfl (any_of HT_.out (by kernel_rfl)) (fun _ _ _ h => h) (Or.inl ⟨by rfl, ?_⟩) ?_ ?_
      rotate_left
      · intro w'
        go_simp
        with_reducible rfl
      rotate_left
      · simp only [Act.put, List.setIfInBounds_toArray, List.set_cons_zero, List.set_cons_succ, i64_w, i32_w]
        rfl
      refine pure_ (i := 7) (N := some 97) (v := ?_) (a' := ?_) #[true, true, true, true, true, true, true, true, false, false, false, false, false] rfl rfl (any_of HT_.out (by kernel_rfl)) (fun _ _ _ h => h) (Or.inl ⟨by rfl, ?_⟩) ?_ ?_
      rotate_left
      · intro w'
        go_simp
        with_reducible rfl
      rotate_left
      · simp only [Act.put, List.setIfInBounds_toArray, List.set_cons_zero, List.set_cons_succ, i64_w, i32_w]
        rfl
      refine take_ (i := 8) (N := some 98) (v := ?_) (a' := ?_) #[true, true, true, true, true, true, true, true, true, false, false, false, false] rfl rfl (take_ofW HT_.out HW_.out (by kernel_rfl)) (fun _ _ _ h => h) (Or.inl ⟨by rfl, ?_⟩) hHeld ?_ ?_
      rotate_left
      · rintro w' ⟨s0, s1⟩
        go_simp
        with_reducible rfl
      rotate_left
      · simp only [Act.put, List.setIfInBounds_toArray, List.set_cons_zero, List.set_cons_succ, i64_w, i32_w]
        rfl
      refine pure_ (i := 9) (N := some 99) (v := ?_) (a' := ?_) #[true, true, true, true, true, true, true, true, true, true, false, false, false] rfl rfl (any_of HT_.out (by kernel_rfl)) (fun _ _ _ h => h) (Or.inl ⟨by rfl, ?_⟩) ?_ ?_
      rotate_left
      · intro w'
        go_simp
        with_reducible rfl
      rotate_left
      · simp only [Act.put, List.setIfInBounds_toArray, List.set_cons_zero, List.set_cons_succ, i64_w, i32_w]
        rfl
      refine pure_ (i := 10) (N := some 100) (v := ?_) (a' := ?_) #[true, true, true, true, true, true, true, true, true, true, true, false, false] rfl rfl (any_of HT_.out (by kernel_rfl)) (fun _ _ _ h => h) (Or.inl ⟨by rfl, ?_⟩) ?_ ?_
      rotate_left
      · intro w'
        go_simp
        with_reducible rfl
      rotate_left
      · simp only [Act.put, List.setIfInBounds_toArray, List.set_cons_zero, List.set_cons_succ, i64_w, i32_w]
        rfl
      refine pure_ (i := 11) (N := some 101) (v := ?_) (a' := ?_) #[true, true, true, true, true, true, true, true, true, true, true, true, false] rfl rfl (any_of HT_.out (by kernel_rfl)) (fun _ _ _ h => h) (Or.inl ⟨by rfl, ?_⟩) ?_ ?_
      rotate_left
      · intro w'
        go_simp
        with_reducible rfl
      rotate_left
      · simp only [Act.put, List.setIfInBounds_toArray, List.set_cons_zero, List.set_cons_succ, i64_w, i32_w]
        rfl
      refine last_ (i := 12) (N := none) #[true, true, true, true, true, true, true, true, true, true, true, true, true] rfl rfl (one_of HT_.out (by kernel_rfl)) (by decide) (fun K hK => ?_)
      refine skip_ (w1 := ?_) (by rfl) rfl ?_ ?_
      rotate_left
      · go_simp
        rfl
      refine hK.out _ _ ?_
      clear hK K
      refine done_ (done_of HT_.out (by kernel_rfl)) ?_
      go_upto_region 23 with fail
      clear x0 f0
      obtain ⟨rs, hq, RQ⟩ := line_field4 RP.out k k0 k2 (wrap64 ((rd_T81 r k).f4 + 1))
      have RQ := Aside0.mk (show k81.R 81 (w5.setCell ⟨gp, k.toNat * 5 + 4, none⟩ (.int .i64 (wrap64 ((rd_T81 r k).f4 + 1)))) bb P (.slice (some ⟨gp, 0, none⟩) rs.length c1) rs from by rw [hq]; exact RQ)
      have E := Aside0.mk ((D.out.toR (some gp)).setRow (by omega) ngg (k.toNat * 5 + 4) (.int .i64 (wrap64 ((rd_T81 r k).f4 + 1))))
      replace BF := Aside0.mk (show (w5.setCell ⟨gp, k.toNat * 5 + 4, none⟩ (.int .i64 (wrap64 ((rd_T81 r k).f4 + 1)))).heap[w.heap.size]? = some (.cells #[.int .i64 (a), .int .i64 (b), .string t, .slice (some ⟨gp, 0, none⟩) rs.length c1] 35 (0, 0)) from by rw [hq]; exact blk_far BF.out (p := ⟨gp, k.toNat * 5 + 4, none⟩) (Ne.symm ngF) _)
      replace BR := Aside0.mk (blk_far BR.out (p := ⟨gp, k.toNat * 5 + 4, none⟩) (Ne.symm ngR) (.int .i64 (wrap64 ((rd_T81 r k).f4 + 1))))
      clear RP D
      generalize w5.setCell ⟨gp, k.toNat * 5 + 4, none⟩ (.int .i64 (wrap64 ((rd_T81 r k).f4 + 1))) = w6 at *
      have hq2 : rs.length ≤ r.length := by omega
      clear hq
      have y0 := (blk_cell BF.out 0).trans rfl
      have yz0 := blk_frozen BF.out 0
      have y1 := (blk_cell BF.out 1).trans rfl
      have yz1 := blk_frozen BF.out 1
      have y2 := (blk_cell BF.out 2).trans rfl
      have yz2 := blk_frozen BF.out 2
      have y3 := (blk_cell BF.out 3).trans rfl
      have yz3 := blk_frozen BF.out 3
      have z0 := (blk_cell BR.out 0).trans rfl
      have zz0 := blk_frozen BR.out 0
      have z1 := (blk_cell BR.out 1).trans rfl
      have zz1 := blk_frozen BR.out 1
      have z2 := (blk_cell BR.out 2).trans rfl
      have zz2 := blk_frozen BR.out 2
      have z3 := (blk_cell BR.out 3).trans rfl
      have zz3 := blk_frozen BR.out 3
      go_wp2_with fail
      have BR2 := Aside0.mk (blk4 BR.out (.int .i64 (a)) (.int .i64 (b)) (.string t) (.slice (some ⟨gp, 0, none⟩) rs.length c1))
      refine bodyPost_ret (results_c1 rfl _ _ (w.heap.size + 1) 35 #[.int .i64 (a), .int .i64 (b), .string t, .slice (some ⟨gp, 0, none⟩) rs.length c1] (0, 0) _ rfl BR2.out Tryd.underlying35 rfl (by kernel_rfl)) rfl ?_
      exact ⟨_, _, _, _, _, rs, rfl, put4_R RQ.out BR.out (by decide) _ _ _ _, ⟨(by first | omega | simp), (by omega)⟩, put4_E E.out HL (Nat.le_succ _) NR _ _ _ _⟩
    · clear kp kq; have kp := eq_true k0; have kq := eq_true k2
      have y3 := (blk_cell BF.out 3).trans rfl
      have yz3 := blk_frozen BF.out 3
      have hcap := (Kd.R_reads' RP.out).2.1
      have hkc : k ≤ (c1 : Int) := by omega
      go_upto_region 23 with fail
      clear y3 yz3
      replace RP := Aside0.mk (Kd.R_set RP.out BF.out (by decide) 3 (.slice A k.toNat c1))
      replace BR := Aside0.mk (blk_far BR.out (p := ⟨w.heap.size, 3, none⟩) (Ne.symm ne_BF_BR) (.slice A k.toNat c1))
      replace BF := Aside0.mk (show (w4.setCell ⟨w.heap.size, 3, none⟩ (.slice A k.toNat c1)).heap[w.heap.size]? = some (.cells #[.int .i64 (a), .int .i64 (b), .string t, .slice A k.toNat c1] 35 (0, 0)) from blk_set BF.out 3 (.slice A k.toNat c1))
      replace D := Aside0.mk (D.out.set HL (p := ⟨w.heap.size, 3, none⟩) ge_BF NF (.slice A k.toNat c1))
      generalize w4.setCell ⟨w.heap.size, 3, none⟩ (.slice A k.toNat c1) = w5 at *
      have RT := Kd.R_take RP.out (m := k.toNat) (by omega)
      have hq : (r.take k.toNat).length = k.toNat := by rw [List.length_take]; omega
      generalize r.take k.toNat = rs at RT hq
      have RQ := Aside0.mk (show k81.R 81 w5 bb P (.slice A rs.length c1) rs from by rw [hq]; exact RT)
      replace BF := Aside0.mk (show w5.heap[w.heap.size]? = some (.cells #[.int .i64 (a), .int .i64 (b), .string t, .slice A rs.length c1] 35 (0, 0)) from by rw [hq]; exact BF.out)
      have hq2 : rs.length ≤ r.length := by omega
      clear RT hq kp kq
      have E := Aside0.mk (D.out.toR (Value.slice A r.length c1).ownBlock)
      have y0 := (blk_cell BF.out 0).trans rfl
      have yz0 := blk_frozen BF.out 0
      have y1 := (blk_cell BF.out 1).trans rfl
      have yz1 := blk_frozen BF.out 1
      have y2 := (blk_cell BF.out 2).trans rfl
      have yz2 := blk_frozen BF.out 2
      have y3 := (blk_cell BF.out 3).trans rfl
      have yz3 := blk_frozen BF.out 3
      have z0 := (blk_cell BR.out 0).trans rfl
      have zz0 := blk_frozen BR.out 0
      have z1 := (blk_cell BR.out 1).trans rfl
      have zz1 := blk_frozen BR.out 1
      have z2 := (blk_cell BR.out 2).trans rfl
      have zz2 := blk_frozen BR.out 2
      have z3 := (blk_cell BR.out 3).trans rfl
      have zz3 := blk_frozen BR.out 3
      go_wp2_with fail
      have BR2 := Aside0.mk (blk4 BR.out (.int .i64 (a)) (.int .i64 (b)) (.string t) (.slice A rs.length c1))
      refine bodyPost_ret (results_c1 rfl _ _ (w.heap.size + 1) 35 #[.int .i64 (a), .int .i64 (b), .string t, .slice A rs.length c1] (0, 0) _ rfl BR2.out Tryd.underlying35 rfl (by kernel_rfl)) rfl ?_
      exact ⟨_, _, _, _, _, rs, rfl, put4_R RQ.out BR.out (by decide) _ _ _ _, ⟨(by first | omega | simp), (by omega)⟩, put4_E E.out HL (Nat.le_succ _) NR _ _ _ _⟩
end Go.Proofs.YtjkjjfbcakbmnaaDoor.Q
