/- Parts of the proof: what functions of the program and of the reference answer.
   No condition. -/
import Derived.Test.YtjkjjfbcakbmnaaDoorZBooksShut1
import Derived.Test.YtjkjjfbcakbmnaaDoorZBooksShut9
import Derived.Test.YtjkjjfbcakbmnaaDoorZBooksShut14
import Derived.Test.YtjkjjfbcakbmnaaDoorZBooksShut18
namespace Go.Proofs.YtjkjjfbcakbmnaaDoor.Q
open Go.RowKit Go.Proofs.YtjkjjfbcakbmnaaDoorW.PrintWords Go.Proofs.YtjkjjfbcakbmnaaDoorW.PrintLast Go.Proofs.YtjkjjfbcakbmnaaDoorW.PrintMore
set_option linter.unusedVariables false
set_option linter.unusedSimpArgs false
theorem row_far {α : Type} {d : Kd α} {e base n c g : Nat} {A : Option Addr} {ok : Nat → Prop} {w : World} {xs : List α} (h : d.R e w base ok (.slice A n c) xs) (hg : g < base) : ∀ ad, A = some ad → 0 < n → ad.block ≠ g := by
  intro ad hA hn
  obtain ⟨b, cap, e1, hb, _⟩ := Kd.R_form h (by have := (Kd.R_reads' h).1; omega)
  injection e1 with ea
  rw [hA] at ea
  injection ea with ea
  subst ea
  show b ≠ g
  omega
theorem blk4 {W : World} {g t : Nat} {z0 z1 z2 z3 : Value} (h : W.heap[g]? = some (.cells #[z0, z1, z2, z3] t (0, 0))) (u0 u1 u2 u3 : Value) : ((((W.setCell ⟨g, 0, none⟩ u0).setCell ⟨g, 1, none⟩ u1).setCell ⟨g, 2, none⟩ u2).setCell ⟨g, 3, none⟩ u3).heap[g]? = some (.cells #[u0, u1, u2, u3] t (0, 0)) := by
  refine blk_put (cs := #[u0, u1, u2, z3]) ?_ 3 _ rfl
  refine blk_put (cs := #[u0, u1, z2, z3]) ?_ 2 _ rfl
  refine blk_put (cs := #[u0, z1, z2, z3]) ?_ 1 _ rfl
  refine blk_put (cs := #[z0, z1, z2, z3]) ?_ 0 _ rfl
  exact h
set_option maxHeartbeats 4000000 in
set_option maxRecDepth 100000 in
theorem spec_l5DrawEntry.e (w0 w : World) (g : Nat) (c : List Int) (A : Option Addr) (cc : Nat) (l : List Acc) (d u : Int) (hI : Cur w0 w g c) (hB : Below w0.heap.size w0 w) (hc : c.length ≤ 1048576) (hr1 : ∀ W, KeepBut w W g none → Kd.C k64 W A l.length l) (hs : ∀ x ∈ l, x.f0.size ≤ maxLen) (hl0 : 0 < l.length) (hl1 : l.length ≤ 1000) (hd : d ≤ 100) (hu : u ≤ 100) :
    Calls Tryd.prog 15 #[.pointer (some ⟨g, 0, none⟩), .agg #[.slice A l.length cc, .int .i64 d, .int .i64 u]] w fun e w' => ∃ (v : Value) (a b : Int) (t : ByteArray) (r : List Lin), e = .returned (.agg #[.int .i64 a, .int .i64 b, .string t, v]) ∧ Kd.R k81 81 w' w.heap.size (fun _ => True) v r ∧ (r.length ≤ 9 ∧ t.size ≤ 50) ∧ Drew w0 w w' g c := by
  have HL := hB.size
  have H1 := Aside0.mk hr1
  have HS := Aside0.mk hs
  have D := Aside0.mk (Drew.refl hI hB)
  clear hI hB hr1 hs
  go_enter Tryd.func15, Tryd.ntmps15
  have BF := Aside0.mk (blk_alloc (blk_new w (Obj.cells #[.slice A l.length cc, .int .i64 d, .int .i64 u] 26)) (Obj.cells #[.int .i64 0, .int .i64 0, .string ⟨#[]⟩, .slice none 0 0] 35))
  have BR := Aside0.mk (show ((w.alloc (Obj.cells #[.slice A l.length cc, .int .i64 d, .int .i64 u] 26)).alloc (Obj.cells #[.int .i64 0, .int .i64 0, .string ⟨#[]⟩, .slice none 0 0] 35)).heap[w.heap.size + 1]? = some (Obj.cells #[.int .i64 0, .int .i64 0, .string ⟨#[]⟩, .slice none 0 0] 35) from by have := blk_new (w.alloc (Obj.cells #[.slice A l.length cc, .int .i64 d, .int .i64 u] 26)) (Obj.cells #[.int .i64 0, .int .i64 0, .string ⟨#[]⟩, .slice none 0 0] 35); simpa using this)
  have NF : w.heap.size ≠ g := Nat.ne_of_gt D.out.cur.lt
  have NR : w.heap.size + 1 ≠ g := by have := D.out.cur.lt; omega
  have ne_BF_BR : w.heap.size ≠ w.heap.size + 1 := by omega
  have ge_BF : w.heap.size ≤ w.heap.size := Nat.le_refl _
  have ge_BR : w.heap.size ≤ w.heap.size + 1 := Nat.le_succ _
  replace D := Aside0.mk ((D.out.alloc (Obj.cells #[.slice A l.length cc, .int .i64 d, .int .i64 u] 26)).alloc (Obj.cells #[.int .i64 0, .int .i64 0, .string ⟨#[]⟩, .slice none 0 0] 35))
  have zz : w.heap.size + 1 < ((w.alloc (Obj.cells #[.slice A l.length cc, .int .i64 d, .int .i64 u] 26)).alloc (Obj.cells #[.int .i64 0, .int .i64 0, .string ⟨#[]⟩, .slice none 0 0] 35)).heap.size := by simp
  go_wp2_with fail
  generalize (w.alloc (Obj.cells #[.slice A l.length cc, .int .i64 d, .int .i64 u] 26)).alloc (Obj.cells #[.int .i64 0, .int .i64 0, .string ⟨#[]⟩, .slice none 0 0] 35) = w1 at *
  go_wp2_with fail
  refine (spec_l1Below.e 800 D.out.cur D.out.bel hc (by omega)).mono ?_
  rintro x w2 ⟨day, rfl, ⟨day0, day1, _⟩, hD⟩
  have day2 := day1 (by omega)
  replace BF := Aside0.mk (hD.blk BF.out NF)
  replace BR := Aside0.mk (hD.blk BR.out NR)
  replace D := Aside0.mk (D.out.call hD)
  clear hD day1
  go_wp2_with fail
  refine (spec_l1Below.e 3 D.out.cur D.out.bel hc (by omega)).mono ?_
  rintro x w3 ⟨rf, rfl, ⟨rf0, rf1, _⟩, hD⟩
  have rf2 := rf1 (by omega)
  replace BF := Aside0.mk (hD.blk BF.out NF)
  replace BR := Aside0.mk (hD.blk BR.out NR)
  replace D := Aside0.mk (D.out.call hD)
  clear hD rf1
  go_wp2_with (first | ((with_reducible refine gate_dst (N := 20) rfl ?_); refine Kd.R_lit Kd.string _ 9 ?hg (N := 20) ?hd (xs := ([(⟨#[]⟩ : ByteArray), (⟨#[103, 111, 111, 100, 115]⟩ : ByteArray), (⟨#[119, 97, 103, 101, 115, 32, 51]⟩ : ByteArray), (⟨#[97, 32, 98, 32, 99]⟩ : ByteArray)] : List ByteArray)) (inner := [.string (⟨#[]⟩ : ByteArray), .string (⟨#[103, 111, 111, 100, 115]⟩ : ByteArray), .string (⟨#[119, 97, 103, 101, 115, 32, 51]⟩ : ByteArray), .string (⟨#[97, 32, 98, 32, 99]⟩ : ByteArray)]) (ok := fun _ => True) (okp := fun _ => True) ?hr ?hp (fun _ hk => hk) trivial (Below.refl _ _) (Nat.le_refl _) (by simp) ?_; (case hd => rfl); (case hg => rfl); (case hr => first | (go_simp; done) | (go_simp; rfl)); (case hp => exact (Reps.one (show Kd.M Kd.string _ _ _ (⟨#[]⟩ : ByteArray) [.string (⟨#[]⟩ : ByteArray)] from rfl) (Reps.one (show Kd.M Kd.string _ _ _ (⟨#[103, 111, 111, 100, 115]⟩ : ByteArray) [.string (⟨#[103, 111, 111, 100, 115]⟩ : ByteArray)] from rfl) (Reps.one (show Kd.M Kd.string _ _ _ (⟨#[119, 97, 103, 101, 115, 32, 51]⟩ : ByteArray) [.string (⟨#[119, 97, 103, 101, 115, 32, 51]⟩ : ByteArray)] from rfl) (Reps.one (show Kd.M Kd.string _ _ _ (⟨#[97, 32, 98, 32, 99]⟩ : ByteArray) [.string (⟨#[97, 32, 98, 32, 99]⟩ : ByteArray)] from rfl) (Reps.none _ _)))))); intro v20 w4 ho hb hg_ hnew_; clear hg_ hnew_; have hgL := D.out.cur.lt; replace BF := Aside0.mk (blk_below BF.out hb); replace BR := Aside0.mk (blk_below BR.out hb); replace D := Aside0.mk (D.out.below hb); have LIT := Aside0.mk ho; clear hb ho))
  obtain ⟨AL, cL, eL⟩ := Kd.R_slice LIT.out
  subst eL
  refine (spec_l1Pick.e AL cL ([(⟨#[]⟩ : ByteArray), (⟨#[103, 111, 111, 100, 115]⟩ : ByteArray), (⟨#[119, 97, 103, 101, 115, 32, 51]⟩ : ByteArray), (⟨#[97, 32, 98, 32, 99]⟩ : ByteArray)] : List ByteArray) D.out.cur D.out.bel hc (Kd.R_reads' LIT.out).2.2 (Kd.R_reads' LIT.out).2.1 (row_far LIT.out hgL) (by simp) (by simp)).mono ?_
  rintro x w5 ⟨tx, rfl, hm, hD⟩
  have txs := (show ∀ y ∈ ([(⟨#[]⟩ : ByteArray), (⟨#[103, 111, 111, 100, 115]⟩ : ByteArray), (⟨#[119, 97, 103, 101, 115, 32, 51]⟩ : ByteArray), (⟨#[97, 32, 98, 32, 99]⟩ : ByteArray)] : List ByteArray), y.size ≤ 50 by decide) _ hm
  replace BF := Aside0.mk (hD.blk BF.out NF)
  replace BR := Aside0.mk (hD.blk BR.out NR)
  replace D := Aside0.mk (D.out.call hD)
  clear hD hm LIT hgL
  have hb := below_alloc (Below.refl w5.heap.size w5) (Obj.cells #[.int .i64 day, .int .i64 rf, .string tx, .slice none 0 0] 35)
  have BE := Aside0.mk (blk_new w5 (Obj.cells #[.int .i64 day, .int .i64 rf, .string tx, .slice none 0 0] 35))
  have NE := Nat.ne_of_gt D.out.cur.lt
  have ge_BE := D.out.size
  have ne_BF_BE := Nat.ne_of_lt (blk_lt BF.out)
  have ne_BR_BE := Nat.ne_of_lt (blk_lt BR.out)
  replace BF := Aside0.mk (blk_below BF.out hb)
  replace BR := Aside0.mk (blk_below BR.out hb)
  replace D := Aside0.mk (D.out.below hb)
  have zz_BE : w5.heap.size < (w5.alloc (Obj.cells #[.int .i64 day, .int .i64 rf, .string tx, .slice none 0 0] 35)).heap.size := by simp
  clear hb
  go_wp2_with fail
  generalize w5.alloc (Obj.cells #[.int .i64 day, .int .i64 rf, .string tx, .slice none 0 0] 35) = w6 at *
  go_wp2_with fail
  refine (spec_l1Below.e 3 D.out.cur D.out.bel hc (by omega)).mono ?_
  rintro x w7 ⟨n, rfl, ⟨n0, n1, _⟩, hD⟩
  have n2 := n1 (by omega)
  replace BF := Aside0.mk (hD.blk BF.out NF)
  replace BR := Aside0.mk (hD.blk BR.out NR)
  replace BE := Aside0.mk (hD.blk BE.out NE)
  replace D := Aside0.mk (D.out.call hD)
  clear hD n1
  have RO := Aside0.mk (Kd.R_nil k81 81 w7 w.heap.size (fun k => k ≠ g))
  go_wp2_with fail
  go_loopg [6] (1 + n).toNat (fun kq v6 W => ∃ (m : Int) (v : Value) (r : List Lin), v6 = .int .i64 m ∧ 0 ≤ m ∧ kq = m.toNat ∧ (r.length : Int) + 3 * m ≤ 9 ∧ Aside0 (W.heap[w.heap.size]? = some (.cells #[.slice A l.length cc, .int .i64 d, .int .i64 u] 26 (0, 0))) ∧ Aside0 (W.heap[w.heap.size + 1]? = some (.cells #[.int .i64 0, .int .i64 0, .string ⟨#[]⟩, .slice none 0 0] 35 (0, 0))) ∧ Aside0 (W.heap[w5.heap.size]? = some (.cells #[.int .i64 day, .int .i64 rf, .string tx, v] 35 (0, 0))) ∧ Aside0 (k81.R 81 W w.heap.size (fun k => k ≠ g) (v) r) ∧ Aside0 (Drew w0 w W g c))
  case atStart => exact ⟨1 + n, _, [], by go_num, by omega, rfl, by simp; omega, BF, BR, BE, RO, D⟩
  case round =>
    clear BF BR BE RO D
    obtain ⟨m, v, r, rfl, m0, hm, hr, BF, BR, BE, RO, D⟩ := hrel
    by_cases hm1 : m > 0
    case neg =>
      obtain rfl : m = 0 := by omega
      obtain ⟨A5, c5, rfl⟩ := Kd.R_slice RO.out
      have y0 := (blk_cell BE.out 0).trans rfl
      have yz0 := blk_frozen BE.out 0
      have y1 := (blk_cell BE.out 1).trans rfl
      have yz1 := blk_frozen BE.out 1
      have y2 := (blk_cell BE.out 2).trans rfl
      have yz2 := blk_frozen BE.out 2
      have y3 := (blk_cell BE.out 3).trans rfl
      have yz3 := blk_frozen BE.out 3
      have z0 := (blk_cell BR.out 0).trans rfl
      have zz0 := blk_frozen BR.out 0
      have z1 := (blk_cell BR.out 1).trans rfl
      have zz1 := blk_frozen BR.out 1
      have z2 := (blk_cell BR.out 2).trans rfl
      have zz2 := blk_frozen BR.out 2
      have z3 := (blk_cell BR.out 3).trans rfl
      have zz3 := blk_frozen BR.out 3
      have BR2 := Aside0.mk (blk4 BR.out (.int .i64 day) (.int .i64 rf) (.string tx) (.slice A5 r.length c5))
      go_wp2_with fail
      refine bodyPost_ret (results_c1 rfl _ _ (w.heap.size + 1) 35 #[.int .i64 day, .int .i64 rf, .string tx, .slice A5 r.length c5] (0, 0) _ rfl BR2.out Tryd.underlying35 rfl (by kernel_rfl)) rfl ?_
      exact ⟨_, _, _, _, rfl, r, Kd.R_mono (Kd.R_set (Kd.R_set (Kd.R_set (Kd.R_set RO.out BR.out (by decide) 0 _) (blk_set BR.out 0 _) (by decide) 1 _) (blk_set (blk_set BR.out 0 _) 1 _) (by decide) 2 _) (blk_set (blk_set (blk_set BR.out 0 _) 1 _) 2 _) (by decide) 3 _) (fun _ _ => trivial), ⟨by omega, txs⟩, (((D.out.set HL (Nat.le_succ _) NR _).set HL (Nat.le_succ _) NR _).set HL (Nat.le_succ _) NR _).set HL (Nat.le_succ _) NR _⟩
    obtain ⟨q, rfl⟩ : ∃ q, gk = q + 1 := ⟨gk - 1, by omega⟩
    have y2 := (blk_cell BF.out 2).trans rfl
    have yz2 := blk_frozen BF.out 2
    go_wp2_with fail
    refine (spec_l1Below.e u D.out.cur D.out.bel hc (by omega)).mono ?_
    rintro x w8 ⟨cu, rfl, ⟨cu0, cu1, _⟩, hD⟩
    replace BF := Aside0.mk (hD.blk BF.out NF)
    replace BR := Aside0.mk (hD.blk BR.out NR)
    replace BE := Aside0.mk (hD.blk BE.out NE)
    replace RO := Aside0.mk (hD.R RO.out (fun _ hk => hk))
    replace D := Aside0.mk (D.out.call hD)
    clear hD
    clear y2 yz2 cu1
    have y1 := (blk_cell BF.out 1).trans rfl
    have yz1 := blk_frozen BF.out 1
    go_wp2_with fail
    refine (spec_l1Below.e d D.out.cur D.out.bel hc (by omega)).mono ?_
    rintro x w9 ⟨dm, rfl, ⟨dm0, dm1, _⟩, hD⟩
    replace BF := Aside0.mk (hD.blk BF.out NF)
    replace BR := Aside0.mk (hD.blk BR.out NR)
    replace BE := Aside0.mk (hD.blk BE.out NE)
    replace RO := Aside0.mk (hD.R RO.out (fun _ hk => hk))
    replace D := Aside0.mk (D.out.call hD)
    clear hD
    clear y1 yz1 dm1
    go_wp2_with fail
    refine (spec_l1Below.e 20000 D.out.cur D.out.bel hc (by omega)).mono ?_
    rintro x w10 ⟨a, rfl, ⟨a0, a1, _⟩, hD⟩
    have a2 := a1 (by omega)
    replace BF := Aside0.mk (hD.blk BF.out NF)
    replace BR := Aside0.mk (hD.blk BR.out NR)
    replace BE := Aside0.mk (hD.blk BE.out NE)
    replace RO := Aside0.mk (hD.R RO.out (fun _ hk => hk))
    replace D := Aside0.mk (D.out.call hD)
    clear hD a1
    go_upto_if 43 with fail
    go_cut [10] (fun v10 W => ∃ b : Int, v10 = .int .i64 b ∧ Aside0 (W.heap[w.heap.size]? = some (.cells #[.slice A l.length cc, .int .i64 d, .int .i64 u] 26 (0, 0))) ∧ Aside0 (W.heap[w.heap.size + 1]? = some (.cells #[.int .i64 0, .int .i64 0, .string ⟨#[]⟩, .slice none 0 0] 35 (0, 0))) ∧ Aside0 (W.heap[w5.heap.size]? = some (.cells #[.int .i64 day, .int .i64 rf, .string tx, v] 35 (0, 0))) ∧ Aside0 (k81.R 81 W w.heap.size (fun k => k ≠ g) (v) r) ∧ Aside0 (Drew w0 w W g c))
    case first =>
      by_cases hcu : cu = 0
      · have hcu' : (cu != 0) = false := by simp [hcu]
        go_wp2_with fail
        go_meet
        exact ⟨_, rfl, BF, BR, BE, RO, D⟩
      · have hcu' : (cu != 0) = true := by simp [hcu]
        go_wp2_with fail
        refine (spec_l1Below.e 100 D.out.cur D.out.bel hc (by omega)).mono ?_
        rintro x w11 ⟨y, rfl, _, hD⟩
        replace BF := Aside0.mk (hD.blk BF.out NF)
        replace BR := Aside0.mk (hD.blk BR.out NR)
        replace BE := Aside0.mk (hD.blk BE.out NE)
        replace RO := Aside0.mk (hD.R RO.out (fun _ hk => hk))
        replace D := Aside0.mk (D.out.call hD)
        clear hD
        go_wp2_with fail
        refine (spec_l1Below.e 3 D.out.cur D.out.bel hc (by omega)).mono ?_
        rintro x w12 ⟨z, rfl, _, hD⟩
        replace BF := Aside0.mk (hD.blk BF.out NF)
        replace BR := Aside0.mk (hD.blk BR.out NR)
        replace BE := Aside0.mk (hD.blk BE.out NE)
        replace RO := Aside0.mk (hD.R RO.out (fun _ hk => hk))
        replace D := Aside0.mk (D.out.call hD)
        clear hD
        go_wp2_with fail
        go_meet
        exact ⟨_, rfl, BF, BR, BE, RO, D⟩
    case rest =>
      clear BF BR BE RO D
      obtain ⟨b, rfl, BF, BR, BE, RO, D⟩ := hcut
      have y0 := (blk_cell BF.out 0).trans rfl
      have yz0 := blk_frozen BF.out 0
      go_wp2_with fail
      refine (spec_l5DrawLeaf.e w0 _ g c A cc l D.out.cur D.out.bel hc (fun W' hk => H1.out _ (KeepBut.thenK D.out.keep hk)) HS.out hl0 hl1).mono ?_
      rintro x w13 ⟨fr, rfl, _, _, hD⟩
      clear y0 yz0
      replace BF := Aside0.mk (hD.blk BF.out NF)
      replace BR := Aside0.mk (hD.blk BR.out NR)
      replace BE := Aside0.mk (hD.blk BE.out NE)
      replace RO := Aside0.mk (hD.R RO.out (fun _ hk => hk))
      replace D := Aside0.mk (D.out.call hD)
      clear hD
      have y0 := (blk_cell BF.out 0).trans rfl
      have yz0 := blk_frozen BF.out 0
      go_wp2_with fail
      refine (spec_l5DrawLeaf.e w0 _ g c A cc l D.out.cur D.out.bel hc (fun W' hk => H1.out _ (KeepBut.thenK D.out.keep hk)) HS.out hl0 hl1).mono ?_
      rintro x w14 ⟨tt, rfl, _, _, hD⟩
      clear y0 yz0
      replace BF := Aside0.mk (hD.blk BF.out NF)
      replace BR := Aside0.mk (hD.blk BR.out NR)
      replace BE := Aside0.mk (hD.blk BE.out NE)
      replace RO := Aside0.mk (hD.R RO.out (fun _ hk => hk))
      replace D := Aside0.mk (D.out.call hD)
      clear hD
      have y3 := (blk_cell BE.out 3).trans rfl
      have yz3 := blk_frozen BE.out 3
      go_wp2_with (first | ((with_reducible refine gate_builtin (b := .append) (xs := #[.tmp 62, .tmp 69]) rfl ?_); at_builtin; refine Kd.R_append k81 w.heap.size rfl (.tmp 62) (.tmp 69) 33 81 (.agg #[(.int .i64 0), (.int .i64 0), (.int .i64 0), (.int .i64 0), (.int .i64 0)]) 40 rfl Tryd.underlying33 info81 rfl (by decide) (by omega) (v) r (⟨fr, dm, cu, a - 10000, b⟩ : S81) [.int .i64 (fr), .int .i64 (dm), .int .i64 (cu), .int .i64 (a - 10000), .int .i64 (b)] (fun k => k ≠ g) (fun _ => False) rfl (by first | (go_simp; done) | (go_simp; rfl)) ?aP (fun _ hk => hk.elim) ?aF ?aO (Below.refl _ _) ?aS ?aL ?_; (case aP => exact k81_mkM _ _ _ (⟨fr, dm, cu, a - 10000, b⟩ : S81)); (case aF => exact fun k hk => by have := D.out.cur.lt; omega); (case aO => exact RO.out); (case aS => exact D.out.size); (case aL => omega); intro v1 w15 ho hb hg hat; obtain ⟨r1, hr1⟩ : ∃ z_, z_ = r ++ [(⟨fr, dm, cu, a - 10000, b⟩ : S81)] := ⟨_, rfl⟩; rw [← hr1] at ho; have nr1 : r1.length ≤ r.length + 1 := (by rw [hr1]; simp); clear hr1; obtain ⟨Br1, qr1, hv⟩ := Kd.R_slice ho; subst hv; have BF_ := Aside0.mk (blk_grown BF.out hg (Kd.R_ne RO.out BF.out (by decide))); have BR_ := Aside0.mk (blk_grown BR.out hg (Kd.R_ne RO.out BR.out (by decide))); have BE_ := Aside0.mk (blk_grown BE.out hg (Kd.R_ne RO.out BE.out (by decide))); clear BF; have BF := BF_; clear BF_; clear BR; have BR := BR_; clear BR_; clear BE; have BE := BE_; clear BE_; replace D := Aside0.mk (D.out.grown HL hg (fun k hk => ⟨Kd.R_base RO.out k hk, RO.out.1 k hk⟩)); clear RO; have RO := Aside0.mk ho; have s3 := (blk_cell BE.out 3).trans rfl; have sz3 := blk_frozen BE.out 3; clear ho hb hg hat))
      clear s3 sz3
      replace RO := Aside0.mk (Kd.R_set RO.out BE.out (by decide) 3 (.slice Br1 r1.length qr1))
      replace BF := Aside0.mk (blk_far BF.out (p := ⟨w5.heap.size, 3, none⟩) (by first | exact ne_BF_BE | exact Ne.symm ne_BE_BF) (.slice Br1 r1.length qr1))
      replace BR := Aside0.mk (blk_far BR.out (p := ⟨w5.heap.size, 3, none⟩) (by first | exact ne_BR_BE | exact Ne.symm ne_BE_BR) (.slice Br1 r1.length qr1))
      replace BE := Aside0.mk (blk_set BE.out 3 (.slice Br1 r1.length qr1))
      replace D := Aside0.mk (D.out.set HL (p := ⟨w5.heap.size, 3, none⟩) ge_BE NE (.slice Br1 r1.length qr1))
      generalize w15.setCell ⟨w5.heap.size, 3, none⟩ (.slice Br1 r1.length qr1) = w16 at *
      clear y3 yz3
      go_wp2_with fail
      refine (spec_l1Once.e 3 D.out.cur D.out.bel hc (by omega)).mono ?_
      rintro x w17 ⟨bb, rfl, hD⟩
      replace BF := Aside0.mk (hD.blk BF.out NF)
      replace BR := Aside0.mk (hD.blk BR.out NR)
      replace BE := Aside0.mk (hD.blk BE.out NE)
      replace RO := Aside0.mk (hD.R RO.out (fun _ hk => hk))
      replace D := Aside0.mk (D.out.call hD)
      clear hD
      go_upto_if 73 with fail
      go_cut [9, 10] (fun v9 v10 W => ∃ (x y : Int) (v : Value) (s : List Lin), v9 = .int .i64 x ∧ v10 = .int .i64 y ∧ s.length ≤ r.length + 2 ∧ Aside0 (W.heap[w.heap.size]? = some (.cells #[.slice A l.length cc, .int .i64 d, .int .i64 u] 26 (0, 0))) ∧ Aside0 (W.heap[w.heap.size + 1]? = some (.cells #[.int .i64 0, .int .i64 0, .string ⟨#[]⟩, .slice none 0 0] 35 (0, 0))) ∧ Aside0 (W.heap[w5.heap.size]? = some (.cells #[.int .i64 day, .int .i64 rf, .string tx, v] 35 (0, 0))) ∧ Aside0 (k81.R 81 W w.heap.size (fun k => k ≠ g) (v) s) ∧ Aside0 (Drew w0 w W g c))
      case first =>
        cases bb
        · go_wp2_with fail
          go_meet
          exact ⟨_, _, _, r1, rfl, rfl, by omega, BF, BR, BE, RO, D⟩
        · skip
          go_wp2_with fail
          refine (spec_l1Below.e 200 D.out.cur D.out.bel hc (by omega)).mono ?_
          rintro x w18 ⟨x, rfl, ⟨x0, x1, _⟩, hD⟩
          have x2 := x1 (by omega)
          replace BF := Aside0.mk (hD.blk BF.out NF)
          replace BR := Aside0.mk (hD.blk BR.out NR)
          replace BE := Aside0.mk (hD.blk BE.out NE)
          replace RO := Aside0.mk (hD.R RO.out (fun _ hk => hk))
          replace D := Aside0.mk (D.out.call hD)
          clear hD x1
          go_upto_if 78 with fail
          go_cut [14] (fun v14 W => ∃ y : Int, v14 = .int .i64 y ∧ Aside0 (W.heap[w.heap.size]? = some (.cells #[.slice A l.length cc, .int .i64 d, .int .i64 u] 26 (0, 0))) ∧ Aside0 (W.heap[w.heap.size + 1]? = some (.cells #[.int .i64 0, .int .i64 0, .string ⟨#[]⟩, .slice none 0 0] 35 (0, 0))) ∧ Aside0 (W.heap[w5.heap.size]? = some (.cells #[.int .i64 day, .int .i64 rf, .string tx, .slice Br1 r1.length qr1] 35 (0, 0))) ∧ Aside0 (k81.R 81 W w.heap.size (fun k => k ≠ g) (.slice Br1 r1.length qr1) r1) ∧ Aside0 (Drew w0 w W g c))
          case first =>
            by_cases hcu : cu = 0
            · have hcu' : (cu != 0) = false := by simp [hcu]
              go_wp2_with fail
              go_meet
              exact ⟨_, rfl, BF, BR, BE, RO, D⟩
            · have hcu' : (cu != 0) = true := by simp [hcu]
              go_wp2_with fail
              refine (spec_l1Below.e 100 D.out.cur D.out.bel hc (by omega)).mono ?_
              rintro x w19 ⟨y, rfl, _, hD⟩
              replace BF := Aside0.mk (hD.blk BF.out NF)
              replace BR := Aside0.mk (hD.blk BR.out NR)
              replace BE := Aside0.mk (hD.blk BE.out NE)
              replace RO := Aside0.mk (hD.R RO.out (fun _ hk => hk))
              replace D := Aside0.mk (D.out.call hD)
              clear hD
              go_wp2_with fail
              go_meet
              exact ⟨_, rfl, BF, BR, BE, RO, D⟩
          case rest =>
            clear BF BR BE RO D
            obtain ⟨y, rfl, BF, BR, BE, RO, D⟩ := hcut
            have y3 := (blk_cell BE.out 3).trans rfl
            have yz3 := blk_frozen BE.out 3
            go_wp2_with (first | ((with_reducible refine gate_builtin (b := .append) (xs := #[.tmp 82, .tmp 91]) rfl ?_); at_builtin; refine Kd.R_append k81 w.heap.size rfl (.tmp 82) (.tmp 91) 33 81 (.agg #[(.int .i64 0), (.int .i64 0), (.int .i64 0), (.int .i64 0), (.int .i64 0)]) 40 rfl Tryd.underlying33 info81 rfl (by decide) (by omega) (.slice Br1 r1.length qr1) r1 (⟨tt, dm, cu, -x, wrap64 (-y)⟩ : S81) [.int .i64 (tt), .int .i64 (dm), .int .i64 (cu), .int .i64 (-x), .int .i64 (wrap64 (-y))] (fun k => k ≠ g) (fun _ => False) rfl (by first | (go_simp; done) | (go_simp; rfl)) ?aP (fun _ hk => hk.elim) ?aF ?aO (Below.refl _ _) ?aS ?aL ?_; (case aP => exact k81_mkM _ _ _ (⟨tt, dm, cu, -x, wrap64 (-y)⟩ : S81)); (case aF => exact fun k hk => by have := D.out.cur.lt; omega); (case aO => exact RO.out); (case aS => exact D.out.size); (case aL => omega); intro v1 w20 ho hb hg hat; obtain ⟨r2, hr2⟩ : ∃ z_, z_ = r1 ++ [(⟨tt, dm, cu, -x, wrap64 (-y)⟩ : S81)] := ⟨_, rfl⟩; rw [← hr2] at ho; have nr2 : r2.length ≤ r1.length + 1 := (by rw [hr2]; simp); clear hr2; obtain ⟨Br2, qr2, hv⟩ := Kd.R_slice ho; subst hv; have BF_ := Aside0.mk (blk_grown BF.out hg (Kd.R_ne RO.out BF.out (by decide))); have BR_ := Aside0.mk (blk_grown BR.out hg (Kd.R_ne RO.out BR.out (by decide))); have BE_ := Aside0.mk (blk_grown BE.out hg (Kd.R_ne RO.out BE.out (by decide))); clear BF; have BF := BF_; clear BF_; clear BR; have BR := BR_; clear BR_; clear BE; have BE := BE_; clear BE_; replace D := Aside0.mk (D.out.grown HL hg (fun k hk => ⟨Kd.R_base RO.out k hk, RO.out.1 k hk⟩)); clear RO; have RO := Aside0.mk ho; have s3 := (blk_cell BE.out 3).trans rfl; have sz3 := blk_frozen BE.out 3; clear ho hb hg hat))
            clear s3 sz3
            replace RO := Aside0.mk (Kd.R_set RO.out BE.out (by decide) 3 (.slice Br2 r2.length qr2))
            replace BF := Aside0.mk (blk_far BF.out (p := ⟨w5.heap.size, 3, none⟩) (by first | exact ne_BF_BE | exact Ne.symm ne_BE_BF) (.slice Br2 r2.length qr2))
            replace BR := Aside0.mk (blk_far BR.out (p := ⟨w5.heap.size, 3, none⟩) (by first | exact ne_BR_BE | exact Ne.symm ne_BE_BR) (.slice Br2 r2.length qr2))
            replace BE := Aside0.mk (blk_set BE.out 3 (.slice Br2 r2.length qr2))
            replace D := Aside0.mk (D.out.set HL (p := ⟨w5.heap.size, 3, none⟩) ge_BE NE (.slice Br2 r2.length qr2))
            generalize w20.setCell ⟨w5.heap.size, 3, none⟩ (.slice Br2 r2.length qr2) = w21 at *
            clear y3 yz3
            go_wp2_with fail
            go_meet
            exact ⟨_, _, _, r2, rfl, rfl, by omega, BF, BR, BE, RO, D⟩
      case rest =>
        clear BF BR BE RO D
        obtain ⟨x, y, v, s, rfl, rfl, hs, BF, BR, BE, RO, D⟩ := hcut
        have y3 := (blk_cell BE.out 3).trans rfl
        have yz3 := blk_frozen BE.out 3
        go_wp2_with (first | ((with_reducible refine gate_builtin (b := .append) (xs := #[.tmp 101, .tmp 110]) rfl ?_); at_builtin; refine Kd.R_append k81 w.heap.size rfl (.tmp 101) (.tmp 110) 33 81 (.agg #[(.int .i64 0), (.int .i64 0), (.int .i64 0), (.int .i64 0), (.int .i64 0)]) 40 rfl Tryd.underlying33 info81 rfl (by decide) (by omega) (v) s (⟨tt, dm, cu, wrap64 (-x), wrap64 (-y)⟩ : S81) [.int .i64 (tt), .int .i64 (dm), .int .i64 (cu), .int .i64 (wrap64 (-x)), .int .i64 (wrap64 (-y))] (fun k => k ≠ g) (fun _ => False) rfl (by first | (go_simp; done) | (go_simp; rfl)) ?aP (fun _ hk => hk.elim) ?aF ?aO (Below.refl _ _) ?aS ?aL ?_; (case aP => exact k81_mkM _ _ _ (⟨tt, dm, cu, wrap64 (-x), wrap64 (-y)⟩ : S81)); (case aF => exact fun k hk => by have := D.out.cur.lt; omega); (case aO => exact RO.out); (case aS => exact D.out.size); (case aL => omega); intro v1 w20 ho hb hg hat; obtain ⟨r3, hr3⟩ : ∃ z_, z_ = s ++ [(⟨tt, dm, cu, wrap64 (-x), wrap64 (-y)⟩ : S81)] := ⟨_, rfl⟩; rw [← hr3] at ho; have nr3 : r3.length ≤ s.length + 1 := (by rw [hr3]; simp); clear hr3; obtain ⟨Br3, qr3, hv⟩ := Kd.R_slice ho; subst hv; have BF_ := Aside0.mk (blk_grown BF.out hg (Kd.R_ne RO.out BF.out (by decide))); have BR_ := Aside0.mk (blk_grown BR.out hg (Kd.R_ne RO.out BR.out (by decide))); have BE_ := Aside0.mk (blk_grown BE.out hg (Kd.R_ne RO.out BE.out (by decide))); clear BF; have BF := BF_; clear BF_; clear BR; have BR := BR_; clear BR_; clear BE; have BE := BE_; clear BE_; replace D := Aside0.mk (D.out.grown HL hg (fun k hk => ⟨Kd.R_base RO.out k hk, RO.out.1 k hk⟩)); clear RO; have RO := Aside0.mk ho; have s3 := (blk_cell BE.out 3).trans rfl; have sz3 := blk_frozen BE.out 3; clear ho hb hg hat))
        clear s3 sz3
        replace RO := Aside0.mk (Kd.R_set RO.out BE.out (by decide) 3 (.slice Br3 r3.length qr3))
        replace BF := Aside0.mk (blk_far BF.out (p := ⟨w5.heap.size, 3, none⟩) (by first | exact ne_BF_BE | exact Ne.symm ne_BE_BF) (.slice Br3 r3.length qr3))
        replace BR := Aside0.mk (blk_far BR.out (p := ⟨w5.heap.size, 3, none⟩) (by first | exact ne_BR_BE | exact Ne.symm ne_BE_BR) (.slice Br3 r3.length qr3))
        replace BE := Aside0.mk (blk_set BE.out 3 (.slice Br3 r3.length qr3))
        replace D := Aside0.mk (D.out.set HL (p := ⟨w5.heap.size, 3, none⟩) ge_BE NE (.slice Br3 r3.length qr3))
        generalize w20.setCell ⟨w5.heap.size, 3, none⟩ (.slice Br3 r3.length qr3) = w21 at *
        clear y3 yz3
        go_wp2_with fail
        go_roundg q
        case rel => exact ⟨m - 1, _, r3, by go_num, by omega, by omega, by omega, BF, BR, BE, RO, D⟩
        case measure => omega
end Go.Proofs.YtjkjjfbcakbmnaaDoor.Q
