/- Parts of the proof: what functions of the program and of the reference answer.
   No condition. -/
import Derived.Test.YtjkjjfbcakbmnaaDoorZBooksShut1
import Derived.Test.YtjkjjfbcakbmnaaDoorZBooksShut8
import Derived.Test.YtjkjjfbcakbmnaaDoorZBooksShut20
import Derived.Test.YtjkjjfbcakbmnaaDoorZBooksShut17
import Derived.Test.YtjkjjfbcakbmnaaDoorZBooksShut14
import Derived.Test.YtjkjjfbcakbmnaaDoorZBooksShut24
import Derived.Test.YtjkjjfbcakbmnaaDoorZBooksShut27
import Derived.Test.YtjkjjfbcakbmnaaDoorZBooksShut7
import Derived.Test.YtjkjjfbcakbmnaaDoorZBooksShut9
import Derived.Test.YtjkjjfbcakbmnaaDoorZBooksShut19
import Derived.Test.YtjkjjfbcakbmnaaDoorZBooksShut23
import Derived.Test.YtjkjjfbcakbmnaaDoorZBooksShut25
import Derived.Test.YtjkjjfbcakbmnaaDoorZBooksShut28
namespace Go.Proofs.YtjkjjfbcakbmnaaDoor.Q
open Go.RowKit Go.Proofs.YtjkjjfbcakbmnaaDoorW.PrintWords Go.Proofs.YtjkjjfbcakbmnaaDoorW.PrintLast Go.Proofs.YtjkjjfbcakbmnaaDoorW.PrintMore
set_option linter.unusedVariables false
set_option linter.unusedSimpArgs false
theorem books_closed {ch : List Acc} {d c : Int} {es : List Ent} {h : Int} {ps : List Per} {a b i : Int} (q : booksB ch d c es h ps a b = true) (h0 : 0 ≤ i) (h1 : i ≤ (ps.length : Int)) : booksB ch d c es h ps i b = true :=
  booksB_true.2 (by have := booksB_true.1 q; exact ⟨this.1, this.2.1, ⟨h0, h1⟩, this.2.2.2⟩)
theorem rec_ok {ch : List Acc} {d c : Int} {es : List Ent} {h : Int} {ps : List Per} {a b : Int} {e : Ent} (q : booksB ch d c es h ps a b = true) (hc : recC ch d c es h ps a b e = 0) :
    es.length ≤ 999 ∧ entryB ch d c e = true ∧ booksB ch d c (es ++ [e]) (headV (es ++ [e])) ps a b = true := by
  unfold recC at hc
  rw [if_pos q] at hc
  by_cases qe : entryB ch d c e = true
  · rw [if_pos qe] at hc
    by_cases q5 : perV ps e.f0 < 0
    · rw [if_pos q5] at hc; omega
    · rw [if_neg q5] at hc
      by_cases q6 : perV ps e.f0 < a
      · rw [if_pos q6] at hc; omega
      · rw [if_neg q6] at hc
        by_cases q7 : es.length = 1000
        · rw [if_pos q7] at hc; omega
        · have p := booksB_true.1 q
          have hl := p.1.2.1
          refine ⟨by omega, qe, booksB_true.2 ⟨⟨p.1.1, by rw [List.length_append]; simp; omega, fun x hx => ?_, rfl⟩, p.2⟩⟩
          rcases List.mem_append.1 hx with hx | hx
          · exact p.1.2.2.1 x hx
          · rw [List.mem_singleton.1 hx]; exact entryB_true.1 qe
  · rw [if_neg qe] at hc; omega
theorem rec_last {ch : List Acc} {d c : Int} {es es' : List Ent} {h h' : Int} {ps : List Per} {a b : Int} {e : Ent} (q : booksB ch d c es h ps a b = true) (q' : booksB ch d c es' h' ps (ps.length : Int) b = true) :
    recC ch d c es' h' ps (ps.length : Int) b e = 4 ∨ (recC ch d c es' h' ps (ps.length : Int) b e = recC ch d c es h ps a b e ∧ recC ch d c es h ps a b e ≠ 0) := by
  unfold recC
  rw [if_pos q, if_pos q']
  by_cases qe : entryB ch d c e = true
  · rw [if_pos qe, if_pos qe]
    by_cases q5 : perV ps e.f0 < 0
    · right
      rw [if_pos q5, if_pos q5]
      exact ⟨rfl, by omega⟩
    · left
      have := perV_b ps e.f0
      rw [if_neg q5, if_pos (by omega)]
  · right
    rw [if_neg qe, if_neg qe]
    exact ⟨rfl, by omega⟩
theorem rec_parts {ch : List Acc} {d c : Int} {es : List Ent} {h : Int} {ps : List Per} {a b : Int} {e : Ent} (q : booksB ch d c es h ps a b = true) :
    ∃ (r1 : List Ent) (rh : Int), recR ⟨ch, d, c, es, h, ps, a, b⟩ e = (⟨ch, d, c, r1, rh, ps, a, b⟩, recC ch d c es h ps a b e) ∧ booksB ch d c r1 rh ps a b = true ∧
      ((recC ch d c es h ps a b e = 0 ∧ r1 = es ++ [e] ∧ r1.length = es.length + 1) ∨ (recC ch d c es h ps a b e ≠ 0 ∧ r1 = es)) := by
  have hne : recC ch d c es h ps a b e ≠ 1 := by
    unfold recC
    rw [if_pos q]
    split
    · split
      · omega
      · split
        · omega
        · split <;> omega
    · omega
  unfold recR
  rw [if_neg (show ¬ recC ch d c es h ps a b e = 1 from hne)]
  by_cases hc : recC ch d c es h ps a b e = 0
  · rw [if_pos (show recC ch d c es h ps a b e = 0 from hc)]
    have := rec_ok q hc
    exact ⟨es ++ [e], headV (es ++ [e]), by rw [hc], this.2.2, .inl ⟨hc, rfl, by rw [List.length_append]; rfl⟩⟩
  · rw [if_neg (show ¬ recC ch d c es h ps a b e = 0 from hc)]
    exact ⟨es, h, rfl, q, .inr ⟨hc, rfl⟩⟩
theorem shut_next {ch : List Acc} {d c : Int} {es : List Ent} {h : Int} {ps : List Per} {a b : Int} (q : booksB ch d c es h ps a b = true) (hl : a < (ps.length : Int)) : shutR ⟨ch, d, c, es, h, ps, a, b⟩ = (⟨ch, d, c, es, h, ps, a + 1, b⟩, 0) := by
  unfold shutR
  rw [if_pos (show booksB ch d c es h ps a b = true from q), if_neg (show ¬ a = (ps.length : Int) by omega)]
theorem shut_last {ch : List Acc} {d c : Int} {es : List Ent} {h : Int} {ps : List Per} {b : Int} (q : booksB ch d c es h ps (ps.length : Int) b = true) : shutR ⟨ch, d, c, es, h, ps, (ps.length : Int), b⟩ = (⟨ch, d, c, es, h, ps, (ps.length : Int), b⟩, 3) := by
  unfold shutR
  rw [if_pos (show booksB ch d c es h ps (ps.length : Int) b = true from q), if_pos (show (ps.length : Int) = (ps.length : Int) from rfl)]
set_option maxHeartbeats 8000000 in
set_option maxRecDepth 100000 in
theorem spec_DrawRecord.e (w : World) (A : Option Addr) (cc : Nat) (c : List Int) (hr0 : Kd.C (Kd.int .u8) w A c.length c) (hc0 : c.length ≤ cc) (hc : c.length ≤ 1048576) :
    Calls Tryd.prog 5 #[.slice A c.length cc] w fun e w' => ∃ (v0 v3 v5 v6 : Value) (ch : List Acc) (d u : Int) (es : List Ent) (h : Int) (ps : List Per) (cl kp a b : Int) (t : ByteArray) (r : List Lin), e = .returned (.tuple #[.agg #[v0, .int .i64 d, .int .i64 u, v3, .int .i64 h, v5, .int .i64 cl, .int .i64 kp], .agg #[.int .i64 a, .int .i64 b, .string t, v6]]) ∧ Kd.R k64 64 w' w.heap.size (fun _ => True) v0 ch ∧ Kd.S k35 35 w' w.heap.size (fun _ => True) v3 es ∧ Kd.R k66 66 w' w.heap.size (fun _ => True) v5 ps ∧ Kd.R k81 81 w' w.heap.size (fun _ => True) v6 r ∧ goodB ch es ps ∧ (r.length ≤ 9 ∧ t.size ≤ 50) ∧ Below w.heap.size w w' := by
  have H0 := Aside0.mk hr0
  have BR := Aside0.mk (blk_alloc (blk_new w (Obj.cells #[.slice none 0 0, .int .i64 0, .int .i64 0, .slice none 0 0, .int .i64 0, .slice none 0 0, .int .i64 0, .int .i64 0] 32)) (Obj.cells #[.int .i64 0, .int .i64 0, .string ⟨#[]⟩, .slice none 0 0] 35))
  have BX := Aside0.mk (show ((w.alloc (Obj.cells #[.slice none 0 0, .int .i64 0, .int .i64 0, .slice none 0 0, .int .i64 0, .slice none 0 0, .int .i64 0, .int .i64 0] 32)).alloc (Obj.cells #[.int .i64 0, .int .i64 0, .string ⟨#[]⟩, .slice none 0 0] 35)).heap[w.heap.size + 1]? = some (.cells #[.int .i64 0, .int .i64 0, .string ⟨#[]⟩, .slice none 0 0] 35 (0, 0)) from by have := blk_new (w.alloc (Obj.cells #[.slice none 0 0, .int .i64 0, .int .i64 0, .slice none 0 0, .int .i64 0, .slice none 0 0, .int .i64 0, .int .i64 0] 32)) (Obj.cells #[.int .i64 0, .int .i64 0, .string ⟨#[]⟩, .slice none 0 0] 35); simpa using this)
  have hz : w.heap.size + 1 < ((w.alloc (Obj.cells #[.slice none 0 0, .int .i64 0, .int .i64 0, .slice none 0 0, .int .i64 0, .slice none 0 0, .int .i64 0, .int .i64 0] 32)).alloc (Obj.cells #[.int .i64 0, .int .i64 0, .string ⟨#[]⟩, .slice none 0 0] 35)).heap.size := by simp
  have HBW := Aside0.mk (below_two w (Obj.cells #[.slice none 0 0, .int .i64 0, .int .i64 0, .slice none 0 0, .int .i64 0, .slice none 0 0, .int .i64 0, .int .i64 0] 32) (Obj.cells #[.int .i64 0, .int .i64 0, .string ⟨#[]⟩, .slice none 0 0] 35))
  clear hr0
  go_enter Tryd.func5, Tryd.ntmps5
  go_wp2_with fail
  generalize ((w.alloc (Obj.cells #[.slice none 0 0, .int .i64 0, .int .i64 0, .slice none 0 0, .int .i64 0, .slice none 0 0, .int .i64 0, .int .i64 0] 32)).alloc (Obj.cells #[.int .i64 0, .int .i64 0, .string ⟨#[]⟩, .slice none 0 0] 35)) = w1 at *
  refine (spec_l1New.e A cc c _ (Kd.C_below H0.out HBW.out) hc0 hc).mono ?_
  rintro x w2 ⟨g, rfl, hI, hb⟩
  replace BR := Aside0.mk (blk_below BR.out hb)
  replace BX := Aside0.mk (blk_below BX.out hb)
  have D := Aside0.mk (Drew.refl hI hb)
  have HL := hb.size
  have NR : w.heap.size ≠ g := by have := hI.ge; omega
  have NX : w.heap.size + 1 ≠ g := by have := hI.ge; omega
  clear hI hb
  go_wp2_with fail
  refine (spec_l1Below.e 5 D.out.cur D.out.bel hc (by omega)).mono ?_
  rintro x w3 ⟨n, rfl, ⟨n0, n1, _⟩, hD⟩
  have n2 := n1 (by omega)
  replace BR := Aside0.mk (hD.blk BR.out NR)
  replace BX := Aside0.mk (hD.blk BX.out NX)
  replace D := Aside0.mk (D.out.call hD)
  clear hD n1
  have hs3 := D.out.size
  go_wp2_with fail
  refine (spec_l6DrawBooks.e2 w1 _ g c n D.out.cur D.out.bel hc (by omega)).mono ?_
  rintro x w4 ⟨v0, v3, v5, ch, d, u, es, h, ps, cl, kp, rfl, hR0, hS3, hR5, ⟨hg, hp1, hch3⟩, ⟨hd, hu⟩, hD⟩
  obtain ⟨A0, c0, rfl⟩ := Kd.R_slice hR0
  obtain ⟨A3, c3, rfl⟩ := Kd.S_slice hS3
  obtain ⟨A5, c5, rfl⟩ := Kd.R_slice hR5
  have RC := Aside0.mk (Kd.R_mono (hD.cur.apart (Kd.R_lower hR0 (base' := w2.heap.size) (by omega)) (by decide)) (ok' := fun k => k ≠ g) (fun k hk => hk.2))
  have RE := Aside0.mk (Kd.S_mono (hD.cur.apartS (Kd.S_lower hS3 (base' := w2.heap.size) (by omega)) (by decide)) (ok' := fun k => k ≠ g) (fun k hk => hk.2))
  have RP := Aside0.mk (Kd.R_mono (hD.cur.apart (Kd.R_lower hR5 (base' := w2.heap.size) (by omega)) (by decide)) (ok' := fun k => k ≠ g) (fun k hk => hk.2))
  replace BR := Aside0.mk (hD.blk BR.out NR)
  replace BX := Aside0.mk (hD.blk BX.out NX)
  replace D := Aside0.mk (D.out.call hD)
  have HG := Aside0.mk hg
  have chl := hg.1.1
  have psl := hg.2.2
  clear hR0 hS3 hR5 hg hD
  go_wp2_with fail
  refine (spec_l6Spoil.e w1 _ g c A0 c0 ch d u A3 c3 es h A5 c5 ps cl kp w2.heap.size D.out.cur D.out.bel hc HL D.out.size RP.out hp1 (by omega) (by omega)).mono ?_
  rintro x w5 ⟨A6, c6, qs, h', cl', kp', rfl, hRq, hql, hE⟩
  replace RC := Aside0.mk (R_keepRow RC.out RP.out hE.keep (fun _ hk => hk) (by decide))
  replace RE := Aside0.mk (S_keepRow RE.out RP.out hE.keep (fun _ hk => hk) (by decide))
  replace BR := Aside0.mk (KeepBut.blkRow hE.keep BR.out NR (Kd.R_ne RP.out BR.out (by decide)))
  replace BX := Aside0.mk (KeepBut.blkRow hE.keep BX.out NX (Kd.R_ne RP.out BX.out (by decide)))
  replace D := Aside0.mk (hE.own D.out (fun b hb => Kd.R_base RP.out b hb))
  have RQ := Aside0.mk hRq
  have GB := Aside0.mk (show goodB ch es qs from ⟨HG.out.1, HG.out.2.1, by omega⟩)
  have HTX := Aside0.mk (show ∀ x ∈ ch, x.f0.size ≤ maxLen from fun x hx => Nat.le_trans (HG.out.1.2 x hx) (by unfold maxLen; omega))
  clear hRq hE RP HG
  have hb := below_alloc (Below.refl w5.heap.size w5) (Obj.cells #[.slice A0 ch.length c0, .int .i64 d, .int .i64 u, .slice A3 es.length c3, .int .i64 h', .slice A6 qs.length c6, .int .i64 cl', .int .i64 kp'] 32)
  have BF := Aside0.mk (blk_new w5 (Obj.cells #[.slice A0 ch.length c0, .int .i64 d, .int .i64 u, .slice A3 es.length c3, .int .i64 h', .slice A6 qs.length c6, .int .i64 cl', .int .i64 kp'] 32))
  have NF := Nat.ne_of_gt D.out.cur.lt
  have ge_BF := D.out.size
  have ne_BR_BF := Nat.ne_of_lt (blk_lt BR.out)
  have ne_BX_BF := Nat.ne_of_lt (blk_lt BX.out)
  replace BR := Aside0.mk (blk_below BR.out hb)
  replace BX := Aside0.mk (blk_below BX.out hb)
  replace RC := Aside0.mk (Kd.R_below RC.out hb)
  replace RE := Aside0.mk (Kd.S_below RE.out hb)
  replace RQ := Aside0.mk (Kd.R_below RQ.out hb)
  replace D := Aside0.mk (D.out.below hb)
  have zz_BF : w5.heap.size < (w5.alloc (Obj.cells #[.slice A0 ch.length c0, .int .i64 d, .int .i64 u, .slice A3 es.length c3, .int .i64 h', .slice A6 qs.length c6, .int .i64 cl', .int .i64 kp'] 32)).heap.size := by simp
  clear hb
  go_upto_region 3 with fail
  generalize w5.alloc (Obj.cells #[.slice A0 ch.length c0, .int .i64 d, .int .i64 u, .slice A3 es.length c3, .int .i64 h', .slice A6 qs.length c6, .int .i64 cl', .int .i64 kp'] 32) = w6 at *
  replace RE := Aside0.mk (Kd.S_mono (Kd.S_bound RE.out) (ok' := fun k => k ≠ g ∧ k < w6.heap.size) (fun k hk => ⟨hk.1, hk.2.2.1⟩))
  have y0 := (blk_cell BF.out 0).trans rfl
  have yz0 := blk_frozen BF.out 0
  have y1 := (blk_cell BF.out 1).trans rfl
  have yz1 := blk_frozen BF.out 1
  have y2 := (blk_cell BF.out 2).trans rfl
  have yz2 := blk_frozen BF.out 2
  go_wp2_with fail
  refine (spec_l5DrawEntry.e w1 _ g c A0 c0 ch d u D.out.cur D.out.bel hc (fun W' hk => (Kd.R_reads' (Kd.R_keep RC.out hk (fun _ h => h))).2.2) HTX.out (by omega) (by omega) (by omega) (by omega)).mono ?_
  rintro x w7 ⟨v6, a0, b0, t0, r0, rfl, hR6, hg6, hD⟩
  obtain ⟨A7, c7, rfl⟩ := Kd.R_slice hR6
  have RL := Aside0.mk (Kd.R_mono (hD.cur.apart (Kd.R_bound hR6) (by decide)) (ok' := fun k => k ≠ g ∧ w6.heap.size ≤ k) (fun k hk => ⟨hk.2, hk.1.2.1⟩))
  clear y0 y1 y2 yz0 yz1 yz2
  replace BR := Aside0.mk (hD.blk BR.out NR)
  replace BX := Aside0.mk (hD.blk BX.out NX)
  replace BF := Aside0.mk (hD.blk BF.out NF)
  replace RC := Aside0.mk (hD.R RC.out (fun _ hk => hk))
  replace RE := Aside0.mk (hD.S RE.out (fun _ hk => hk.1))
  replace RQ := Aside0.mk (hD.R RQ.out (fun _ hk => hk))
  replace D := Aside0.mk (D.out.call hD)
  have s67 := hD.keep.1
  clear hR6 hD
  have hb := below_alloc (Below.refl w7.heap.size w7) (Obj.cells #[.int .i64 a0, .int .i64 b0, .string t0, .slice A7 r0.length c7] 35)
  have BE := Aside0.mk (blk_new w7 (Obj.cells #[.int .i64 a0, .int .i64 b0, .string t0, .slice A7 r0.length c7] 35))
  have NE := Nat.ne_of_gt D.out.cur.lt
  have ge_BE := D.out.size
  have ne_BR_BE := Nat.ne_of_lt (blk_lt BR.out)
  have ne_BX_BE := Nat.ne_of_lt (blk_lt BX.out)
  have ne_BF_BE := Nat.ne_of_lt (blk_lt BF.out)
  replace BR := Aside0.mk (blk_below BR.out hb)
  replace BX := Aside0.mk (blk_below BX.out hb)
  replace BF := Aside0.mk (blk_below BF.out hb)
  replace RC := Aside0.mk (Kd.R_below RC.out hb)
  replace RE := Aside0.mk (Kd.S_below RE.out hb)
  replace RQ := Aside0.mk (Kd.R_below RQ.out hb)
  replace RL := Aside0.mk (Kd.R_below RL.out hb)
  replace D := Aside0.mk (D.out.below hb)
  have zz_BE : w7.heap.size < (w7.alloc (Obj.cells #[.int .i64 a0, .int .i64 b0, .string t0, .slice A7 r0.length c7] 35)).heap.size := by simp
  clear hb
  go_upto_region 4 with fail
  generalize w7.alloc (Obj.cells #[.int .i64 a0, .int .i64 b0, .string t0, .slice A7 r0.length c7] 35) = w8 at *
  go_wp2_with fail
  refine (spec_l1Below.e 400 D.out.cur D.out.bel hc (by omega)).mono ?_
  rintro x w9 ⟨dd, rfl, ⟨dd0, dd1, _⟩, hD⟩
  have dd2 := dd1 (by omega)
  replace BR := Aside0.mk (hD.blk BR.out NR)
  replace BX := Aside0.mk (hD.blk BX.out NX)
  replace BF := Aside0.mk (hD.blk BF.out NF)
  replace BE := Aside0.mk (hD.blk BE.out NE)
  replace RC := Aside0.mk (hD.R RC.out (fun _ hk => hk))
  replace RE := Aside0.mk (hD.S RE.out (fun _ hk => hk.1))
  replace RQ := Aside0.mk (hD.R RQ.out (fun _ hk => hk))
  replace RL := Aside0.mk (hD.R RL.out (fun _ hk => hk.1))
  replace D := Aside0.mk (D.out.call hD)
  clear hD dd1
  have e0 := (blk_cell BE.out 0).trans rfl
  have ez0 := blk_frozen BE.out 0
  go_upto_region 5 with fail
  have ne_BE_BF := Ne.symm ne_BF_BE
  have ne_BE_BR := Ne.symm ne_BR_BE
  have ne_BE_BX := Ne.symm ne_BX_BE
  have OLDBE := BE
  clear e0 ez0
  replace BR := Aside0.mk (blk_far BR.out (p := ⟨w7.heap.size, 0, none⟩) ne_BR_BE (.int .i64 dd))
  replace BX := Aside0.mk (blk_far BX.out (p := ⟨w7.heap.size, 0, none⟩) ne_BX_BE (.int .i64 dd))
  replace BF := Aside0.mk (blk_far BF.out (p := ⟨w7.heap.size, 0, none⟩) ne_BF_BE (.int .i64 dd))
  replace BE := Aside0.mk (show (w9.setCell ⟨w7.heap.size, 0, none⟩ (.int .i64 dd)).heap[w7.heap.size]? = some (.cells #[.int .i64 dd, .int .i64 b0, .string t0, .slice A7 r0.length c7] 35 (0, 0)) from by exact blk_put BE.out 0 _ rfl)
  replace RC := Aside0.mk (Kd.R_mono (Kd.R_far (p := ⟨w7.heap.size, 0, none⟩) (Kd.R_types RC.out (OLDBE.out) (by decide)) (fun _ hk => hk.2) (.int .i64 dd)) (fun _ hk => hk.1))
  replace RQ := Aside0.mk (Kd.R_mono (Kd.R_far (p := ⟨w7.heap.size, 0, none⟩) (Kd.R_types RQ.out (OLDBE.out) (by decide)) (fun _ hk => hk.2) (.int .i64 dd)) (fun _ hk => hk.1))
  replace RL := Aside0.mk (Kd.R_mono (Kd.R_far (p := ⟨w7.heap.size, 0, none⟩) (Kd.R_types RL.out (OLDBE.out) (by decide)) (fun _ hk => hk.2) (.int .i64 dd)) (fun _ hk => hk.1))
  replace RE := Aside0.mk (Kd.S_far (p := ⟨w7.heap.size, 0, none⟩) RE.out (fun k hk => by have := hk.2; show k ≠ w7.heap.size; omega) (.int .i64 dd))
  replace D := Aside0.mk (D.out.set HL (p := ⟨w7.heap.size, 0, none⟩) ge_BE NE (.int .i64 dd))
  clear OLDBE
  generalize w9.setCell ⟨w7.heap.size, 0, none⟩ (.int .i64 dd) = wa at *
  have ge_w6 : w6.heap.size ≤ wa.heap.size := by have h1 := blk_lt BE.out; omega
  go_region_held3 (fun w' => w'.cell? ⟨w5.heap.size, 0, none⟩ = some (.slice A0 ch.length c0) ∧ w'.cell? ⟨w5.heap.size, 1, none⟩ = some (.int .i64 d) ∧ w'.cell? ⟨w5.heap.size, 2, none⟩ = some (.int .i64 u) ∧ w'.cell? ⟨w5.heap.size, 3, none⟩ = some (.slice A3 es.length c3) ∧ w'.cell? ⟨w5.heap.size, 4, none⟩ = some (.int .i64 h') ∧ w'.cell? ⟨w5.heap.size, 5, none⟩ = some (.slice A6 qs.length c6) ∧ w'.cell? ⟨w5.heap.size, 6, none⟩ = some (.int .i64 cl') ∧ w'.cell? ⟨w5.heap.size, 7, none⟩ = some (.int .i64 kp') ∧ w'.cell? ⟨w7.heap.size, 0, none⟩ = some (.int .i64 dd) ∧ w'.cell? ⟨w7.heap.size, 1, none⟩ = some (.int .i64 b0) ∧ w'.cell? ⟨w7.heap.size, 2, none⟩ = some (.string t0) ∧ w'.cell? ⟨w7.heap.size, 3, none⟩ = some (.slice A7 r0.length c7)) ((first | exact ⟨(blk_cell (by repeat (with_reducible first | exact BF.out | refine blk_alloc ?_ _ | refine blk_drewN ?_ _ | refine blk_drew ?_)) 0).trans rfl, (blk_cell (by repeat (with_reducible first | exact BF.out | refine blk_alloc ?_ _ | refine blk_drewN ?_ _ | refine blk_drew ?_)) 1).trans rfl, (blk_cell (by repeat (with_reducible first | exact BF.out | refine blk_alloc ?_ _ | refine blk_drewN ?_ _ | refine blk_drew ?_)) 2).trans rfl, (blk_cell (by repeat (with_reducible first | exact BF.out | refine blk_alloc ?_ _ | refine blk_drewN ?_ _ | refine blk_drew ?_)) 3).trans rfl, (blk_cell (by repeat (with_reducible first | exact BF.out | refine blk_alloc ?_ _ | refine blk_drewN ?_ _ | refine blk_drew ?_)) 4).trans rfl, (blk_cell (by repeat (with_reducible first | exact BF.out | refine blk_alloc ?_ _ | refine blk_drewN ?_ _ | refine blk_drew ?_)) 5).trans rfl, (blk_cell (by repeat (with_reducible first | exact BF.out | refine blk_alloc ?_ _ | refine blk_drewN ?_ _ | refine blk_drew ?_)) 6).trans rfl, (blk_cell (by repeat (with_reducible first | exact BF.out | refine blk_alloc ?_ _ | refine blk_drewN ?_ _ | refine blk_drew ?_)) 7).trans rfl, (blk_cell (by repeat (with_reducible first | exact BE.out | refine blk_alloc ?_ _ | refine blk_drewN ?_ _ | refine blk_drew ?_)) 0).trans rfl, (blk_cell (by repeat (with_reducible first | exact BE.out | refine blk_alloc ?_ _ | refine blk_drewN ?_ _ | refine blk_drew ?_)) 1).trans rfl, (blk_cell (by repeat (with_reducible first | exact BE.out | refine blk_alloc ?_ _ | refine blk_drewN ?_ _ | refine blk_drew ?_)) 2).trans rfl, (blk_cell (by repeat (with_reducible first | exact BE.out | refine blk_alloc ?_ _ | refine blk_drewN ?_ _ | refine blk_drew ?_)) 3).trans rfl⟩ | exact ⟨by (repeat (with_reducible first | refine cell_off (Ne.symm ne_BR_BF) _ ?_ | refine cell_off (Ne.symm ne_BX_BF) _ ?_)); exact (blk_cell BF.out 0).trans rfl, by (repeat (with_reducible first | refine cell_off (Ne.symm ne_BR_BF) _ ?_ | refine cell_off (Ne.symm ne_BX_BF) _ ?_)); exact (blk_cell BF.out 1).trans rfl, by (repeat (with_reducible first | refine cell_off (Ne.symm ne_BR_BF) _ ?_ | refine cell_off (Ne.symm ne_BX_BF) _ ?_)); exact (blk_cell BF.out 2).trans rfl, by (repeat (with_reducible first | refine cell_off (Ne.symm ne_BR_BF) _ ?_ | refine cell_off (Ne.symm ne_BX_BF) _ ?_)); exact (blk_cell BF.out 3).trans rfl, by (repeat (with_reducible first | refine cell_off (Ne.symm ne_BR_BF) _ ?_ | refine cell_off (Ne.symm ne_BX_BF) _ ?_)); exact (blk_cell BF.out 4).trans rfl, by (repeat (with_reducible first | refine cell_off (Ne.symm ne_BR_BF) _ ?_ | refine cell_off (Ne.symm ne_BX_BF) _ ?_)); exact (blk_cell BF.out 5).trans rfl, by (repeat (with_reducible first | refine cell_off (Ne.symm ne_BR_BF) _ ?_ | refine cell_off (Ne.symm ne_BX_BF) _ ?_)); exact (blk_cell BF.out 6).trans rfl, by (repeat (with_reducible first | refine cell_off (Ne.symm ne_BR_BF) _ ?_ | refine cell_off (Ne.symm ne_BX_BF) _ ?_)); exact (blk_cell BF.out 7).trans rfl, by (repeat (with_reducible first | refine cell_off (Ne.symm ne_BR_BE) _ ?_ | refine cell_off (Ne.symm ne_BX_BE) _ ?_)); exact (blk_cell BE.out 0).trans rfl, by (repeat (with_reducible first | refine cell_off (Ne.symm ne_BR_BE) _ ?_ | refine cell_off (Ne.symm ne_BX_BE) _ ?_)); exact (blk_cell BE.out 1).trans rfl, by (repeat (with_reducible first | refine cell_off (Ne.symm ne_BR_BE) _ ?_ | refine cell_off (Ne.symm ne_BX_BE) _ ?_)); exact (blk_cell BE.out 2).trans rfl, by (repeat (with_reducible first | refine cell_off (Ne.symm ne_BR_BE) _ ?_ | refine cell_off (Ne.symm ne_BX_BE) _ ?_)); exact (blk_cell BE.out 3).trans rfl⟩ | go_keep))
    ((first | (go_at_call 16; refine (spec_l5SpoilEntry.e w1 _ g c dd b0 t0 A7 c7 r0 w6.heap.size (fun k => k ≠ g ∧ w6.heap.size ≤ k) (fun k hk => hk.1) (Drew.cur (w := w2) (by repeat (with_reducible first | exact D.out | apply Drew.alloc | apply Drew.drewN | apply Drew.drew))) (Drew.bel (w := w2) (by repeat (with_reducible first | exact D.out | apply Drew.alloc | apply Drew.drewN | apply Drew.drew))) hc (by omega) (by (try simp); have h1 := ge_w6; omega) (by repeat (with_reducible first | exact RL.out | apply Kd.R_alloc | apply Kd.R_drewN | apply Kd.R_drew)) (by omega) (by omega)).mono ?_; rintro x wB ⟨A8, c8, a', b', t', rs, rfl, hRs, ⟨hrl, htl⟩, hE⟩; replace BF := Aside0.mk (KeepBut.blkRow hE.keep (b := w5.heap.size) (o := .cells #[.slice A0 ch.length c0, .int .i64 d, .int .i64 u, .slice A3 es.length c3, .int .i64 h', .slice A6 qs.length c6, .int .i64 cl', .int .i64 kp'] 32 (0, 0)) (by repeat (with_reducible first | exact BF.out | refine blk_alloc ?_ _ | refine blk_drewN ?_ _ | refine blk_drew ?_)) NF (Kd.R_ne (ok := fun k => k ≠ g ∧ w6.heap.size ≤ k) (by repeat (with_reducible first | exact RL.out | apply Kd.R_alloc | apply Kd.R_drewN | apply Kd.R_drew)) (by repeat (with_reducible first | exact BF.out | refine blk_alloc ?_ _ | refine blk_drewN ?_ _ | refine blk_drew ?_)) (by decide))); replace BE := Aside0.mk (KeepBut.blkRow hE.keep (b := w7.heap.size) (o := .cells #[.int .i64 dd, .int .i64 b0, .string t0, .slice A7 r0.length c7] 35 (0, 0)) (by repeat (with_reducible first | exact BE.out | refine blk_alloc ?_ _ | refine blk_drewN ?_ _ | refine blk_drew ?_)) NE (Kd.R_ne (ok := fun k => k ≠ g ∧ w6.heap.size ≤ k) (by repeat (with_reducible first | exact RL.out | apply Kd.R_alloc | apply Kd.R_drewN | apply Kd.R_drew)) (by repeat (with_reducible first | exact BE.out | refine blk_alloc ?_ _ | refine blk_drewN ?_ _ | refine blk_drew ?_)) (by decide))); replace BR := Aside0.mk (KeepBut.blkRow hE.keep (b := w.heap.size) (o := .cells #[.slice none 0 0, .int .i64 0, .int .i64 0, .slice none 0 0, .int .i64 0, .slice none 0 0, .int .i64 0, .int .i64 0] 32 (0, 0)) (by repeat (with_reducible first | exact BR.out | refine blk_alloc ?_ _ | refine blk_drewN ?_ _ | refine blk_drew ?_)) NR (Kd.R_ne (ok := fun k => k ≠ g ∧ w6.heap.size ≤ k) (by repeat (with_reducible first | exact RL.out | apply Kd.R_alloc | apply Kd.R_drewN | apply Kd.R_drew)) (by repeat (with_reducible first | exact BR.out | refine blk_alloc ?_ _ | refine blk_drewN ?_ _ | refine blk_drew ?_)) (by decide))); replace BX := Aside0.mk (KeepBut.blkRow hE.keep (b := w.heap.size + 1) (o := .cells #[.int .i64 0, .int .i64 0, .string ⟨#[]⟩, .slice none 0 0] 35 (0, 0)) (by repeat (with_reducible first | exact BX.out | refine blk_alloc ?_ _ | refine blk_drewN ?_ _ | refine blk_drew ?_)) NX (Kd.R_ne (ok := fun k => k ≠ g ∧ w6.heap.size ≤ k) (by repeat (with_reducible first | exact RL.out | apply Kd.R_alloc | apply Kd.R_drewN | apply Kd.R_drew)) (by repeat (with_reducible first | exact BX.out | refine blk_alloc ?_ _ | refine blk_drewN ?_ _ | refine blk_drew ?_)) (by decide))); replace RC := Aside0.mk (R_keepRow (ok := fun k => k ≠ g) (by repeat (with_reducible first | exact RC.out | apply Kd.R_alloc | apply Kd.R_drewN | apply Kd.R_drew)) (by repeat (with_reducible first | exact RL.out | apply Kd.R_alloc | apply Kd.R_drewN | apply Kd.R_drew)) hE.keep (fun _ hk => hk) (by decide)); replace RQ := Aside0.mk (R_keepRow (ok := fun k => k ≠ g) (by repeat (with_reducible first | exact RQ.out | apply Kd.R_alloc | apply Kd.R_drewN | apply Kd.R_drew)) (by repeat (with_reducible first | exact RL.out | apply Kd.R_alloc | apply Kd.R_drewN | apply Kd.R_drew)) hE.keep (fun _ hk => hk) (by decide)); replace RE := Aside0.mk (Kd.S_step (ok := fun k => k ≠ g ∧ k < w6.heap.size) (by repeat (with_reducible first | exact RE.out | apply Kd.S_alloc | apply Kd.S_drewN | apply Kd.S_drew)) (fun k ho hlt => hE.keep.2 k hlt ho.1 (fun e => by have h1 := (RL.out.1 k e.symm).2; have h2 := ho.2; omega))); replace D := Aside0.mk (DrewR.own hE (by repeat (with_reducible first | exact D.out | apply Drew.alloc | apply Drew.drewN | apply Drew.drew)) (fun b hb => by have h1 := (RL.out.1 b hb).2; omega)); replace RL := Aside0.mk hRs; clear hE hRs; have z0 := (blk_cell BR.out 0).trans rfl; have zz0 := blk_frozen BR.out 0; have z1 := (blk_cell BR.out 1).trans rfl; have zz1 := blk_frozen BR.out 1; have z2 := (blk_cell BR.out 2).trans rfl; have zz2 := blk_frozen BR.out 2; have z3 := (blk_cell BR.out 3).trans rfl; have zz3 := blk_frozen BR.out 3; have z4 := (blk_cell BR.out 4).trans rfl; have zz4 := blk_frozen BR.out 4; have z5 := (blk_cell BR.out 5).trans rfl; have zz5 := blk_frozen BR.out 5; have z6 := (blk_cell BR.out 6).trans rfl; have zz6 := blk_frozen BR.out 6; have z7 := (blk_cell BR.out 7).trans rfl; have zz7 := blk_frozen BR.out 7; have x0 := (blk_cell BX.out 0).trans rfl; have xx0 := blk_frozen BX.out 0; have x1 := (blk_cell BX.out 1).trans rfl; have xx1 := blk_frozen BX.out 1; have x2 := (blk_cell BX.out 2).trans rfl; have xx2 := blk_frozen BX.out 2; have x3 := (blk_cell BX.out 3).trans rfl; have xx3 := blk_frozen BX.out 3)))
  all_goals (try go_wp2_with fail)
  all_goals
    have RC2 := Aside0.mk (Kd.R_mono (Kd.R_bound RC.out) (ok' := fun k => w2.heap.size ≤ k) (fun k hk => hk.2.1))
    have RQ2 := Aside0.mk (Kd.R_mono (Kd.R_bound RQ.out) (ok' := fun k => w2.heap.size ≤ k) (fun k hk => hk.2.1))
    have RE2 := Aside0.mk (Kd.S_mono (Kd.S_bound RE.out) (ok' := fun k => w2.heap.size ≤ k) (fun k hk => hk.2.1))
    have RL2 := Aside0.mk (Kd.R_mono (Kd.R_lower RL.out (show w2.heap.size ≤ w6.heap.size by omega)) (ok' := fun k => w2.heap.size ≤ k) (fun k hk => by have := hk.2; omega))
    have HBF := below_into (w := w) D.out.bel HBW.out
    refine bodyPost_ret (results_cc rfl _ _ w.heap.size (w.heap.size + 1) 32 35 #[.slice A0 ch.length c0, .int .i64 d, .int .i64 u, .slice A3 es.length c3, .int .i64 h', .slice A6 qs.length c6, .int .i64 cl', .int .i64 kp'] #[.int .i64 a', .int .i64 b', .string t', .slice A8 rs.length c8] (0, 0) (0, 0) _ _ rfl (blk_far (p := ⟨w.heap.size + 1, 3, none⟩) (blk_far (p := ⟨w.heap.size + 1, 2, none⟩) (blk_far (p := ⟨w.heap.size + 1, 1, none⟩) (blk_far (p := ⟨w.heap.size + 1, 0, none⟩) (put8_blk BR.out (.slice A0 ch.length c0) (.int .i64 d) (.int .i64 u) (.slice A3 es.length c3) (.int .i64 h') (.slice A6 qs.length c6) (.int .i64 cl') (.int .i64 kp')) (by simp <;> omega) _) (by simp <;> omega) _) (by simp <;> omega) _) (by simp <;> omega) _) Tryd.underlying32 rfl (by kernel_rfl) rfl (blk4 (blk_far (p := ⟨w.heap.size, 7, none⟩) (blk_far (p := ⟨w.heap.size, 6, none⟩) (blk_far (p := ⟨w.heap.size, 5, none⟩) (blk_far (p := ⟨w.heap.size, 4, none⟩) (blk_far (p := ⟨w.heap.size, 3, none⟩) (blk_far (p := ⟨w.heap.size, 2, none⟩) (blk_far (p := ⟨w.heap.size, 1, none⟩) (blk_far (p := ⟨w.heap.size, 0, none⟩) (BX.out) (by simp <;> omega) _) (by simp <;> omega) _) (by simp <;> omega) _) (by simp <;> omega) _) (by simp <;> omega) _) (by simp <;> omega) _) (by simp <;> omega) _) (by simp <;> omega) _) _ _ _ _) Tryd.underlying35 rfl (by kernel_rfl)) rfl ?_
    refine ⟨_, _, _, _, ch, d, u, es, h', qs, cl', kp', a', b', t', rs, rfl, Kd.R_mono (Kd.R_lower (Kd.R_far (p := ⟨w.heap.size + 1, 3, none⟩) (Kd.R_far (p := ⟨w.heap.size + 1, 2, none⟩) (Kd.R_far (p := ⟨w.heap.size + 1, 1, none⟩) (Kd.R_far (p := ⟨w.heap.size + 1, 0, none⟩) (Kd.R_far (p := ⟨w.heap.size, 7, none⟩) (Kd.R_far (p := ⟨w.heap.size, 6, none⟩) (Kd.R_far (p := ⟨w.heap.size, 5, none⟩) (Kd.R_far (p := ⟨w.heap.size, 4, none⟩) (Kd.R_far (p := ⟨w.heap.size, 3, none⟩) (Kd.R_far (p := ⟨w.heap.size, 2, none⟩) (Kd.R_far (p := ⟨w.heap.size, 1, none⟩) (Kd.R_far (p := ⟨w.heap.size, 0, none⟩) (RC2.out) (fun k hk => by have h0 : w2.heap.size ≤ k := hk; simp; omega) _) (fun k hk => by have h0 : w2.heap.size ≤ k := hk; simp; omega) _) (fun k hk => by have h0 : w2.heap.size ≤ k := hk; simp; omega) _) (fun k hk => by have h0 : w2.heap.size ≤ k := hk; simp; omega) _) (fun k hk => by have h0 : w2.heap.size ≤ k := hk; simp; omega) _) (fun k hk => by have h0 : w2.heap.size ≤ k := hk; simp; omega) _) (fun k hk => by have h0 : w2.heap.size ≤ k := hk; simp; omega) _) (fun k hk => by have h0 : w2.heap.size ≤ k := hk; simp; omega) _) (fun k hk => by have h0 : w2.heap.size ≤ k := hk; simp; omega) _) (fun k hk => by have h0 : w2.heap.size ≤ k := hk; simp; omega) _) (fun k hk => by have h0 : w2.heap.size ≤ k := hk; simp; omega) _) (fun k hk => by have h0 : w2.heap.size ≤ k := hk; simp; omega) _) ?_) (fun _ _ => trivial), Kd.S_mono (Kd.S_lower (Kd.S_far (p := ⟨w.heap.size + 1, 3, none⟩) (Kd.S_far (p := ⟨w.heap.size + 1, 2, none⟩) (Kd.S_far (p := ⟨w.heap.size + 1, 1, none⟩) (Kd.S_far (p := ⟨w.heap.size + 1, 0, none⟩) (Kd.S_far (p := ⟨w.heap.size, 7, none⟩) (Kd.S_far (p := ⟨w.heap.size, 6, none⟩) (Kd.S_far (p := ⟨w.heap.size, 5, none⟩) (Kd.S_far (p := ⟨w.heap.size, 4, none⟩) (Kd.S_far (p := ⟨w.heap.size, 3, none⟩) (Kd.S_far (p := ⟨w.heap.size, 2, none⟩) (Kd.S_far (p := ⟨w.heap.size, 1, none⟩) (Kd.S_far (p := ⟨w.heap.size, 0, none⟩) (RE2.out) (fun k hk => by have h0 : w2.heap.size ≤ k := hk; simp; omega) _) (fun k hk => by have h0 : w2.heap.size ≤ k := hk; simp; omega) _) (fun k hk => by have h0 : w2.heap.size ≤ k := hk; simp; omega) _) (fun k hk => by have h0 : w2.heap.size ≤ k := hk; simp; omega) _) (fun k hk => by have h0 : w2.heap.size ≤ k := hk; simp; omega) _) (fun k hk => by have h0 : w2.heap.size ≤ k := hk; simp; omega) _) (fun k hk => by have h0 : w2.heap.size ≤ k := hk; simp; omega) _) (fun k hk => by have h0 : w2.heap.size ≤ k := hk; simp; omega) _) (fun k hk => by have h0 : w2.heap.size ≤ k := hk; simp; omega) _) (fun k hk => by have h0 : w2.heap.size ≤ k := hk; simp; omega) _) (fun k hk => by have h0 : w2.heap.size ≤ k := hk; simp; omega) _) (fun k hk => by have h0 : w2.heap.size ≤ k := hk; simp; omega) _) ?_) (fun _ _ => trivial), Kd.R_mono (Kd.R_lower (Kd.R_far (p := ⟨w.heap.size + 1, 3, none⟩) (Kd.R_far (p := ⟨w.heap.size + 1, 2, none⟩) (Kd.R_far (p := ⟨w.heap.size + 1, 1, none⟩) (Kd.R_far (p := ⟨w.heap.size + 1, 0, none⟩) (Kd.R_far (p := ⟨w.heap.size, 7, none⟩) (Kd.R_far (p := ⟨w.heap.size, 6, none⟩) (Kd.R_far (p := ⟨w.heap.size, 5, none⟩) (Kd.R_far (p := ⟨w.heap.size, 4, none⟩) (Kd.R_far (p := ⟨w.heap.size, 3, none⟩) (Kd.R_far (p := ⟨w.heap.size, 2, none⟩) (Kd.R_far (p := ⟨w.heap.size, 1, none⟩) (Kd.R_far (p := ⟨w.heap.size, 0, none⟩) (RQ2.out) (fun k hk => by have h0 : w2.heap.size ≤ k := hk; simp; omega) _) (fun k hk => by have h0 : w2.heap.size ≤ k := hk; simp; omega) _) (fun k hk => by have h0 : w2.heap.size ≤ k := hk; simp; omega) _) (fun k hk => by have h0 : w2.heap.size ≤ k := hk; simp; omega) _) (fun k hk => by have h0 : w2.heap.size ≤ k := hk; simp; omega) _) (fun k hk => by have h0 : w2.heap.size ≤ k := hk; simp; omega) _) (fun k hk => by have h0 : w2.heap.size ≤ k := hk; simp; omega) _) (fun k hk => by have h0 : w2.heap.size ≤ k := hk; simp; omega) _) (fun k hk => by have h0 : w2.heap.size ≤ k := hk; simp; omega) _) (fun k hk => by have h0 : w2.heap.size ≤ k := hk; simp; omega) _) (fun k hk => by have h0 : w2.heap.size ≤ k := hk; simp; omega) _) (fun k hk => by have h0 : w2.heap.size ≤ k := hk; simp; omega) _) ?_) (fun _ _ => trivial), Kd.R_mono (Kd.R_lower (Kd.R_far (p := ⟨w.heap.size + 1, 3, none⟩) (Kd.R_far (p := ⟨w.heap.size + 1, 2, none⟩) (Kd.R_far (p := ⟨w.heap.size + 1, 1, none⟩) (Kd.R_far (p := ⟨w.heap.size + 1, 0, none⟩) (Kd.R_far (p := ⟨w.heap.size, 7, none⟩) (Kd.R_far (p := ⟨w.heap.size, 6, none⟩) (Kd.R_far (p := ⟨w.heap.size, 5, none⟩) (Kd.R_far (p := ⟨w.heap.size, 4, none⟩) (Kd.R_far (p := ⟨w.heap.size, 3, none⟩) (Kd.R_far (p := ⟨w.heap.size, 2, none⟩) (Kd.R_far (p := ⟨w.heap.size, 1, none⟩) (Kd.R_far (p := ⟨w.heap.size, 0, none⟩) (RL2.out) (fun k hk => by have h0 : w2.heap.size ≤ k := hk; simp; omega) _) (fun k hk => by have h0 : w2.heap.size ≤ k := hk; simp; omega) _) (fun k hk => by have h0 : w2.heap.size ≤ k := hk; simp; omega) _) (fun k hk => by have h0 : w2.heap.size ≤ k := hk; simp; omega) _) (fun k hk => by have h0 : w2.heap.size ≤ k := hk; simp; omega) _) (fun k hk => by have h0 : w2.heap.size ≤ k := hk; simp; omega) _) (fun k hk => by have h0 : w2.heap.size ≤ k := hk; simp; omega) _) (fun k hk => by have h0 : w2.heap.size ≤ k := hk; simp; omega) _) (fun k hk => by have h0 : w2.heap.size ≤ k := hk; simp; omega) _) (fun k hk => by have h0 : w2.heap.size ≤ k := hk; simp; omega) _) (fun k hk => by have h0 : w2.heap.size ≤ k := hk; simp; omega) _) (fun k hk => by have h0 : w2.heap.size ≤ k := hk; simp; omega) _) ?_) (fun _ _ => trivial), GB.out, ⟨by omega, htl⟩, ?_⟩
    · omega
    · omega
    · omega
    · omega
    · exact Below.setCell (p := ⟨w.heap.size + 1, 3, none⟩) (Below.setCell (p := ⟨w.heap.size + 1, 2, none⟩) (Below.setCell (p := ⟨w.heap.size + 1, 1, none⟩) (Below.setCell (p := ⟨w.heap.size + 1, 0, none⟩) (Below.setCell (p := ⟨w.heap.size, 7, none⟩) (Below.setCell (p := ⟨w.heap.size, 6, none⟩) (Below.setCell (p := ⟨w.heap.size, 5, none⟩) (Below.setCell (p := ⟨w.heap.size, 4, none⟩) (Below.setCell (p := ⟨w.heap.size, 3, none⟩) (Below.setCell (p := ⟨w.heap.size, 2, none⟩) (Below.setCell (p := ⟨w.heap.size, 1, none⟩) (Below.setCell (p := ⟨w.heap.size, 0, none⟩) (HBF) (by show w.heap.size ≤ w.heap.size; omega) _) (by show w.heap.size ≤ w.heap.size; omega) _) (by show w.heap.size ≤ w.heap.size; omega) _) (by show w.heap.size ≤ w.heap.size; omega) _) (by show w.heap.size ≤ w.heap.size; omega) _) (by show w.heap.size ≤ w.heap.size; omega) _) (by show w.heap.size ≤ w.heap.size; omega) _) (by show w.heap.size ≤ w.heap.size; omega) _) (by show w.heap.size ≤ w.heap.size + 1; omega) _) (by show w.heap.size ≤ w.heap.size + 1; omega) _) (by show w.heap.size ≤ w.heap.size + 1; omega) _) (by show w.heap.size ≤ w.heap.size + 1; omega) _
end Go.Proofs.YtjkjjfbcakbmnaaDoor.Q
