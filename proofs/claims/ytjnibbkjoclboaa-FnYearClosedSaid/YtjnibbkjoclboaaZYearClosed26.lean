/- Parts of the proof: what functions of the program and of the reference answer.
   No condition. -/
import Derived.Test.YtjnibbkjoclboaaZYearClosed1
import Derived.Test.YtjnibbkjoclboaaZYearClosed6
import Derived.Test.YtjnibbkjoclboaaZYearClosed19
import Derived.Test.YtjnibbkjoclboaaZYearClosed16
import Derived.Test.YtjnibbkjoclboaaZYearClosed3
import Derived.Test.YtjnibbkjoclboaaZYearClosed21
import Derived.Test.YtjnibbkjoclboaaZYearClosed18
import Derived.Test.YtjnibbkjoclboaaZYearClosed15
import Derived.Test.YtjnibbkjoclboaaZYearClosed22
import Derived.Test.YtjnibbkjoclboaaZYearClosed23
import Derived.Test.YtjnibbkjoclboaaZYearClosed9
import Derived.Test.YtjnibbkjoclboaaZYearClosed25
import Derived.Test.YtjnibbkjoclboaaZYearClosed12
import Derived.Test.YtjnibbkjoclboaaZYearClosed2
import Derived.Test.YtjnibbkjoclboaaZYearClosed20
import Derived.Test.YtjnibbkjoclboaaZYearClosed24
namespace Go.Proofs.Ytjnibbkjoclboaa.Q
open Go.RowKit Go.Proofs.YtjnibbkjoclboaaW.PrintWords Go.Proofs.YtjnibbkjoclboaaW.PrintLast Go.Proofs.YtjnibbkjoclboaaW.PrintMore
set_option linter.unusedVariables false
set_option linter.unusedSimpArgs false
theorem basL_app (a d c : Int) (l m : List Lin) : basL a d c (l ++ m) = basL a d c l + basL a d c m := by
  induction l with
  | nil => simp [basL]
  | cons x l ih => simp only [List.cons_append, basL, ih]; omega
theorem basL_off {a d c : Int} {l : List Lin} (h : ∀ x ∈ l, selL a d c x = false) : basL a d c l = 0 := by
  induction l with
  | nil => rfl
  | cons x l ih =>
    simp only [basL, h x List.mem_cons_self, ih (fun y hy => h y (List.mem_cons_of_mem _ hy))]
    rfl
theorem sel_acc {a d : Int} {x : Lin} (ha : a ≠ -1) (h : a ≠ x.f0) : selL a d (-1) x = false := by unfold selL; simp [ha, h]
theorem sel_part {a d : Int} {x : Lin} (hd : d ≠ -1) (h : d ≠ x.f1) : selL a d (-1) x = false := by unfold selL; simp [hd, h]
theorem sel_here {a d : Int} {x : Lin} (h0 : a = x.f0) (h1 : d = x.f1) : selL a d (-1) x = true := by unfold selL; simp [h0, h1]
theorem dimL_off {kept : Int} {B : Int → Int} {q d : Int} {ls : List Int} {a : Int} (hd : d ≠ -1) (h : d ≠ q) : basL a d (-1) (dimL kept B q ls) = 0 := by
  apply basL_off
  intro x hx
  apply sel_part hd
  unfold dimL clU at hx
  rcases List.mem_append.1 hx with hx | hx
  · obtain ⟨i, _, hx⟩ := List.mem_flatMap.1 hx
    split at hx
    · cases hx
    · rw [List.mem_singleton.1 hx]; exact h
  · split at hx
    · rw [List.mem_singleton.1 hx]; exact h
    · cases hx
theorem flat_off {B : Int → Int} {d a : Int} (ha : a ≠ -1) {l : List Int} (h : a ∉ l) : basL a d (-1) (l.flatMap (fun i => if B i = 0 then ([] : List Lin) else [⟨i, d, 0, -B i, -B i⟩])) = 0 := by
  apply basL_off
  intro x hx
  obtain ⟨i, hi, hx⟩ := List.mem_flatMap.1 hx
  split at hx
  · cases hx
  · rw [List.mem_singleton.1 hx]
    exact sel_acc ha (fun e => h (e ▸ hi))
theorem flat_on {B : Int → Int} {d a : Int} (ha : a ≠ -1) {l : List Int} (hn : l.Nodup) (h : a ∈ l) : basL a d (-1) (l.flatMap (fun i => if B i = 0 then ([] : List Lin) else [⟨i, d, 0, -B i, -B i⟩])) = - B a := by
  induction l with
  | nil => cases h
  | cons x l ih =>
    rw [List.flatMap_cons, basL_app]
    have hn2 := List.nodup_cons.1 hn
    by_cases e : a = x
    · subst e
      rw [flat_off ha hn2.1]
      by_cases hb : B a = 0
      · rw [if_pos hb, hb]; rfl
      · rw [if_neg hb]
        simp only [basL, sel_here (a := a) (d := d) (x := ⟨a, d, 0, -B a, -B a⟩) rfl rfl, if_true]
        omega
    · have hm : a ∈ l := by
        rcases List.mem_cons.1 h with h | h
        · exact absurd h e
        · exact h
      rw [ih hn2.2 hm]
      by_cases hb : B x = 0
      · rw [if_pos hb]; simp [basL]
      · rw [if_neg hb]
        simp only [basL, sel_acc (a := a) (d := d) (x := ⟨x, d, 0, -B x, -B x⟩) ha e]
        simp
theorem dimL_on {kept : Int} {B : Int → Int} {d : Int} {ls : List Int} {a : Int} (ha : a ≠ -1) (hk : a ≠ kept) (hn : ls.Nodup) (h : a ∈ ls) : basL a d (-1) (dimL kept B d ls) = - B a := by
  unfold dimL clU
  rw [basL_app, List.take_length, flat_on ha hn h]
  split
  · rw [basL_off (fun x hx => by rw [List.mem_singleton.1 hx]; exact sel_acc ha hk)]; omega
  · simp [basL]
theorem dimL_none {kept : Int} {B : Int → Int} {q d : Int} {ls : List Int} {a : Int} (ha : a ≠ -1) (hk : a ≠ kept) (h : a ∉ ls) : basL a d (-1) (dimL kept B q ls) = 0 := by
  apply basL_off
  intro x hx
  apply sel_acc ha
  unfold dimL clU at hx
  rcases List.mem_append.1 hx with hx | hx
  · obtain ⟨i, hi, hx⟩ := List.mem_flatMap.1 hx
    split at hx
    · cases hx
    · rw [List.mem_singleton.1 hx]
      exact fun e => h (e ▸ List.mem_of_mem_take hi)
  · split at hx
    · rw [List.mem_singleton.1 hx]; exact hk
    · cases hx
theorem allL_none {kept : Int} {B : Int → Int → Int} {ls : List Int} {a d : Int} (ha : a ≠ -1) (hk : a ≠ kept) (h : a ∉ ls) : ∀ n, basL a d (-1) (allL kept B ls n) = 0
  | 0 => rfl
  | n + 1 => by simp only [allL]; rw [basL_app, allL_none ha hk h n, dimL_none ha hk h]; rfl
theorem allL_past {kept : Int} {B : Int → Int → Int} {ls : List Int} {a : Int} (d : Nat) : ∀ n, n ≤ d → basL a (d : Int) (-1) (allL kept B ls n) = 0
  | 0, _ => rfl
  | n + 1, h => by simp only [allL]; rw [basL_app, allL_past d n (by omega), dimL_off (by omega) (by omega)]; rfl
theorem allL_on {kept : Int} {B : Int → Int → Int} {ls : List Int} {a : Int} (ha : a ≠ -1) (hk : a ≠ kept) (hn : ls.Nodup) (h : a ∈ ls) (d : Nat) : ∀ n, d < n → basL a (d : Int) (-1) (allL kept B ls n) = - B d a
  | 0, q => absurd q (by omega)
  | n + 1, q => by
    simp only [allL]
    rw [basL_app]
    by_cases e : d = n
    · subst e
      rw [allL_past d d (Nat.le_refl _), dimL_on ha hk hn h]; omega
    · rw [allL_on ha hk hn h d n (by omega), dimL_off (by omega) (by omega)]; omega
theorem leavesUpto_mem {ch : List Acc} {a : Int} : ∀ n : Nat, a ∈ leavesUpto ch n ↔ (0 ≤ a ∧ a < (n : Int) ∧ leafK ch a = true)
  | 0 => by simp [leavesUpto]; omega
  | n + 1 => by
    simp only [leavesUpto, List.mem_append]
    rw [leavesUpto_mem n]
    by_cases h : leafK ch (n : Int) = true
    · rw [if_pos h, List.mem_singleton]
      constructor
      · rintro (⟨h0, h1, h2⟩ | rfl)
        · exact ⟨h0, by omega, h2⟩
        · exact ⟨by omega, by omega, h⟩
      · rintro ⟨h0, h1, h2⟩
        by_cases e : a = (n : Int)
        · exact .inr e
        · exact .inl ⟨h0, by omega, h2⟩
    · rw [if_neg h]
      constructor
      · rintro (⟨h0, h1, h2⟩ | hx)
        · exact ⟨h0, by omega, h2⟩
        · cases hx
      · rintro ⟨h0, h1, h2⟩
        exact .inl ⟨h0, by
          by_cases e : a = (n : Int)
          · subst e; exact absurd h2 h
          · omega, h2⟩
theorem leavesUpto_nodup (ch : List Acc) : ∀ n : Nat, (leavesUpto ch n).Nodup
  | 0 => List.nodup_nil
  | n + 1 => by
    simp only [leavesUpto]
    split
    · rw [List.nodup_append]
      refine ⟨leavesUpto_nodup ch n, by simp, fun x hx y hy => ?_⟩
      rw [List.mem_singleton.1 hy]
      have := ((leavesUpto_mem n).1 hx).2.1
      omega
    · rw [List.append_nil]; exact leavesUpto_nodup ch n
theorem close_zero {ch : List Acc} {d c h : Int} {es : List Ent} {kept day : Int} (q : ledgerP ch d c es h) (hk : knd ch kept = 3) (hday : day ≤ 40000) {a : Int} (a0 : 0 ≤ a) (a1 : a < (ch.length : Int)) (ka : 4 ≤ knd ch a) {dd : Int} (d0 : 0 ≤ dd) (d1 : dd < d) (f1 : Int) (t : ByteArray) (dy : 0 ≤ day) :
    basV a dd (-1) 0 day (es ++ [⟨day, f1, t, closeL ch d es kept day⟩]) = 0 := by
  have hkept : a ≠ kept := fun e => by rw [e] at ka; omega
  have ha : a ≠ -1 := by omega
  have hin : inB day 0 day = true := inB_of ⟨dy, Int.le_refl _⟩
  have hfr : basV a dd (-1) 0 day es = basV a dd (-1) (-4611686018427387904) day es := basV_from (fun e he => by have := (q.2.2.1 e he).1; omega)
  rw [basV_app]
  simp only [basV, hin, if_true]
  by_cases hl : a ∈ leavesUpto ch ch.length
  · have := allL_on (kept := kept) (B := clB es day) ha hkept (leavesUpto_nodup ch ch.length) hl dd.toNat d.toNat (by omega)
    rw [show ((dd.toNat : Nat) : Int) = dd by omega] at this
    unfold closeL
    rw [this, hfr]
    unfold clB
    omega
  · have h2 := allL_none (kept := kept) (B := clB es day) (d := dd) ha hkept hl d.toNat
    unfold closeL
    rw [h2, basV_zero (fun e he => basL_off (fun x hx => sel_acc ha (fun ex => hl ?_)))]
    · rfl
    · refine (leavesUpto_mem _).2 ⟨a0, a1, ?_⟩
      have hp := ((q.2.2.1 e he).2.2.2.2.2.1 x hx).1
      rw [← ex] at hp
      have hr := ((chartOk_iff.1 (frame_parts q.1).1).2.2 a a0 a1).2.2.1
      unfold leafK
      rw [leafB_of hp]
      rcases (show knd ch a = 4 ∨ knd ch a = 5 by omega) with h4 | h4 <;> simp [h4]
theorem year_closed {ch : List Acc} {d c h : Int} {es : List Ent} {ps : List Per} {cl kp day : Int} {r0 r1 : Int} {r2 : ByteArray} {r3 : List Lin} {rk : Bool} (hC : closeR ch d c es h ps cl kp day = (r0, r1, r2, r3, rk)) (hk : rk = true) {p : List Ent} {ph pk : Int} (hP : postR ch d c es h ⟨r0, r1, r2, r3⟩ = (p, ph, pk)) :
    pk = 3 ∨ (pk = 0 ∧ p.length ≤ 1000 ∧ (∀ e ∈ p, entFine e) ∧ ledgerP ch d c p ph ∧ ∀ a x : Int, 0 ≤ a → a < (ch.length : Int) → 4 ≤ knd ch a → 0 ≤ x → x < d → basV a x (-1) 0 day p = 0) := by
  unfold closeR at hC
  split at hC
  · rename_i q
    obtain ⟨qb, qe⟩ := q
    have qb := booksB_true.1 qb
    have qe := entryB_true.1 qe
    injection hC with e0 e; injection e with e1 e; injection e with e2 e; injection e with e3 e4
    subst e0 e1 e2 e3
    rcases post_right qb.1 qe hP with h3 | ⟨h0, rfl, hl⟩
    · exact .inl h3
    · rcases post_ways hP with ⟨h1, _⟩ | ⟨hq, _⟩
      · omega
      · exact .inr ⟨h0, hl, (ledger_fine (ledgerB_true.2 hq)).2.2.1, hq, fun a x a0 a1 ka x0 x1 => close_zero qb.1 qb.2.2.2.2 qe.1.2 a0 a1 ka x0 x1 _ _ qe.1.1⟩
  · injection hC with e0 e; injection e with e1 e; injection e with e2 e; injection e with e3 e4
    rw [← e4] at hk; cases hk
end Go.Proofs.Ytjnibbkjoclboaa.Q
namespace Go.Proofs.Ytjnibbkjoclboaa.Q
open Go.RowKit Go.Proofs.YtjnibbkjoclboaaW.PrintWords Go.Proofs.YtjnibbkjoclboaaW.PrintLast Go.Proofs.YtjnibbkjoclboaaW.PrintMore
set_option linter.unusedVariables false
set_option linter.unusedSimpArgs false
theorem ints_litR (W : World) (xs : List Int) (inner : List Value) (hi : inner = xs.map (Value.int .i64)) (hm : xs.length ≤ 1048576) : (Kd.int .i64).R 3 (W.alloc (.cells inner.toArray 3)) W.heap.size (fun _ => True) (.slice (some ⟨W.heap.size, 0, none⟩) xs.length xs.length) xs := by
  subst hi
  have h2 := World.ownsRow_lit (base := W.heap.size) (e := 3) (size := 1) W (xs.map (Value.int .i64)).toArray xs.length (Nat.le_refl _) (by simp [maxLen]; omega) (by simp)
  have h3 : (W.alloc (Obj.cells (xs.map (Value.int .i64)).toArray 3)).ownsRow W.heap.size 3 1 (.slice (some ⟨W.heap.size, 0, none⟩) xs.length xs.length) xs.length (encs (Value.int .i64) xs) := by simpa [encs] using h2
  exact Kd.R_of_own (h1 := fun _ => rfl) h3 (fun _ _ => trivial)
theorem R_keepRow {α β : Type} {d : Kd α} {d2 : Kd β} {e e2 base base2 : Nat} {ok ok2 : Nat → Prop} {w w1 : World} {v v2 : Value} {xs : List α} {ys : List β} {g : Nat} (h : d.R e w base ok v xs) (h2 : d2.R e2 w base2 ok2 v2 ys) (hk : KeepBut w w1 g v2.ownBlock) (hok : ∀ k, ok k → k ≠ g) (ht : ∀ q, q ∈ e :: d.E → q ≠ e2) : d.R e w1 base ok v xs := by
  cases hv : v2.ownBlock with
  | none => rw [hv] at hk; exact Kd.R_step h (fun k ho hlt => hk.2 k hlt (hok k ho) (by simp))
  | some b =>
    obtain ⟨inner, hown⟩ := Kd.R_own h2
    obtain ⟨cells, hc⟩ := own_typed hown b hv
    rw [hv] at hk
    refine Kd.R_mono (Kd.R_step (Kd.R_types h hc ht) (fun k ho hlt => hk.2 k hlt (hok k ho.1) (fun e => ho.2 (by injection e)))) (fun _ hk => hk.1)
theorem S_keepRow {α β : Type} {d : Kd α} {d2 : Kd β} {e e2 base base2 : Nat} {ok ok2 : Nat → Prop} {w w1 : World} {v v2 : Value} {xs : List α} {ys : List β} {g : Nat} (h : Kd.S d e w base ok v xs) (h2 : d2.R e2 w base2 ok2 v2 ys) (hk : KeepBut w w1 g v2.ownBlock) (hok : ∀ k, ok k → k ≠ g) (ht : ∀ q, q ∈ e :: d.E → q ≠ e2) : Kd.S d e w1 base ok v xs := by
  cases hv : v2.ownBlock with
  | none => rw [hv] at hk; exact Kd.S_step h (fun k ho hlt => hk.2 k hlt (hok k ho) (by simp))
  | some b =>
    obtain ⟨inner, hown⟩ := Kd.R_own h2
    obtain ⟨cells, hc⟩ := own_typed hown b hv
    rw [hv] at hk
    refine Kd.S_mono (Kd.S_step (Kd.S_types h hc ht) (fun k ho hlt => hk.2 k hlt (hok k ho.1) (fun e => ho.2 (by injection e)))) (fun _ hk => hk.1)
theorem KeepBut.blkRow {w w1 : World} {g b : Nat} {row : Option Nat} {o : Obj} (hk : KeepBut w w1 g row) (h : w.heap[b]? = some o) (hne : b ≠ g) (hr : some b ≠ row) : w1.heap[b]? = some o := (hk.2 b (blk_lt h) hne hr).trans h
theorem put8_B {w W : World} {b : Nat} (h : Below w.heap.size w W) (hp : w.heap.size ≤ b) (u0 u1 u2 u3 u4 u5 u6 u7 : Value) : Below w.heap.size w ((((((((W.setCell ⟨b, 0, none⟩ u0).setCell ⟨b, 1, none⟩ u1).setCell ⟨b, 2, none⟩ u2).setCell ⟨b, 3, none⟩ u3).setCell ⟨b, 4, none⟩ u4).setCell ⟨b, 5, none⟩ u5).setCell ⟨b, 6, none⟩ u6).setCell ⟨b, 7, none⟩ u7) := by
  repeat refine Below.setCell ?_ hp _
  exact h
theorem DrewR.own {w0 w W W1 : World} {g : Nat} {c : List Int} {row : Option Nat} (h : DrewR w0 W W1 g c row) (k : Drew w0 w W g c) (hr : ∀ b, row = some b → w.heap.size ≤ b) : Drew w0 w W1 g c := by
  refine ⟨h.cur, h.bel, ⟨Nat.le_trans k.keep.1 h.keep.1, fun i hi hne _ => ?_⟩⟩
  refine (h.keep.2 i (Nat.lt_of_lt_of_le hi k.keep.1) hne (fun e => ?_)).trans (k.keep.2 i hi hne (by simp))
  have := hr i e.symm
  omega
end Go.Proofs.Ytjnibbkjoclboaa.Q
namespace Go.Proofs.Ytjnibbkjoclboaa.Q
open Go.RowKit Go.Proofs.YtjnibbkjoclboaaW.PrintWords Go.Proofs.YtjnibbkjoclboaaW.PrintLast Go.Proofs.YtjnibbkjoclboaaW.PrintMore
set_option linter.unusedVariables false
set_option linter.unusedSimpArgs false
set_option maxHeartbeats 8000000 in
set_option maxRecDepth 100000 in
theorem spec_DrawCloseYear.e (w : World) (A : Option Addr) (cc : Nat) (c : List Int) (hr0 : Kd.C (Kd.int .u8) w A c.length c) (hc0 : c.length ≤ cc) (hc : c.length ≤ 1048576) :
    Calls Try.prog 5 #[.slice A c.length cc] w fun e w' => ∃ (v0 v3 v5 : Value) (ch : List Acc) (d u : Int) (es : List Ent) (h : Int) (ps : List Per) (cl kp at1 : Int), e = .returned (.tuple #[.agg #[v0, .int .i64 d, .int .i64 u, v3, .int .i64 h, v5, .int .i64 cl, .int .i64 kp], .int .i64 at1]) ∧ Kd.R k43 43 w' w.heap.size (fun _ => True) v0 ch ∧ Kd.S k37 37 w' w.heap.size (fun _ => True) v3 es ∧ Kd.R k84 84 w' w.heap.size (fun _ => True) v5 ps ∧ goodB ch es ps ∧ Below w.heap.size w w' := by
  have H0 := Aside0.mk hr0
  have BR := Aside0.mk (blk_new w (.cells #[.slice none 0 0, .int .i64 0, .int .i64 0, .slice none 0 0, .int .i64 0, .slice none 0 0, .int .i64 0, .int .i64 0] 32))
  have hz : w.heap.size < (w.alloc (.cells #[.slice none 0 0, .int .i64 0, .int .i64 0, .slice none 0 0, .int .i64 0, .slice none 0 0, .int .i64 0, .int .i64 0] 32)).heap.size := by simp
  have HBW := Aside0.mk (below_alloc (Below.refl w.heap.size w) (.cells #[.slice none 0 0, .int .i64 0, .int .i64 0, .slice none 0 0, .int .i64 0, .slice none 0 0, .int .i64 0, .int .i64 0] 32))
  clear hr0
  go_enter Try.func5, Try.ntmps5
  go_wp2_with fail
  generalize w.alloc (Obj.cells #[.slice none 0 0, .int .i64 0, .int .i64 0, .slice none 0 0, .int .i64 0, .slice none 0 0, .int .i64 0, .int .i64 0] 32) = w1 at *
  refine (spec_l1New.e A cc c _ (Kd.C_below H0.out HBW.out) hc0 hc).mono ?_
  rintro x w2 ⟨g, rfl, hI, hb⟩
  replace BR := Aside0.mk (blk_below BR.out hb)
  have D := Aside0.mk (Drew.refl hI hb)
  have HL := hb.size
  have NR : w.heap.size ≠ g := by have := hI.ge; omega
  clear hI hb
  go_wp2_with fail
  refine (spec_l1Below.e 6 D.out.cur D.out.bel hc (by omega)).mono ?_
  rintro x w3 ⟨n, rfl, ⟨n0, n1, _⟩, hD⟩
  have n2 := n1 (by omega)
  replace BR := Aside0.mk (hD.blk BR.out NR)
  replace D := Aside0.mk (D.out.call hD)
  clear hD n1
  have hs3 := D.out.size
  go_wp2_with fail
  refine (spec_l6DrawBooks.e w1 _ g c (2 + n) D.out.cur D.out.bel hc (by omega)).mono ?_
  rintro x w4 ⟨v0, v3, v5, ch, d, u, es, h, ps, cl, kp, rfl, hR0, hS3, hR5, ⟨hg, hp1, hch3⟩, hD⟩
  obtain ⟨A0, c0, rfl⟩ := Kd.R_slice hR0
  obtain ⟨A3, c3, rfl⟩ := Kd.S_slice hS3
  obtain ⟨A5, c5, rfl⟩ := Kd.R_slice hR5
  have RC := Aside0.mk (Kd.R_mono (hD.cur.apart (Kd.R_lower hR0 (base' := w2.heap.size) (by omega)) (by decide)) (ok' := fun k => k ≠ g) (fun k hk => hk.2))
  have RE := Aside0.mk (Kd.S_mono (hD.cur.apartS (Kd.S_lower hS3 (base' := w2.heap.size) (by omega)) (by decide)) (ok' := fun k => k ≠ g) (fun k hk => hk.2))
  have RP := Aside0.mk (Kd.R_mono (hD.cur.apart (Kd.R_lower hR5 (base' := w2.heap.size) (by omega)) (by decide)) (ok' := fun k => k ≠ g) (fun k hk => hk.2))
  replace BR := Aside0.mk (hD.blk BR.out NR)
  replace D := Aside0.mk (D.out.call hD)
  have HG := Aside0.mk hg
  have chl := hg.1.1
  have psl := hg.2.2
  clear hR0 hS3 hR5 hg hD
  go_wp2_with fail
  refine (spec_l6Spoil.e w1 _ g c A0 c0 ch d u A3 c3 es h A5 c5 ps cl kp w2.heap.size D.out.cur D.out.bel hc HL D.out.size RP.out hp1 (by omega) (by omega)).mono ?_
  rintro x w5 ⟨A6, c6, qs, h', cl', kp', rfl, hRq, hql, hE⟩
  replace RC := Aside0.mk (R_keepRow RC.out RP.out hE.keep (fun _ hk => hk) (by decide))
  replace RE := Aside0.mk (S_keepRow RE.out RP.out hE.keep (fun _ hk => hk) (by decide))
  replace BR := Aside0.mk (KeepBut.blkRow hE.keep BR.out NR (Kd.R_ne RP.out BR.out (by decide)))
  replace D := Aside0.mk (hE.own D.out (fun b hb => Kd.R_base RP.out b hb))
  have RQ := Aside0.mk hRq
  have GB := Aside0.mk (show goodB ch es qs from ⟨HG.out.1, HG.out.2.1, by omega⟩)
  clear hRq hE RP HG
  have hb := below_alloc (Below.refl w5.heap.size w5) (Obj.cells #[.slice A0 ch.length c0, .int .i64 d, .int .i64 u, .slice A3 es.length c3, .int .i64 h', .slice A6 qs.length c6, .int .i64 cl', .int .i64 kp'] 32)
  have BF := Aside0.mk (blk_new w5 (Obj.cells #[.slice A0 ch.length c0, .int .i64 d, .int .i64 u, .slice A3 es.length c3, .int .i64 h', .slice A6 qs.length c6, .int .i64 cl', .int .i64 kp'] 32))
  have NF := Nat.ne_of_gt D.out.cur.lt
  have ge_BF := D.out.size
  have ne_BR_BF := Nat.ne_of_lt (blk_lt BR.out)
  replace BR := Aside0.mk (blk_below BR.out hb)
  replace RC := Aside0.mk (Kd.R_below RC.out hb)
  replace RE := Aside0.mk (Kd.S_below RE.out hb)
  replace RQ := Aside0.mk (Kd.R_below RQ.out hb)
  replace D := Aside0.mk (D.out.below hb)
  have zz_BF : w5.heap.size < (w5.alloc (Obj.cells #[.slice A0 ch.length c0, .int .i64 d, .int .i64 u, .slice A3 es.length c3, .int .i64 h', .slice A6 qs.length c6, .int .i64 cl', .int .i64 kp'] 32)).heap.size := by simp
  clear hb
  go_upto_region 3 with fail
  generalize w5.alloc (Obj.cells #[.slice A0 ch.length c0, .int .i64 d, .int .i64 u, .slice A3 es.length c3, .int .i64 h', .slice A6 qs.length c6, .int .i64 cl', .int .i64 kp'] 32) = w6 at *
  try go_wp2_with fail
  go_region_held3 (fun w' => w'.cell? ⟨w5.heap.size, 0, none⟩ = some (.slice A0 ch.length c0) ∧ w'.cell? ⟨w5.heap.size, 1, none⟩ = some (.int .i64 d) ∧ w'.cell? ⟨w5.heap.size, 2, none⟩ = some (.int .i64 u) ∧ w'.cell? ⟨w5.heap.size, 3, none⟩ = some (.slice A3 es.length c3) ∧ w'.cell? ⟨w5.heap.size, 4, none⟩ = some (.int .i64 h') ∧ w'.cell? ⟨w5.heap.size, 5, none⟩ = some (.slice A6 qs.length c6) ∧ w'.cell? ⟨w5.heap.size, 6, none⟩ = some (.int .i64 cl') ∧ w'.cell? ⟨w5.heap.size, 7, none⟩ = some (.int .i64 kp')) ((first | exact ⟨(blk_cell (by repeat (with_reducible first | exact BF.out | refine blk_alloc ?_ _ | refine blk_drewN ?_ _ | refine blk_drew ?_)) 0).trans rfl, (blk_cell (by repeat (with_reducible first | exact BF.out | refine blk_alloc ?_ _ | refine blk_drewN ?_ _ | refine blk_drew ?_)) 1).trans rfl, (blk_cell (by repeat (with_reducible first | exact BF.out | refine blk_alloc ?_ _ | refine blk_drewN ?_ _ | refine blk_drew ?_)) 2).trans rfl, (blk_cell (by repeat (with_reducible first | exact BF.out | refine blk_alloc ?_ _ | refine blk_drewN ?_ _ | refine blk_drew ?_)) 3).trans rfl, (blk_cell (by repeat (with_reducible first | exact BF.out | refine blk_alloc ?_ _ | refine blk_drewN ?_ _ | refine blk_drew ?_)) 4).trans rfl, (blk_cell (by repeat (with_reducible first | exact BF.out | refine blk_alloc ?_ _ | refine blk_drewN ?_ _ | refine blk_drew ?_)) 5).trans rfl, (blk_cell (by repeat (with_reducible first | exact BF.out | refine blk_alloc ?_ _ | refine blk_drewN ?_ _ | refine blk_drew ?_)) 6).trans rfl, (blk_cell (by repeat (with_reducible first | exact BF.out | refine blk_alloc ?_ _ | refine blk_drewN ?_ _ | refine blk_drew ?_)) 7).trans rfl⟩ | exact ⟨by (repeat (with_reducible refine cell_off (Ne.symm ne_BR_BF) _ ?_)); exact (blk_cell BF.out 0).trans rfl, by (repeat (with_reducible refine cell_off (Ne.symm ne_BR_BF) _ ?_)); exact (blk_cell BF.out 1).trans rfl, by (repeat (with_reducible refine cell_off (Ne.symm ne_BR_BF) _ ?_)); exact (blk_cell BF.out 2).trans rfl, by (repeat (with_reducible refine cell_off (Ne.symm ne_BR_BF) _ ?_)); exact (blk_cell BF.out 3).trans rfl, by (repeat (with_reducible refine cell_off (Ne.symm ne_BR_BF) _ ?_)); exact (blk_cell BF.out 4).trans rfl, by (repeat (with_reducible refine cell_off (Ne.symm ne_BR_BF) _ ?_)); exact (blk_cell BF.out 5).trans rfl, by (repeat (with_reducible refine cell_off (Ne.symm ne_BR_BF) _ ?_)); exact (blk_cell BF.out 6).trans rfl, by (repeat (with_reducible refine cell_off (Ne.symm ne_BR_BF) _ ?_)); exact (blk_cell BF.out 7).trans rfl⟩ | go_keep))
    ((first | (go_at_call 15; refine (spec_l1Below.e _ (Drew.cur (w := w2) (by repeat (with_reducible first | exact D.out | apply Drew.alloc | apply Drew.drewN | apply Drew.drew))) (Drew.bel (w := w2) (by repeat (with_reducible first | exact D.out | apply Drew.alloc | apply Drew.drewN | apply Drew.drew))) hc (by first | omega | (rw [IntKind.wrap_i64]; omega))).mono ?_; rintro x wA ⟨r, rfl, _, hD⟩; (try (have LT := Aside0.mk (Drew.R hD (by first | exact Kd.R_mono (Cur.apart (Drew.cur (w := w2) (by repeat (with_reducible first | exact D.out | apply Drew.alloc | apply Drew.drewN | apply Drew.drew))) (ints_litR _ [(-1), 40000, 40001] _ rfl (by simp)) (by decide)) (ok' := fun k => k ≠ g) (fun _ hk => hk.2) | exact Kd.R_drew (Kd.R_mono (Cur.apart (Drew.cur (w := w2) (by repeat (with_reducible first | exact D.out | apply Drew.alloc | apply Drew.drewN | apply Drew.drew))) (ints_litR _ [(-1), 40000, 40001] _ rfl (by simp)) (by decide)) (ok' := fun k => k ≠ g) (fun _ hk => hk.2))) (fun _ hk => hk)); have NLT := Nat.ne_of_gt D.out.cur.lt)); replace BF := Aside0.mk (Drew.blk hD (b := w5.heap.size) (o := .cells #[.slice A0 ch.length c0, .int .i64 d, .int .i64 u, .slice A3 es.length c3, .int .i64 h', .slice A6 qs.length c6, .int .i64 cl', .int .i64 kp'] 32 (0, 0)) (by repeat (with_reducible first | exact BF.out | refine blk_alloc ?_ _ | refine blk_drewN ?_ _ | refine blk_drew ?_)) NF); replace BR := Aside0.mk (Drew.blk hD (b := w.heap.size) (o := .cells #[.slice none 0 0, .int .i64 0, .int .i64 0, .slice none 0 0, .int .i64 0, .slice none 0 0, .int .i64 0, .int .i64 0] 32 (0, 0)) (by repeat (with_reducible first | exact BR.out | refine blk_alloc ?_ _ | refine blk_drewN ?_ _ | refine blk_drew ?_)) NR); replace RC := Aside0.mk (Drew.R hD (by repeat (with_reducible first | exact RC.out | apply Kd.R_alloc | apply Kd.R_drewN | apply Kd.R_drew)) (fun _ hk => hk)); replace RE := Aside0.mk (Drew.S hD (by repeat (with_reducible first | exact RE.out | apply Kd.S_alloc | apply Kd.S_drewN | apply Kd.S_drew)) (fun _ hk => hk)); replace RQ := Aside0.mk (Drew.R hD (by repeat (with_reducible first | exact RQ.out | apply Kd.R_alloc | apply Kd.R_drewN | apply Kd.R_drew)) (fun _ hk => hk)); replace D := Aside0.mk (Drew.call (by repeat (with_reducible first | exact D.out | apply Drew.alloc | apply Drew.drewN | apply Drew.drew)) hD); clear hD) | (go_at_call 16; refine (spec_l1Spoil.e _ (some ⟨_, 0, none⟩) 3 [(-1), 40000, 40001] (Drew.cur (w := w2) (by repeat (with_reducible first | exact D.out | apply Drew.alloc | apply Drew.drewN | apply Drew.drew))) (Drew.bel (w := w2) (by repeat (with_reducible first | exact D.out | apply Drew.alloc | apply Drew.drewN | apply Drew.drew))) hc (by first | exact (Kd.R_reads' LT.out).2.2 | exact ints_lit _ [(-1), 40000, 40001] _ rfl (by simp) | exact Kd.C_drew (ints_lit _ [(-1), 40000, 40001] _ rfl (by simp))) (by simp) (by first | exact (fun ad ha _ => by injection ha with ha; rw [← ha]; exact NLT) | exact (fun ad ha _ => by injection ha with ha; rw [← ha]; exact Nat.ne_of_gt D.out.cur.lt)) (by simp) (by simp)).mono ?_; rintro x wA ⟨at1, rfl, _, hD⟩; replace BF := Aside0.mk (Drew.blk hD (b := w5.heap.size) (o := .cells #[.slice A0 ch.length c0, .int .i64 d, .int .i64 u, .slice A3 es.length c3, .int .i64 h', .slice A6 qs.length c6, .int .i64 cl', .int .i64 kp'] 32 (0, 0)) (by repeat (with_reducible first | exact BF.out | refine blk_alloc ?_ _ | refine blk_drewN ?_ _ | refine blk_drew ?_)) NF); replace BR := Aside0.mk (Drew.blk hD (b := w.heap.size) (o := .cells #[.slice none 0 0, .int .i64 0, .int .i64 0, .slice none 0 0, .int .i64 0, .slice none 0 0, .int .i64 0, .int .i64 0] 32 (0, 0)) (by repeat (with_reducible first | exact BR.out | refine blk_alloc ?_ _ | refine blk_drewN ?_ _ | refine blk_drew ?_)) NR); replace RC := Aside0.mk (Drew.R hD (by repeat (with_reducible first | exact RC.out | apply Kd.R_alloc | apply Kd.R_drewN | apply Kd.R_drew)) (fun _ hk => hk)); replace RE := Aside0.mk (Drew.S hD (by repeat (with_reducible first | exact RE.out | apply Kd.S_alloc | apply Kd.S_drewN | apply Kd.S_drew)) (fun _ hk => hk)); replace RQ := Aside0.mk (Drew.R hD (by repeat (with_reducible first | exact RQ.out | apply Kd.R_alloc | apply Kd.R_drewN | apply Kd.R_drew)) (fun _ hk => hk)); replace D := Aside0.mk (Drew.call (by repeat (with_reducible first | exact D.out | apply Drew.alloc | apply Drew.drewN | apply Drew.drew)) hD); clear hD; have z0 := (blk_cell BR.out 0).trans rfl; have zz0 := blk_frozen BR.out 0; have z1 := (blk_cell BR.out 1).trans rfl; have zz1 := blk_frozen BR.out 1; have z2 := (blk_cell BR.out 2).trans rfl; have zz2 := blk_frozen BR.out 2; have z3 := (blk_cell BR.out 3).trans rfl; have zz3 := blk_frozen BR.out 3; have z4 := (blk_cell BR.out 4).trans rfl; have zz4 := blk_frozen BR.out 4; have z5 := (blk_cell BR.out 5).trans rfl; have zz5 := blk_frozen BR.out 5; have z6 := (blk_cell BR.out 6).trans rfl; have zz6 := blk_frozen BR.out 6; have z7 := (blk_cell BR.out 7).trans rfl; have zz7 := blk_frozen BR.out 7)))
  all_goals (try go_wp2_with fail)
  all_goals (
    have BR2 := Aside0.mk (put8_blk BR.out (.slice A0 ch.length c0) (.int .i64 d) (.int .i64 u) (.slice A3 es.length c3) (.int .i64 h') (.slice A6 qs.length c6) (.int .i64 cl') (.int .i64 kp'))
    have HBE := below_into (w := w) D.out.bel HBW.out
    have hw := D.out.size
    refine bodyPost_ret (results_ct rfl _ _ w.heap.size 32 #[.slice A0 ch.length c0, .int .i64 d, .int .i64 u, .slice A3 es.length c3, .int .i64 h', .slice A6 qs.length c6, .int .i64 cl', .int .i64 kp'] (0, 0) _ rfl BR2.out Try.underlying32 rfl (by kernel_rfl)) rfl ?_
    exact ⟨_, _, _, ch, d, u, es, h', qs, cl', kp', at1, rfl, Kd.R_lower (Kd.R_mono (put8_R RC.out BR.out (by decide) _ _ _ _ _ _ _ _) (fun _ _ => trivial)) (by omega), Kd.S_lower (Kd.S_mono (put8_S RE.out BR.out (by decide) _ _ _ _ _ _ _ _) (fun _ _ => trivial)) (by omega), Kd.R_lower (Kd.R_mono (put8_R RQ.out BR.out (by decide) _ _ _ _ _ _ _ _) (fun _ _ => trivial)) (by omega), GB.out, put8_B HBE (Nat.le_refl _) _ _ _ _ _ _ _ _⟩)
end Go.Proofs.Ytjnibbkjoclboaa.Q
namespace Go.Proofs.Ytjnibbkjoclboaa.Q
open Go.RowKit Go.Proofs.YtjnibbkjoclboaaW.PrintWords Go.Proofs.YtjnibbkjoclboaaW.PrintLast Go.Proofs.YtjnibbkjoclboaaW.PrintMore
set_option linter.unusedVariables false
set_option linter.unusedSimpArgs false
theorem closeR_text {m0 : List Acc} {d c : Int} {m1 : List Ent} {h : Int} {m2 : List Per} {a b day : Int} {x y : Int} {s : ByteArray} {l : List Lin} {t : Bool} (q : closeR m0 d c m1 h m2 a b day = (x, y, s, l, t)) : s.size ≤ maxLen := by
  have h5 : closeT.size = 5 := by decide
  unfold closeR at q
  split at q
  · injection q with e0 e; injection e with e1 e; injection e with e2 e
    rw [← e2, h5]; unfold maxLen; omega
  · injection q with e0 e; injection e with e1 e; injection e with e2 e
    rw [← e2]; exact Nat.zero_le _
set_option maxHeartbeats 8000000 in
set_option maxRecDepth 100000 in
theorem laws_FnYearClosed.to {Wf : Int → Prop} (A0 : Option Addr) (c0 : Nat) (l0 : List Int) (w : World) (hr0 : Kd.C (Kd.int .u8) w A0 l0.length l0) (hc0 : l0.length ≤ c0) (hw : l0.length ≤ maxLen ∧ ∀ a ∈ l0, Wf a) :
    Calls Try.prog 3 #[.slice A0 l0.length c0] w fun e w' => e = .returned (.bool true) ∧ Below w.heap.size w w' := by
  have H0 := Aside0.mk hr0
  clear hr0 hw
  go_enter Try.func3, Try.ntmps3
  go_wp2_with fail
  refine (laws_big.calls A0 c0 l0 _ _ H0.out hc0 rfl).mono ?_
  rintro x w1 ⟨rfl, hd⟩
  have HB := Aside0.mk hd.below
  by_cases hbig : (l0.length : Int) > 1048576
  · have hb' : decide ((l0.length : Int) > 1048576) = true := decide_eq_true hbig
    clear hd
    go_wp2_with fail
    go_ret
    exact ⟨rfl, HB.out⟩
  have hb' : decide ((l0.length : Int) > 1048576) = false := decide_eq_false hbig
  replace H0 := Aside0.mk (Kd.C_below H0.out HB.out)
  clear hd
  go_wp2_with fail
  refine (spec_DrawCloseYear.e _ A0 c0 l0 H0.out hc0 (by omega)).mono ?_
  rintro x w2 ⟨v0, v3, v5, ch, d, u, es, h, ps, cl, kp, day, rfl, hR0, hS3, hR5, hg, hb⟩
  obtain ⟨A, c, rfl, n0, hC⟩ := Kd.R_reads hR0
  obtain ⟨A1, c1, rfl, n1, hC1⟩ := Kd.S_reads hS3
  obtain ⟨A2, c2, rfl, n2, hC2⟩ := Kd.R_reads hR5
  have HS := Aside0.mk (show ∀ x ∈ ch, x.f0.size ≤ maxLen from fun x hx => Nat.le_trans (hg.1.2 x hx) (by unfold maxLen; omega))
  have HM := Aside0.mk (show ∀ e ∈ es, e.f2.size ≤ maxLen from fun x hx => Nat.le_trans (hg.2.1.2 x hx).1 (by unfold maxLen; omega))
  have HL := Aside0.mk (show ∀ e ∈ es, e.f3.length ≤ 1048576 from fun x hx => Nat.le_trans (hg.2.1.2 x hx).2 (by omega))
  have hes := hg.2.1.1
  have hch := hg.1.1
  have hps := hg.2.2
  replace HB := Aside0.mk (below_into (w := w) hb HB.out)
  have K0 := Aside0.mk hC
  have K1 := Aside0.mk hC1
  have K2 := Aside0.mk hC2
  clear hR0 hS3 hR5 hC hC1 hC2 hb H0 hg hb' hbig
  go_upto_region 4 with fail
  have BK := Aside0.mk (blk_new w2 (Obj.cells #[.slice A ch.length c, .int .i64 d, .int .i64 u, .slice A1 es.length c1, .int .i64 h, .slice A2 ps.length c2, .int .i64 cl, .int .i64 kp] 32))
  have hb := below_alloc (Below.refl w2.heap.size w2) (Obj.cells #[.slice A ch.length c, .int .i64 d, .int .i64 u, .slice A1 es.length c1, .int .i64 h, .slice A2 ps.length c2, .int .i64 cl, .int .i64 kp] 32)
  replace K0 := Aside0.mk (Kd.C_below K0.out hb)
  replace K1 := Aside0.mk (Kd.C_below K1.out hb)
  replace K2 := Aside0.mk (Kd.C_below K2.out hb)
  replace HB := Aside0.mk (below_into (w := w) hb HB.out)
  clear hb
  generalize w2.alloc (Obj.cells #[.slice A ch.length c, .int .i64 d, .int .i64 u, .slice A1 es.length c1, .int .i64 h, .slice A2 ps.length c2, .int .i64 cl, .int .i64 kp] 32) = w3 at *
  obtain ⟨⟨r0, r1, r2, r3, rk⟩, hC⟩ : ∃ R, R = closeR ch d u es h ps cl kp day := ⟨_, rfl⟩
  have hCL := closeR_len hC.symm
  have hCT := closeR_text hC.symm
  have HCI := Aside0.mk (show ((∀ x ∈ ch, x.f0.size ≤ maxLen) ∧ (∀ e ∈ es, e.f2.size ≤ maxLen)) ∧ closeR ch d u es h ps cl kp day = (r0, r1, r2, r3, rk) from ⟨⟨HS.out, HM.out⟩, hC.symm⟩)
  have HCS := Aside0.mk ((spec_CloseYear_is ch d u es h ps cl kp day HS.out HM.out 10000 (Nat.le_refl _)).trans (congrArg some hC.symm))
  have HCC := Aside0.mk hC
  clear hC
  have yBK0 := (blk_cell BK.out 0).trans rfl
  have yBK1 := (blk_cell BK.out 1).trans rfl
  have yBK2 := (blk_cell BK.out 2).trans rfl
  have yBK3 := (blk_cell BK.out 3).trans rfl
  have yBK4 := (blk_cell BK.out 4).trans rfl
  have yBK5 := (blk_cell BK.out 5).trans rfl
  have yBK6 := (blk_cell BK.out 6).trans rfl
  have yBK7 := (blk_cell BK.out 7).trans rfl
  go_wp2_with fail
  refine (impl_CloseYear.at A c ch d u A1 c1 es h A2 c2 ps cl kp day r0 r1 r2 r3 rk _ K0.out n0 K1.out n1 K2.out n2 HCI.out).mono ?_
  rintro x w4 ⟨v3, rfl, hR3, hb⟩
  obtain ⟨A3, c3, rfl, n3, hC3⟩ := Kd.R_reads hR3
  clear hR3 HCI
  clear yBK0 yBK1 yBK2 yBK3 yBK4 yBK5 yBK6 yBK7
  replace K0 := Aside0.mk (Kd.C_below K0.out hb)
  replace K1 := Aside0.mk (Kd.C_below K1.out hb)
  replace K2 := Aside0.mk (Kd.C_below K2.out hb)
  replace BK := Aside0.mk (blk_below BK.out hb)
  replace HB := Aside0.mk (below_into (w := w) hb HB.out)
  clear hb
  have K3 := Aside0.mk hC3
  clear hC3
  go_upto_region 5 with fail
  have hb := below_alloc (Below.refl w4.heap.size w4) (Obj.cells #[.int .i64 r0, .int .i64 r1, .string r2, .slice A3 r3.length c3] 37)
  have BE := Aside0.mk (blk_new w4 (Obj.cells #[.int .i64 r0, .int .i64 r1, .string r2, .slice A3 r3.length c3] 37))
  replace K0 := Aside0.mk (Kd.C_below K0.out hb)
  replace K1 := Aside0.mk (Kd.C_below K1.out hb)
  replace K2 := Aside0.mk (Kd.C_below K2.out hb)
  replace K3 := Aside0.mk (Kd.C_below K3.out hb)
  replace BK := Aside0.mk (blk_below BK.out hb)
  replace HB := Aside0.mk (below_into (w := w) hb HB.out)
  clear hb
  generalize w4.alloc (Obj.cells #[.int .i64 r0, .int .i64 r1, .string r2, .slice A3 r3.length c3] 37) = w5 at *
  have yBK0 := (blk_cell BK.out 0).trans rfl
  have yBK1 := (blk_cell BK.out 1).trans rfl
  have yBK2 := (blk_cell BK.out 2).trans rfl
  have yBK3 := (blk_cell BK.out 3).trans rfl
  have yBK4 := (blk_cell BK.out 4).trans rfl
  have yBK5 := (blk_cell BK.out 5).trans rfl
  have yBK6 := (blk_cell BK.out 6).trans rfl
  have yBK7 := (blk_cell BK.out 7).trans rfl
  go_wp2_with fail
  refine (spec_CloseYear.calls 10000 A c ch d u A1 c1 es h A2 c2 ps cl kp day r0 r1 r2 r3 rk _ K0.out n0 K1.out n1 K2.out n2 HCS.out).mono ?_
  rintro x w6 ⟨v4, rfl, hR4, hb⟩
  obtain ⟨A4, c4, rfl⟩ := Kd.R_slice hR4
  clear hR4 HCS
  clear yBK0 yBK1 yBK2 yBK3 yBK4 yBK5 yBK6 yBK7
  replace K0 := Aside0.mk (Kd.C_below K0.out hb)
  replace K1 := Aside0.mk (Kd.C_below K1.out hb)
  replace K2 := Aside0.mk (Kd.C_below K2.out hb)
  replace K3 := Aside0.mk (Kd.C_below K3.out hb)
  replace BK := Aside0.mk (blk_below BK.out hb)
  replace BE := Aside0.mk (blk_below BE.out hb)
  replace HB := Aside0.mk (below_into (w := w) hb HB.out)
  clear hb
  go_upto_region 6 with fail
  have hb := below_alloc (Below.refl w6.heap.size w6) (Obj.cells #[.int .i64 r0, .int .i64 r1, .string r2, .slice A4 r3.length c4] 37)
  replace K0 := Aside0.mk (Kd.C_below K0.out hb)
  replace K1 := Aside0.mk (Kd.C_below K1.out hb)
  replace K2 := Aside0.mk (Kd.C_below K2.out hb)
  replace K3 := Aside0.mk (Kd.C_below K3.out hb)
  replace BK := Aside0.mk (blk_below BK.out hb)
  replace BE := Aside0.mk (blk_below BE.out hb)
  replace HB := Aside0.mk (below_into (w := w) hb HB.out)
  clear hb
  generalize w6.alloc (Obj.cells #[.int .i64 r0, .int .i64 r1, .string r2, .slice A4 r3.length c4] 37) = w7 at *
  have hne : (rk != rk) = false := by simp
  have heq : (rk == rk) = true := by simp
  cases rk
  · go_wp2_with fail
    go_ret
    exact ⟨rfl, HB.out⟩
  clear hne heq
  obtain ⟨⟨p1, ph, pk⟩, hP⟩ : ∃ R, R = postR ch d u es h ⟨r0, r1, r2, r3⟩ := ⟨_, rfl⟩
  have hway := year_closed HCC.out.symm rfl hP.symm
  have HPI := Aside0.mk (show ((∀ x ∈ ch, x.f0.size ≤ maxLen) ∧ (∀ e ∈ es, e.f2.size ≤ maxLen) ∧ r2.size ≤ maxLen ∧ es.length ≤ 1048576 ∧ (∀ y ∈ es, y.f3.length ≤ 1048576) ∧ r3.length ≤ 1048576) ∧ postR ch d u es h ⟨r0, r1, r2, r3⟩ = (p1, ph, pk) from ⟨⟨HS.out, HM.out, hCT, by omega, HL.out, hCL⟩, hP.symm⟩)
  clear hP hCT hCL
  have yBK0 := (blk_cell BK.out 0).trans rfl
  have yBK1 := (blk_cell BK.out 1).trans rfl
  have yBK2 := (blk_cell BK.out 2).trans rfl
  have yBK3 := (blk_cell BK.out 3).trans rfl
  have yBK4 := (blk_cell BK.out 4).trans rfl
  have yBK5 := (blk_cell BK.out 5).trans rfl
  have yBK6 := (blk_cell BK.out 6).trans rfl
  have yBK7 := (blk_cell BK.out 7).trans rfl
  have yBE0 := (blk_cell BE.out 0).trans rfl
  have yBE1 := (blk_cell BE.out 1).trans rfl
  have yBE2 := (blk_cell BE.out 2).trans rfl
  have yBE3 := (blk_cell BE.out 3).trans rfl
  go_wp2_with fail
  refine (impl_Post.at A c ch d u A1 c1 es h r0 r1 r2 A3 c3 r3 p1 ph pk _ K0.out n0 K1.out n1 K3.out n3 HPI.out).mono ?_
  rintro x w8 ⟨v5, rfl, hS5, hb⟩
  obtain ⟨A5, c5, rfl, n5, hC5⟩ := Kd.S_reads hS5
  clear hS5 HPI
  clear yBK0 yBK1 yBK2 yBK3 yBK4 yBK5 yBK6 yBK7
  clear yBE0 yBE1 yBE2 yBE3
  replace K0 := Aside0.mk (Kd.C_below K0.out hb)
  replace K1 := Aside0.mk (Kd.C_below K1.out hb)
  replace K2 := Aside0.mk (Kd.C_below K2.out hb)
  replace K3 := Aside0.mk (Kd.C_below K3.out hb)
  replace BK := Aside0.mk (blk_below BK.out hb)
  replace BE := Aside0.mk (blk_below BE.out hb)
  replace HB := Aside0.mk (below_into (w := w) hb HB.out)
  clear hb
  have K5 := Aside0.mk hC5
  clear hC5 K3 BE HL
  go_upto_region 9 with fail
  have hb := below_alloc (Below.refl w8.heap.size w8) (Obj.cells #[.slice A5 p1.length c5, .int .i64 ph] 29)
  have BN := Aside0.mk (blk_new w8 (Obj.cells #[.slice A5 p1.length c5, .int .i64 ph] 29))
  clear K1 K2
  replace K0 := Aside0.mk (Kd.C_below K0.out hb)
  replace K5 := Aside0.mk (Kd.C_below K5.out hb)
  replace BK := Aside0.mk (blk_below BK.out hb)
  replace HB := Aside0.mk (below_into (w := w) hb HB.out)
  clear hb
  generalize w8.alloc (Obj.cells #[.slice A5 p1.length c5, .int .i64 ph] 29) = w9 at *
  rcases hway with rfl | ⟨rfl, hpl, hpf, hpq, hpz⟩
  · go_wp2_with fail
    go_ret
    exact ⟨rfl, HB.out⟩
  have HF := Aside0.mk hpf
  have HQ := Aside0.mk hpq
  have HZ := Aside0.mk hpz
  have hdd := (frame_len hpq.1).2.1.2
  clear hpf hpq hpz
  have HM5 := Aside0.mk (show ∀ e ∈ p1, e.f2.size ≤ maxLen from fun e he => Nat.le_trans (HQ.out.2.2.1 e he).2.2.1 (by unfold maxLen; omega))
  go_wp2_with fail
  go_loopg [11] ch.length (fun kq v11 W => ∃ a : Int, v11 = .int .i64 a ∧ 0 ≤ a ∧ a ≤ (ch.length : Int) ∧ kq + a.toNat = ch.length ∧ Aside0 (Kd.C k43 W A ch.length ch) ∧ Aside0 (Kd.C k37 W A5 p1.length p1) ∧ Aside0 (W.heap[w2.heap.size]? = some (.cells #[.slice A ch.length c, .int .i64 d, .int .i64 u, .slice A1 es.length c1, .int .i64 h, .slice A2 ps.length c2, .int .i64 cl, .int .i64 kp] 32 (0, 0))) ∧ Aside0 (W.heap[w8.heap.size]? = some (.cells #[.slice A5 p1.length c5, .int .i64 ph] 29 (0, 0))) ∧ Aside0 (Below w.heap.size w W))
  case atStart => exact ⟨0, rfl, by omega, by omega, by simp, K0, K5, BK, BN, HB⟩
  case round =>
    clear K0 K5 BK BN HB
    obtain ⟨a, rfl, a0, a1, hka, K0, K5, BK, BN, HB⟩ := hrel
    have yBK0 := (blk_cell BK.out 0).trans rfl
    by_cases ha : a < (ch.length : Int)
    · obtain ⟨k1, rfl⟩ : ∃ k, gk = k + 1 := ⟨gk - 1, by omega⟩
      go_wp2_with fail
      clear yBK0
      go_loopg [12] d.toNat (fun kq v12 W => ∃ x : Int, v12 = .int .i64 x ∧ 0 ≤ x ∧ kq + x.toNat = d.toNat ∧ Aside0 (Kd.C k43 W A ch.length ch) ∧ Aside0 (Kd.C k37 W A5 p1.length p1) ∧ Aside0 (W.heap[w2.heap.size]? = some (.cells #[.slice A ch.length c, .int .i64 d, .int .i64 u, .slice A1 es.length c1, .int .i64 h, .slice A2 ps.length c2, .int .i64 cl, .int .i64 kp] 32 (0, 0))) ∧ Aside0 (W.heap[w8.heap.size]? = some (.cells #[.slice A5 p1.length c5, .int .i64 ph] 29 (0, 0))) ∧ Aside0 (Below w.heap.size w W))
      case atStart => exact ⟨0, rfl, by omega, by simp, K0, K5, BK, BN, HB⟩
      case round =>
        clear K0 K5 BK BN HB
        obtain ⟨x, rfl, x0, hkx, K0, K5, BK, BN, HB⟩ := hrel
        have yBK0 := (blk_cell BK.out 0).trans rfl
        have yBK1 := (blk_cell BK.out 1).trans rfl
        by_cases hx : x < d
        case neg =>
          have hxb : decide (x < d) = false := decide_eq_false hx
          go_wp2_with fail
          go_roundg k1
          case rel => exact ⟨a + 1, by go_num, by omega, by omega, by omega, K0, K5, BK, BN, HB⟩
          case measure => omega
        have hxb : decide (x < d) = true := decide_eq_true hx
        obtain ⟨ad, e0, z0, z1, z2⟩ := at_T43 K0.out a a0 ha
        cases e0
        by_cases hk : 4 ≤ knd ch a
        case neg =>
          have hkb : decide ((rd_T43 ch a).f2 ≥ 4) = false := decide_eq_false hk
          go_wp2_with fail
          go_roundg k1
          case rel => exact ⟨a + 1, by go_num, by omega, by omega, by omega, K0, K5, BK, BN, HB⟩
          case measure => omega
        have hkb : decide ((rd_T43 ch a).f2 ≥ 4) = true := decide_eq_true hk
        obtain ⟨k2, rfl⟩ : ∃ k, gk = k + 1 := ⟨gk - 1, by omega⟩
        have zn0 := (blk_cell BN.out 0).trans rfl
        have zn1 := (blk_cell BN.out 1).trans rfl
        go_wp2_with fail
        refine (impl_Balance.to A5 c5 p1 ph a x (-1) 0 day _ K5.out hpl HF.out).mono ?_
        rintro xx w10 ⟨rfl, hb⟩
        rw [HZ.out a x a0 ha hk x0 hx]
        replace K0 := Aside0.mk (Kd.C_below K0.out hb)
        replace K5 := Aside0.mk (Kd.C_below K5.out hb)
        replace BK := Aside0.mk (blk_below BK.out hb)
        replace BN := Aside0.mk (blk_below BN.out hb)
        replace HB := Aside0.mk (below_into (w := w) hb HB.out)
        clear hb zn0 zn1 z0 z1 z2 yBK0 yBK1
        go_wp2_with fail
        go_roundg k2
        case rel => exact ⟨x + 1, by go_num, by omega, by omega, K0, K5, BK, BN, HB⟩
        case measure => omega
    · clear yBK0
      have yBK0 := (blk_cell BK.out 0).trans rfl
      have yBK1 := (blk_cell BK.out 1).trans rfl
      have yBK2 := (blk_cell BK.out 2).trans rfl
      have yBK3 := (blk_cell BK.out 3).trans rfl
      have yBK4 := (blk_cell BK.out 4).trans rfl
      have yBK5 := (blk_cell BK.out 5).trans rfl
      have yBK6 := (blk_cell BK.out 6).trans rfl
      have yBK7 := (blk_cell BK.out 7).trans rfl
      have yBN0 := (blk_cell BN.out 0).trans rfl
      have yBN1 := (blk_cell BN.out 1).trans rfl
      go_wp2_with fail
      refine (impl_Trial.calls A c ch d u A5 c5 p1 ph day (trialR ch d u p1 ph day) _ K0.out n0 K5.out n5 (impl_Trial_is ch d u p1 ph day HS.out HM5.out)).mono ?_
      rintro x w20 ⟨v6, rfl, hR6, hb⟩
      obtain ⟨A6, c6, rfl, n6, hC6⟩ := Kd.R_reads hR6
      replace HB := Aside0.mk (below_into (w := w) hb HB.out)
      have HSU := Aside0.mk (sum_none HQ.out day)
      generalize trialR ch d u p1 ph day = tr at n6 hC6 HSU
      clear hR6 hb K0 K5 BK BN yBK0 yBK1 yBK2 yBK3 yBK4 yBK5 yBK6 yBK7 yBN0 yBN1
      have K6 := Aside0.mk hC6
      clear hC6
      go_wp2_with fail
      refine (laws_sum.calls 2000000 A6 c6 tr 0 _ K6.out n6 HSU.out).mono ?_
      rintro x w21 ⟨rfl, hd⟩
      replace HB := Aside0.mk (below_into (w := w) hd.below HB.out)
      clear hd
      go_wp2_with fail
      go_ret
      exact ⟨rfl, HB.out⟩
end Go.Proofs.Ytjnibbkjoclboaa.Q
