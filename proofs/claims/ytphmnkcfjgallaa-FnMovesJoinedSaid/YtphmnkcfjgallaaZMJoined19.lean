/- Parts of the proof: what functions of the program and of the reference answer.
   No condition. -/
import Derived.Test.YtphmnkcfjgallaaZMJoined1
import Derived.Test.YtphmnkcfjgallaaZMJoined6
import Derived.Test.YtphmnkcfjgallaaZMJoined11
import Derived.Test.YtphmnkcfjgallaaZMJoined7
import Derived.Test.YtphmnkcfjgallaaZMJoined9
import Derived.Test.YtphmnkcfjgallaaZMJoined12
import Derived.Test.YtphmnkcfjgallaaZMJoined16
import Derived.Test.YtphmnkcfjgallaaZMJoined18
import Derived.Test.YtphmnkcfjgallaaZMJoined17
import Derived.Test.YtphmnkcfjgallaaZMJoined14
import Derived.Test.YtphmnkcfjgallaaZMJoined4
import Derived.Test.YtphmnkcfjgallaaZMJoined2
import Derived.Test.YtphmnkcfjgallaaZMJoined3
namespace Go.Proofs.Ytphmnkcfjgallaa.Q
open Go.RowKit Go.Proofs.YtphmnkcfjgallaaW.PrintWords Go.Proofs.YtphmnkcfjgallaaW.PrintLast Go.Proofs.YtphmnkcfjgallaaW.PrintMore
set_option linter.unusedVariables false
set_option linter.unusedSimpArgs false
theorem ints_litR (W : World) (xs : List Int) (inner : List Value) (hi : inner = xs.map (Value.int .i64)) (hm : xs.length ≤ 1048576) : (Kd.int .i64).R 3 (W.alloc (.cells inner.toArray 3)) W.heap.size (fun _ => True) (.slice (some ⟨W.heap.size, 0, none⟩) xs.length xs.length) xs := by
  subst hi
  have h2 := World.ownsRow_lit (base := W.heap.size) (e := 3) (size := 1) W (xs.map (Value.int .i64)).toArray xs.length (Nat.le_refl _) (by simp [maxLen]; omega) (by simp)
  have h3 : (W.alloc (Obj.cells (xs.map (Value.int .i64)).toArray 3)).ownsRow W.heap.size 3 1 (.slice (some ⟨W.heap.size, 0, none⟩) xs.length xs.length) xs.length (encs (Value.int .i64) xs) := by simpa [encs] using h2
  exact Kd.R_of_own (h1 := fun _ => rfl) h3 (fun _ _ => trivial)
theorem R_keepRow {α β : Type} {d : Kd α} {d2 : Kd β} {e e2 base base2 : Nat} {ok ok2 : Nat → Prop} {w w1 : World} {v v2 : Value} {xs : List α} {ys : List β} {g : Nat} (h : d.R e w base ok v xs) (h2 : d2.R e2 w base2 ok2 v2 ys) (hk : KeepBut w w1 g v2.ownBlock) (hok : ∀ k, ok k → k ≠ g) (ht : ∀ q, q ∈ e :: d.E → q ≠ e2) : d.R e w1 base ok v xs := by
  cases hv : v2.ownBlock with
  | none => rw [hv] at hk; exact Kd.R_step h (fun k ho hlt => hk.2 k hlt (hok k ho) (by simp))
  | some b =>
    obtain ⟨inner, hown⟩ := Kd.R_own h2
    obtain ⟨cells, hc⟩ := own_typed hown b hv
    rw [hv] at hk
    refine Kd.R_mono (Kd.R_step (Kd.R_types h hc ht) (fun k ho hlt => hk.2 k hlt (hok k ho.1) (fun e => ho.2 (by injection e)))) (fun _ hk => hk.1)
theorem S_keepRow {α β : Type} {d : Kd α} {d2 : Kd β} {e e2 base base2 : Nat} {ok ok2 : Nat → Prop} {w w1 : World} {v v2 : Value} {xs : List α} {ys : List β} {g : Nat} (h : Kd.S d e w base ok v xs) (h2 : d2.R e2 w base2 ok2 v2 ys) (hk : KeepBut w w1 g v2.ownBlock) (hok : ∀ k, ok k → k ≠ g) (ht : ∀ q, q ∈ e :: d.E → q ≠ e2) : Kd.S d e w1 base ok v xs := by
  cases hv : v2.ownBlock with
  | none => rw [hv] at hk; exact Kd.S_step h (fun k ho hlt => hk.2 k hlt (hok k ho) (by simp))
  | some b =>
    obtain ⟨inner, hown⟩ := Kd.R_own h2
    obtain ⟨cells, hc⟩ := own_typed hown b hv
    rw [hv] at hk
    refine Kd.S_mono (Kd.S_step (Kd.S_types h hc ht) (fun k ho hlt => hk.2 k hlt (hok k ho.1) (fun e => ho.2 (by injection e)))) (fun _ hk => hk.1)
theorem KeepBut.blkRow {w w1 : World} {g b : Nat} {row : Option Nat} {o : Obj} (hk : KeepBut w w1 g row) (h : w.heap[b]? = some o) (hne : b ≠ g) (hr : some b ≠ row) : w1.heap[b]? = some o := (hk.2 b (blk_lt h) hne hr).trans h
theorem put8_B {w W : World} {b : Nat} (h : Below w.heap.size w W) (hp : w.heap.size ≤ b) (u0 u1 u2 u3 u4 u5 u6 u7 : Value) : Below w.heap.size w ((((((((W.setCell ⟨b, 0, none⟩ u0).setCell ⟨b, 1, none⟩ u1).setCell ⟨b, 2, none⟩ u2).setCell ⟨b, 3, none⟩ u3).setCell ⟨b, 4, none⟩ u4).setCell ⟨b, 5, none⟩ u5).setCell ⟨b, 6, none⟩ u6).setCell ⟨b, 7, none⟩ u7) := by
  repeat refine Below.setCell ?_ hp _
  exact h
theorem DrewR.own {w0 w W W1 : World} {g : Nat} {c : List Int} {row : Option Nat} (h : DrewR w0 W W1 g c row) (k : Drew w0 w W g c) (hr : ∀ b, row = some b → w.heap.size ≤ b) : Drew w0 w W1 g c := by
  refine ⟨h.cur, h.bel, ⟨Nat.le_trans k.keep.1 h.keep.1, fun i hi hne _ => ?_⟩⟩
  refine (h.keep.2 i (Nat.lt_of_lt_of_le hi k.keep.1) hne (fun e => ?_)).trans (k.keep.2 i hi hne (by simp))
  have := hr i e.symm
  omega
set_option maxHeartbeats 8000000 in
set_option maxRecDepth 100000 in
theorem spec_DrawMoves.e (w : World) (A : Option Addr) (cc : Nat) (c : List Int) (hr0 : Kd.C (Kd.int .u8) w A c.length c) (hc0 : c.length ≤ cc) (hc : c.length ≤ 1048576) :
    Calls Try.prog 26 #[.slice A c.length cc] w fun e w' => ∃ (v0 v3 v5 : Value) (ch : List Acc) (d u : Int) (es : List Ent) (h : Int) (ps : List Per) (cl kp at1 : Int), e = .returned (.tuple #[.agg #[v0, .int .i64 d, .int .i64 u, v3, .int .i64 h, v5, .int .i64 cl, .int .i64 kp], .int .i64 at1]) ∧ Kd.R k131 131 w' w.heap.size (fun _ => True) v0 ch ∧ Kd.S k34 34 w' w.heap.size (fun _ => True) v3 es ∧ Kd.R k133 133 w' w.heap.size (fun _ => True) v5 ps ∧ goodB ch es ps ∧ Below w.heap.size w w' := by
  have H0 := Aside0.mk hr0
  have BR := Aside0.mk (blk_new w (.cells #[.slice none 0 0, .int .i64 0, .int .i64 0, .slice none 0 0, .int .i64 0, .slice none 0 0, .int .i64 0, .int .i64 0] 50))
  have hz : w.heap.size < (w.alloc (.cells #[.slice none 0 0, .int .i64 0, .int .i64 0, .slice none 0 0, .int .i64 0, .slice none 0 0, .int .i64 0, .int .i64 0] 50)).heap.size := by simp
  have HBW := Aside0.mk (below_alloc (Below.refl w.heap.size w) (.cells #[.slice none 0 0, .int .i64 0, .int .i64 0, .slice none 0 0, .int .i64 0, .slice none 0 0, .int .i64 0, .int .i64 0] 50))
  clear hr0
  go_enter Try.func26, Try.ntmps26
  go_wp2_with fail
  generalize w.alloc (Obj.cells #[.slice none 0 0, .int .i64 0, .int .i64 0, .slice none 0 0, .int .i64 0, .slice none 0 0, .int .i64 0, .int .i64 0] 50) = w1 at *
  refine (spec_l1New.e A cc c _ (Kd.C_below H0.out HBW.out) hc0 hc).mono ?_
  rintro x w2 ⟨g, rfl, hI, hb⟩
  replace BR := Aside0.mk (blk_below BR.out hb)
  have D := Aside0.mk (Drew.refl hI hb)
  have HL := hb.size
  have NR : w.heap.size ≠ g := by have := hI.ge; omega
  clear hI hb
  go_wp2_with fail
  refine (spec_l1Below.e 8 D.out.cur D.out.bel hc (by omega)).mono ?_
  rintro x w3 ⟨n, rfl, ⟨n0, n1, _⟩, hD⟩
  have n2 := n1 (by omega)
  replace BR := Aside0.mk (hD.blk BR.out NR)
  replace D := Aside0.mk (D.out.call hD)
  clear hD n1
  have hs3 := D.out.size
  go_wp2_with fail
  refine (spec_l6DrawBooks.e w1 _ g c n D.out.cur D.out.bel hc (by omega)).mono ?_
  rintro x w4 ⟨v0, v3, v5, ch, d, u, es, h, ps, cl, kp, rfl, hR0, hS3, hR5, ⟨hg, hp1, hch3⟩, hD⟩
  obtain ⟨A0, c0, rfl⟩ := Kd.R_slice hR0
  obtain ⟨A3, c3, rfl⟩ := Kd.S_slice hS3
  obtain ⟨A5, c5, rfl⟩ := Kd.R_slice hR5
  have RC := Aside0.mk (Kd.R_mono (hD.cur.apart (Kd.R_lower hR0 (base' := w2.heap.size) (by omega)) (by decide)) (ok' := fun k => k ≠ g) (fun k hk => hk.2))
  have RE := Aside0.mk (Kd.S_mono (hD.cur.apartS (Kd.S_lower hS3 (base' := w2.heap.size) (by omega)) (by decide)) (ok' := fun k => k ≠ g) (fun k hk => hk.2))
  have RP := Aside0.mk (Kd.R_mono (hD.cur.apart (Kd.R_lower hR5 (base' := w2.heap.size) (by omega)) (by decide)) (ok' := fun k => k ≠ g) (fun k hk => hk.2))
  replace BR := Aside0.mk (hD.blk BR.out NR)
  replace D := Aside0.mk (D.out.call hD)
  have HG := Aside0.mk hg
  have chl := hg.1.1
  have psl := hg.2.2
  clear hR0 hS3 hR5 hg hD
  go_wp2_with fail
  refine (spec_l6Spoil.e w1 _ g c A0 c0 ch d u A3 c3 es h A5 c5 ps cl kp w2.heap.size D.out.cur D.out.bel hc HL D.out.size RP.out hp1 (by omega) (by omega)).mono ?_
  rintro x w5 ⟨A6, c6, qs, h', cl', kp', rfl, hRq, hql, hE⟩
  replace RC := Aside0.mk (R_keepRow RC.out RP.out hE.keep (fun _ hk => hk) (by decide))
  replace RE := Aside0.mk (S_keepRow RE.out RP.out hE.keep (fun _ hk => hk) (by decide))
  replace BR := Aside0.mk (KeepBut.blkRow hE.keep BR.out NR (Kd.R_ne RP.out BR.out (by decide)))
  replace D := Aside0.mk (hE.own D.out (fun b hb => Kd.R_base RP.out b hb))
  have RQ := Aside0.mk hRq
  have GB := Aside0.mk (show goodB ch es qs from ⟨HG.out.1, HG.out.2.1, by omega⟩)
  clear hRq hE RP HG
  have hb := below_alloc (Below.refl w5.heap.size w5) (Obj.cells #[.slice A0 ch.length c0, .int .i64 d, .int .i64 u, .slice A3 es.length c3, .int .i64 h', .slice A6 qs.length c6, .int .i64 cl', .int .i64 kp'] 50)
  have BF := Aside0.mk (blk_new w5 (Obj.cells #[.slice A0 ch.length c0, .int .i64 d, .int .i64 u, .slice A3 es.length c3, .int .i64 h', .slice A6 qs.length c6, .int .i64 cl', .int .i64 kp'] 50))
  have NF := Nat.ne_of_gt D.out.cur.lt
  have ge_BF := D.out.size
  have ne_BR_BF := Nat.ne_of_lt (blk_lt BR.out)
  replace BR := Aside0.mk (blk_below BR.out hb)
  replace RC := Aside0.mk (Kd.R_below RC.out hb)
  replace RE := Aside0.mk (Kd.S_below RE.out hb)
  replace RQ := Aside0.mk (Kd.R_below RQ.out hb)
  replace D := Aside0.mk (D.out.below hb)
  have zz_BF : w5.heap.size < (w5.alloc (Obj.cells #[.slice A0 ch.length c0, .int .i64 d, .int .i64 u, .slice A3 es.length c3, .int .i64 h', .slice A6 qs.length c6, .int .i64 cl', .int .i64 kp'] 50)).heap.size := by simp
  clear hb
  go_upto_region 3 with fail
  generalize w5.alloc (Obj.cells #[.slice A0 ch.length c0, .int .i64 d, .int .i64 u, .slice A3 es.length c3, .int .i64 h', .slice A6 qs.length c6, .int .i64 cl', .int .i64 kp'] 50) = w6 at *
  try go_wp2_with fail
  go_region_held3 (fun w' => w'.cell? ⟨w5.heap.size, 0, none⟩ = some (.slice A0 ch.length c0) ∧ w'.cell? ⟨w5.heap.size, 1, none⟩ = some (.int .i64 d) ∧ w'.cell? ⟨w5.heap.size, 2, none⟩ = some (.int .i64 u) ∧ w'.cell? ⟨w5.heap.size, 3, none⟩ = some (.slice A3 es.length c3) ∧ w'.cell? ⟨w5.heap.size, 4, none⟩ = some (.int .i64 h') ∧ w'.cell? ⟨w5.heap.size, 5, none⟩ = some (.slice A6 qs.length c6) ∧ w'.cell? ⟨w5.heap.size, 6, none⟩ = some (.int .i64 cl') ∧ w'.cell? ⟨w5.heap.size, 7, none⟩ = some (.int .i64 kp')) ((first | exact ⟨(blk_cell (by repeat (with_reducible first | exact BF.out | refine blk_alloc ?_ _ | refine blk_drewN ?_ _ | refine blk_drew ?_)) 0).trans rfl, (blk_cell (by repeat (with_reducible first | exact BF.out | refine blk_alloc ?_ _ | refine blk_drewN ?_ _ | refine blk_drew ?_)) 1).trans rfl, (blk_cell (by repeat (with_reducible first | exact BF.out | refine blk_alloc ?_ _ | refine blk_drewN ?_ _ | refine blk_drew ?_)) 2).trans rfl, (blk_cell (by repeat (with_reducible first | exact BF.out | refine blk_alloc ?_ _ | refine blk_drewN ?_ _ | refine blk_drew ?_)) 3).trans rfl, (blk_cell (by repeat (with_reducible first | exact BF.out | refine blk_alloc ?_ _ | refine blk_drewN ?_ _ | refine blk_drew ?_)) 4).trans rfl, (blk_cell (by repeat (with_reducible first | exact BF.out | refine blk_alloc ?_ _ | refine blk_drewN ?_ _ | refine blk_drew ?_)) 5).trans rfl, (blk_cell (by repeat (with_reducible first | exact BF.out | refine blk_alloc ?_ _ | refine blk_drewN ?_ _ | refine blk_drew ?_)) 6).trans rfl, (blk_cell (by repeat (with_reducible first | exact BF.out | refine blk_alloc ?_ _ | refine blk_drewN ?_ _ | refine blk_drew ?_)) 7).trans rfl⟩ | exact ⟨by (repeat (with_reducible refine cell_off (Ne.symm ne_BR_BF) _ ?_)); exact (blk_cell BF.out 0).trans rfl, by (repeat (with_reducible refine cell_off (Ne.symm ne_BR_BF) _ ?_)); exact (blk_cell BF.out 1).trans rfl, by (repeat (with_reducible refine cell_off (Ne.symm ne_BR_BF) _ ?_)); exact (blk_cell BF.out 2).trans rfl, by (repeat (with_reducible refine cell_off (Ne.symm ne_BR_BF) _ ?_)); exact (blk_cell BF.out 3).trans rfl, by (repeat (with_reducible refine cell_off (Ne.symm ne_BR_BF) _ ?_)); exact (blk_cell BF.out 4).trans rfl, by (repeat (with_reducible refine cell_off (Ne.symm ne_BR_BF) _ ?_)); exact (blk_cell BF.out 5).trans rfl, by (repeat (with_reducible refine cell_off (Ne.symm ne_BR_BF) _ ?_)); exact (blk_cell BF.out 6).trans rfl, by (repeat (with_reducible refine cell_off (Ne.symm ne_BR_BF) _ ?_)); exact (blk_cell BF.out 7).trans rfl⟩ | go_keep))
    ((first | (go_at_call 72; refine (spec_l1Below.e _ (Drew.cur (w := w2) (by repeat (with_reducible first | exact D.out | apply Drew.alloc | apply Drew.drewN | apply Drew.drew))) (Drew.bel (w := w2) (by repeat (with_reducible first | exact D.out | apply Drew.alloc | apply Drew.drewN | apply Drew.drew))) hc (by first | omega | (rw [IntKind.wrap_i64]; omega))).mono ?_; rintro x wA ⟨r, rfl, _, hD⟩; (try (have LT := Aside0.mk (Drew.R hD (by first | exact Kd.R_mono (Cur.apart (Drew.cur (w := w2) (by repeat (with_reducible first | exact D.out | apply Drew.alloc | apply Drew.drewN | apply Drew.drew))) (ints_litR _ [(-1)] _ rfl (by simp)) (by decide)) (ok' := fun k => k ≠ g) (fun _ hk => hk.2) | exact Kd.R_drew (Kd.R_mono (Cur.apart (Drew.cur (w := w2) (by repeat (with_reducible first | exact D.out | apply Drew.alloc | apply Drew.drewN | apply Drew.drew))) (ints_litR _ [(-1)] _ rfl (by simp)) (by decide)) (ok' := fun k => k ≠ g) (fun _ hk => hk.2))) (fun _ hk => hk)); have NLT := Nat.ne_of_gt D.out.cur.lt)); replace BF := Aside0.mk (Drew.blk hD (b := w5.heap.size) (o := .cells #[.slice A0 ch.length c0, .int .i64 d, .int .i64 u, .slice A3 es.length c3, .int .i64 h', .slice A6 qs.length c6, .int .i64 cl', .int .i64 kp'] 50 (0, 0)) (by repeat (with_reducible first | exact BF.out | refine blk_alloc ?_ _ | refine blk_drewN ?_ _ | refine blk_drew ?_)) NF); replace BR := Aside0.mk (Drew.blk hD (b := w.heap.size) (o := .cells #[.slice none 0 0, .int .i64 0, .int .i64 0, .slice none 0 0, .int .i64 0, .slice none 0 0, .int .i64 0, .int .i64 0] 50 (0, 0)) (by repeat (with_reducible first | exact BR.out | refine blk_alloc ?_ _ | refine blk_drewN ?_ _ | refine blk_drew ?_)) NR); replace RC := Aside0.mk (Drew.R hD (by repeat (with_reducible first | exact RC.out | apply Kd.R_alloc | apply Kd.R_drewN | apply Kd.R_drew)) (fun _ hk => hk)); replace RE := Aside0.mk (Drew.S hD (by repeat (with_reducible first | exact RE.out | apply Kd.S_alloc | apply Kd.S_drewN | apply Kd.S_drew)) (fun _ hk => hk)); replace RQ := Aside0.mk (Drew.R hD (by repeat (with_reducible first | exact RQ.out | apply Kd.R_alloc | apply Kd.R_drewN | apply Kd.R_drew)) (fun _ hk => hk)); replace D := Aside0.mk (Drew.call (by repeat (with_reducible first | exact D.out | apply Drew.alloc | apply Drew.drewN | apply Drew.drew)) hD); clear hD) | (go_at_call 73; refine (spec_l1Spoil.e _ (some ⟨_, 0, none⟩) 1 [(-1)] (Drew.cur (w := w2) (by repeat (with_reducible first | exact D.out | apply Drew.alloc | apply Drew.drewN | apply Drew.drew))) (Drew.bel (w := w2) (by repeat (with_reducible first | exact D.out | apply Drew.alloc | apply Drew.drewN | apply Drew.drew))) hc (by first | exact (Kd.R_reads' LT.out).2.2 | exact ints_lit _ [(-1)] _ rfl (by simp) | exact Kd.C_drew (ints_lit _ [(-1)] _ rfl (by simp))) (by simp) (by first | exact (fun ad ha _ => by injection ha with ha; rw [← ha]; exact NLT) | exact (fun ad ha _ => by injection ha with ha; rw [← ha]; exact Nat.ne_of_gt D.out.cur.lt)) (by simp) (by simp)).mono ?_; rintro x wA ⟨at1, rfl, _, hD⟩; replace BF := Aside0.mk (Drew.blk hD (b := w5.heap.size) (o := .cells #[.slice A0 ch.length c0, .int .i64 d, .int .i64 u, .slice A3 es.length c3, .int .i64 h', .slice A6 qs.length c6, .int .i64 cl', .int .i64 kp'] 50 (0, 0)) (by repeat (with_reducible first | exact BF.out | refine blk_alloc ?_ _ | refine blk_drewN ?_ _ | refine blk_drew ?_)) NF); replace BR := Aside0.mk (Drew.blk hD (b := w.heap.size) (o := .cells #[.slice none 0 0, .int .i64 0, .int .i64 0, .slice none 0 0, .int .i64 0, .slice none 0 0, .int .i64 0, .int .i64 0] 50 (0, 0)) (by repeat (with_reducible first | exact BR.out | refine blk_alloc ?_ _ | refine blk_drewN ?_ _ | refine blk_drew ?_)) NR); replace RC := Aside0.mk (Drew.R hD (by repeat (with_reducible first | exact RC.out | apply Kd.R_alloc | apply Kd.R_drewN | apply Kd.R_drew)) (fun _ hk => hk)); replace RE := Aside0.mk (Drew.S hD (by repeat (with_reducible first | exact RE.out | apply Kd.S_alloc | apply Kd.S_drewN | apply Kd.S_drew)) (fun _ hk => hk)); replace RQ := Aside0.mk (Drew.R hD (by repeat (with_reducible first | exact RQ.out | apply Kd.R_alloc | apply Kd.R_drewN | apply Kd.R_drew)) (fun _ hk => hk)); replace D := Aside0.mk (Drew.call (by repeat (with_reducible first | exact D.out | apply Drew.alloc | apply Drew.drewN | apply Drew.drew)) hD); clear hD; have z0 := (blk_cell BR.out 0).trans rfl; have zz0 := blk_frozen BR.out 0; have z1 := (blk_cell BR.out 1).trans rfl; have zz1 := blk_frozen BR.out 1; have z2 := (blk_cell BR.out 2).trans rfl; have zz2 := blk_frozen BR.out 2; have z3 := (blk_cell BR.out 3).trans rfl; have zz3 := blk_frozen BR.out 3; have z4 := (blk_cell BR.out 4).trans rfl; have zz4 := blk_frozen BR.out 4; have z5 := (blk_cell BR.out 5).trans rfl; have zz5 := blk_frozen BR.out 5; have z6 := (blk_cell BR.out 6).trans rfl; have zz6 := blk_frozen BR.out 6; have z7 := (blk_cell BR.out 7).trans rfl; have zz7 := blk_frozen BR.out 7)))
  all_goals (try go_wp2_with fail)
  all_goals (
    have BR2 := Aside0.mk (put8_blk BR.out (.slice A0 ch.length c0) (.int .i64 d) (.int .i64 u) (.slice A3 es.length c3) (.int .i64 h') (.slice A6 qs.length c6) (.int .i64 cl') (.int .i64 kp'))
    have HBE := below_into (w := w) D.out.bel HBW.out
    have hw := D.out.size
    refine bodyPost_ret (results_ct rfl _ _ w.heap.size 50 #[.slice A0 ch.length c0, .int .i64 d, .int .i64 u, .slice A3 es.length c3, .int .i64 h', .slice A6 qs.length c6, .int .i64 cl', .int .i64 kp'] (0, 0) _ rfl BR2.out Try.underlying50 rfl (by kernel_rfl)) rfl ?_
    exact ⟨_, _, _, ch, d, u, es, h', qs, cl', kp', at1, rfl, Kd.R_lower (Kd.R_mono (put8_R RC.out BR.out (by decide) _ _ _ _ _ _ _ _) (fun _ _ => trivial)) (by omega), Kd.S_lower (Kd.S_mono (put8_S RE.out BR.out (by decide) _ _ _ _ _ _ _ _) (fun _ _ => trivial)) (by omega), Kd.R_lower (Kd.R_mono (put8_R RQ.out BR.out (by decide) _ _ _ _ _ _ _ _) (fun _ _ => trivial)) (by omega), GB.out, put8_B HBE (Nat.le_refl _) _ _ _ _ _ _ _ _⟩)
end Go.Proofs.Ytphmnkcfjgallaa.Q
namespace Go.Proofs.Ytphmnkcfjgallaa.Q
open Go.RowKit Go.Proofs.YtphmnkcfjgallaaW.PrintWords Go.Proofs.YtphmnkcfjgallaaW.PrintLast Go.Proofs.YtphmnkcfjgallaaW.PrintMore
set_option linter.unusedVariables false
set_option linter.unusedSimpArgs false
theorem basV_split (a d c : Int) {fr m tt : Int} (h1 : fr ≤ m + 1) (h2 : m ≤ tt) : ∀ es : List Ent, basV a d c fr m es + basV a d c (m + 1) tt es = basV a d c fr tt es
  | [] => rfl
  | e :: l => by
    have ih := basV_split a d c h1 h2 l
    simp only [basV]
    by_cases q1 : e.f0 ≤ m
    · have e2 : inB e.f0 (m + 1) tt = false := inB_not (by omega)
      have e1 : inB e.f0 fr m = inB e.f0 fr tt := by
        by_cases q : fr ≤ e.f0
        · rw [inB_of ⟨q, q1⟩, inB_of ⟨q, by omega⟩]
        · rw [inB_not (by omega), inB_not (by omega)]
      rw [e1, e2]
      simp only [Bool.false_eq_true, if_false]
      omega
    · have e1 : inB e.f0 fr m = false := inB_not (by omega)
      have e2 : inB e.f0 (m + 1) tt = inB e.f0 fr tt := by
        by_cases q : e.f0 ≤ tt
        · rw [inB_of ⟨by omega, q⟩, inB_of ⟨by omega, q⟩]
        · rw [inB_not (by omega), inB_not (by omega)]
      rw [e1, e2]
      simp only [Bool.false_eq_true, if_false]
      omega
theorem per_first {ps : List Per} (h : yearP ps) : ∀ n : Nat, (n : Int) < (ps.length : Int) → (rd_T133 ps 0).f0 ≤ (rd_T133 ps (n : Int)).f0
  | 0, _ => Int.le_refl _
  | n + 1, hn => by
    have ih := per_first h n (by omega)
    have h1 := h.2 (n : Int) (by omega) (by omega)
    have h2 := (h.2 ((n + 1 : Nat) : Int) (by omega) hn).2.2.2 (by omega)
    rw [show ((n + 1 : Nat) : Int) - 1 = (n : Int) by omega] at h2
    rw [h2]
    have := h1.2.2.1
    omega
section
variable {ch : List Acc} {d u : Int} {es : List Ent} {h : Int} {ps : List Per} {cl kp : Int}
theorem moves_at (q : booksB ch d u es h ps cl kp = true) {p : Int} (h0 : 0 ≤ p) (h1 : p < (ps.length : Int)) : movesR ch d u es h ps cl kp p = (mapN ch.length (mvX ch es (rd_T133 ps 0).f0 ((rd_T133 ps p).f0 - 1)), mapN ch.length (fun a => basV a (-1) (-1) (rd_T133 ps p).f0 (rd_T133 ps p).f1 es), mapN ch.length (fun a => mvX ch es (rd_T133 ps 0).f0 ((rd_T133 ps p).f0 - 1) a + basV a (-1) (-1) (rd_T133 ps p).f0 (rd_T133 ps p).f1 es)) := if_pos ⟨q, h0, h1⟩
theorem moves_none (q : booksB ch d u es h ps cl kp = false) (p : Int) : movesR ch d u es h ps cl kp p = ([], [], []) := if_neg (by rw [q]; simp)
theorem moves_len (q : booksB ch d u es h ps cl kp = true) {p : Int} (h0 : 0 ≤ p) (h1 : p < (ps.length : Int)) : (movesR ch d u es h ps cl kp p).1.length = ch.length ∧ (movesR ch d u es h ps cl kp p).2.1.length = ch.length ∧ (movesR ch d u es h ps cl kp p).2.2.length = ch.length := by
  rw [moves_at q h0 h1]
  exact ⟨mapN_len _ _, mapN_len _ _, mapN_len _ _⟩
theorem mvX_b (hf : basesP ch.length es) (a : Nat) (f t : Int) : -6000000000000000 ≤ mvX ch es f t a ∧ mvX ch es f t a ≤ 6000000000000000 := by
  unfold mvX
  have hl := hf.2.2.1
  split
  · have := basV_b (a : Int) (-1) (-1) f t es hf.2.2.2.1; omega
  · have := basV_b (a : Int) (-1) (-1) (-4611686018427387904) t es hf.2.2.2.1; omega
theorem moves_sum (q : booksB ch d u es h ps cl kp = true) {p : Int} (h0 : 0 ≤ p) (h1 : p < (ps.length : Int)) {i : Int} (i0 : 0 ≤ i) (i1 : i < (ch.length : Int)) : wrap64 (rd (movesR ch d u es h ps cl kp p).1 i + rd (movesR ch d u es h ps cl kp p).2.1 i) = rd (movesR ch d u es h ps cl kp p).2.2 i := by
  rw [moves_at q h0 h1]
  simp only []
  rw [mapN_rd i0 i1, mapN_rd i0 i1, mapN_rd i0 i1]
  have hf := (books_fine q).1
  have hb := mvX_b hf i.toNat (rd_T133 ps 0).f0 ((rd_T133 ps p).f0 - 1)
  have hl := hf.2.2.1
  have hv := basV_b (i.toNat : Int) (-1) (-1) (rd_T133 ps p).f0 (rd_T133 ps p).f1 es hf.2.2.2.1
  exact wrin (by omega) (by omega)
theorem moves_join (q : booksB ch d u es h ps cl kp = true) {p : Int} (h0 : 0 ≤ p) (h1 : p + 1 < (ps.length : Int)) : (movesR ch d u es h ps cl kp (p + 1)).1 = (movesR ch d u es h ps cl kp p).2.2 := by
  have hy : yearP ps := (booksB_true.1 q).2.1
  rw [moves_at q h0 (by omega), moves_at q (by omega) h1]
  simp only []
  have hq := hy.2 p h0 (by omega)
  have hn := (hy.2 (p + 1) (by omega) h1).2.2.2 (by omega)
  rw [show p + 1 - 1 = p by omega] at hn
  have hf := per_first hy p.toNat (by omega)
  rw [show ((p.toNat : Nat) : Int) = p by omega] at hf
  refine mapN_congr (fun a ha => ?_)
  rw [hn]
  rw [show (rd_T133 ps p).f1 + 1 - 1 = (rd_T133 ps p).f1 by omega]
  have hs : ∀ fr : Int, fr ≤ (rd_T133 ps p).f0 → basV a (-1) (-1) fr ((rd_T133 ps p).f0 - 1) es + basV a (-1) (-1) (rd_T133 ps p).f0 (rd_T133 ps p).f1 es = basV a (-1) (-1) fr (rd_T133 ps p).f1 es := by
    intro fr hfr
    have := basV_split (a : Int) (-1) (-1) (fr := fr) (m := (rd_T133 ps p).f0 - 1) (tt := (rd_T133 ps p).f1) (by omega) (by have := hq.2.2.1; omega) es
    rw [show (rd_T133 ps p).f0 - 1 + 1 = (rd_T133 ps p).f0 by omega] at this
    exact this
  unfold mvX
  split
  · exact (hs _ hf).symm
  · exact (hs _ (by have := hq.1.1; omega)).symm
end
end Go.Proofs.Ytphmnkcfjgallaa.Q
namespace Go.Proofs.Ytphmnkcfjgallaa.Q
open Go.RowKit Go.Proofs.YtphmnkcfjgallaaW.PrintWords Go.Proofs.YtphmnkcfjgallaaW.PrintLast Go.Proofs.YtphmnkcfjgallaaW.PrintMore
set_option linter.unusedVariables false
set_option linter.unusedSimpArgs false
theorem sameInts_refl (l : List Int) (hl : l.length ≤ 1048576) : ∀ (n k : Nat) (i : Int), 0 ≤ i → i + n = (l.length : Int) → n < k → laws_sameInts.l0 k l l i = some true := by
  intro n
  induction n with
  | zero =>
    intro k i h0 hi hk
    obtain ⟨k, rfl⟩ : ∃ j, k = j + 1 := ⟨k - 1, by omega⟩
    simp only [laws_sameInts.l0]
    rw [if_neg (by omega)]
  | succ n ih =>
    intro k i h0 hi hk
    obtain ⟨k, rfl⟩ : ∃ j, k = j + 1 := ⟨k - 1, by omega⟩
    have e : wrap64 (i + 1) = i + 1 := by unfold wrap64; omega
    simp only [laws_sameInts.l0, e]
    rw [if_pos (by omega), if_pos h0, if_pos (by omega)]
    simp only [if_true]
    exact ih k (i + 1) (by omega) (by omega) (by omega)
theorem sameInts_same (l : List Int) (hl : l.length ≤ 1048576) : laws_sameInts.f (l.length + 1) l l = some true := by
  unfold laws_sameInts.f
  rw [if_pos rfl]
  exact sameInts_refl l hl l.length _ 0 (by omega) (by omega) (by omega)
theorem Three.C {w w' : World} {v0 v1 v2 : Value} {r : List Int × List Int × List Int} (h : Three w w' v0 v1 v2 r) : ∃ A0 c0 A1 c1 A2 c2, v0 = .slice A0 r.1.length c0 ∧ v1 = .slice A1 r.2.1.length c1 ∧ v2 = .slice A2 r.2.2.length c2 ∧ (r.1.length ≤ c0 ∧ r.2.1.length ≤ c1 ∧ r.2.2.length ≤ c2) ∧ Kd.C (Kd.int .i64) w' A0 r.1.length r.1 ∧ Kd.C (Kd.int .i64) w' A1 r.2.1.length r.2.1 ∧ Kd.C (Kd.int .i64) w' A2 r.2.2.length r.2.2 := by
  obtain ⟨a0, b0, a1, b1, a2, b2, _, _, _, _, _, _, _, h0, h1, h2⟩ := h
  obtain ⟨A0, c0, e0, n0, k0⟩ := Kd.R_reads h0
  obtain ⟨A1, c1, e1, n1, k1⟩ := Kd.R_reads h1
  obtain ⟨A2, c2, e2, n2, k2⟩ := Kd.R_reads h2
  exact ⟨A0, c0, A1, c1, A2, c2, e0, e1, e2, ⟨n0, n1, n2⟩, k0, k1, k2⟩
set_option maxHeartbeats 8000000 in
set_option maxRecDepth 100000 in
theorem laws_FnMovesJoined.to {Wf : Int → Prop} (A0 : Option Addr) (c0 : Nat) (l0 : List Int) (w : World) (hr0 : Kd.C (Kd.int .u8) w A0 l0.length l0) (hc0 : l0.length ≤ c0) (hw : l0.length ≤ maxLen ∧ ∀ a ∈ l0, Wf a) :
    Calls Try.prog 5 #[.slice A0 l0.length c0] w fun e w' => e = .returned (.bool true) ∧ Below w.heap.size w w' := by
  have H0 := Aside0.mk hr0
  clear hr0 hw
  go_enter Try.func5, Try.ntmps5
  go_wp2_with fail
  refine (laws_big.calls A0 c0 l0 _ _ H0.out hc0 rfl).mono ?_
  rintro x w1 ⟨rfl, hd⟩
  have HB := Aside0.mk hd.below
  by_cases hbig : (l0.length : Int) > 1048576
  · have hb' : decide ((l0.length : Int) > 1048576) = true := decide_eq_true hbig
    clear hd
    go_wp2_with fail
    go_ret
    exact ⟨rfl, HB.out⟩
  have hb' : decide ((l0.length : Int) > 1048576) = false := decide_eq_false hbig
  replace H0 := Aside0.mk (Kd.C_below H0.out HB.out)
  clear hd
  go_wp2_with fail
  refine (spec_DrawMoves.e _ A0 c0 l0 H0.out hc0 (by omega)).mono ?_
  rintro x w2 ⟨v0, v3, v5, ch, d, u, es, h, ps, cl, kp, at1, rfl, hR0, hS3, hR5, hg, hb⟩
  obtain ⟨A, c, rfl, n0, hC⟩ := Kd.R_reads hR0
  obtain ⟨A1, c1, rfl, n1, hC1⟩ := Kd.S_reads hS3
  obtain ⟨A2, c2, rfl, n2, hC2⟩ := Kd.R_reads hR5
  have HS := Aside0.mk (show ∀ x ∈ ch, x.f0.size ≤ maxLen from fun x hx => Nat.le_trans (hg.1.2 x hx) (by unfold maxLen; omega))
  have HM := Aside0.mk (show ∀ e ∈ es, e.f2.size ≤ maxLen from fun x hx => Nat.le_trans (hg.2.1.2 x hx).1 (by unfold maxLen; omega))
  have hch := hg.1.1
  have hps := hg.2.2
  replace HB := Aside0.mk (below_into (w := w) hb HB.out)
  have K0 := Aside0.mk hC
  have K1 := Aside0.mk hC1
  have K2 := Aside0.mk hC2
  clear hR0 hS3 hR5 hC hC1 hC2 hb H0 hg hb' hbig
  have hb := below_alloc (Below.refl w2.heap.size w2) (Obj.cells #[.slice A ch.length c, .int .i64 d, .int .i64 u, .slice A1 es.length c1, .int .i64 h, .slice A2 ps.length c2, .int .i64 cl, .int .i64 kp] 50)
  have BK := Aside0.mk (blk_new w2 (Obj.cells #[.slice A ch.length c, .int .i64 d, .int .i64 u, .slice A1 es.length c1, .int .i64 h, .slice A2 ps.length c2, .int .i64 cl, .int .i64 kp] 50))
  replace K0 := Aside0.mk (Kd.C_below K0.out hb)
  replace K1 := Aside0.mk (Kd.C_below K1.out hb)
  replace K2 := Aside0.mk (Kd.C_below K2.out hb)
  replace HB := Aside0.mk (below_into (w := w) hb HB.out)
  clear hb
  go_upto_region 4 with fail
  generalize w2.alloc (Obj.cells #[.slice A ch.length c, .int .i64 d, .int .i64 u, .slice A1 es.length c1, .int .i64 h, .slice A2 ps.length c2, .int .i64 cl, .int .i64 kp] 50) = w3 at *
  have y0 := (blk_cell BK.out 0).trans rfl
  have y1 := (blk_cell BK.out 1).trans rfl
  have y2 := (blk_cell BK.out 2).trans rfl
  have y3 := (blk_cell BK.out 3).trans rfl
  have y4 := (blk_cell BK.out 4).trans rfl
  have y5 := (blk_cell BK.out 5).trans rfl
  have y6 := (blk_cell BK.out 6).trans rfl
  have y7 := (blk_cell BK.out 7).trans rfl
  go_wp2_with fail
  refine (spec_BooksOk.to A c ch d u A1 c1 es h A2 c2 ps cl kp _ K0.out HS.out K1.out n1 HM.out K2.out).mono ?_
  rintro x w4 ⟨rfl, hb⟩
  clear y0 y1 y2 y3 y4 y5 y6 y7
  replace K0 := Aside0.mk (Kd.C_below K0.out hb)
  replace K1 := Aside0.mk (Kd.C_below K1.out hb)
  replace K2 := Aside0.mk (Kd.C_below K2.out hb)
  replace BK := Aside0.mk (blk_below BK.out hb)
  replace HB := Aside0.mk (below_into (w := w) hb HB.out)
  clear hb
  have y0 := (blk_cell BK.out 0).trans rfl
  have y1 := (blk_cell BK.out 1).trans rfl
  have y2 := (blk_cell BK.out 2).trans rfl
  have y3 := (blk_cell BK.out 3).trans rfl
  have y4 := (blk_cell BK.out 4).trans rfl
  have y5 := (blk_cell BK.out 5).trans rfl
  have y6 := (blk_cell BK.out 6).trans rfl
  have y7 := (blk_cell BK.out 7).trans rfl
  obtain ⟨M, hM⟩ : ∃ M : Int → List Int × List Int × List Int, M = movesR ch d u es h ps cl kp := ⟨_, rfl⟩
  cases q : booksB ch d u es h ps cl kp with
  | false =>
    have hN : M 0 = ([], [], []) := by rw [hM]; exact moves_none q 0
    clear q
    go_wp2_with fail
    refine (impl_Moves.to A c ch d u A1 c1 es h A2 c2 ps cl kp 0 _ K0.out HS.out K1.out HM.out K2.out).mono ?_
    rintro x w5 ⟨v0, v1, v2, rfl, h3, hb⟩
    rw [← hM] at h3
    obtain ⟨LA0, LC0, LA1, LC1, LA2, LC2, rfl, rfl, rfl, nL, k0, k1, k2⟩ := h3.C
    have L0 := Aside0.mk k0
    have L1 := Aside0.mk k1
    have L2 := Aside0.mk k2
    clear h3 k0 k1 k2
    clear y0 y1 y2 y3 y4 y5 y6 y7
    replace K0 := Aside0.mk (Kd.C_below K0.out hb)
    replace K1 := Aside0.mk (Kd.C_below K1.out hb)
    replace K2 := Aside0.mk (Kd.C_below K2.out hb)
    replace BK := Aside0.mk (blk_below BK.out hb)
    replace HB := Aside0.mk (below_into (w := w) hb HB.out)
    clear hb
    rw [hN]
    clear hM hN
    go_wp2_with fail
    go_ret
    exact ⟨rfl, HB.out⟩
  | true =>
    have hp1 : 1 ≤ ps.length := (books_fine q).2.1.1
    have HL := Aside0.mk (show ∀ p : Int, 0 ≤ p → p < (ps.length : Int) → (M p).1.length = ch.length ∧ (M p).2.1.length = ch.length ∧ (M p).2.2.length = ch.length from fun p h0 h1 => by rw [hM]; exact moves_len q h0 h1)
    have HJ := Aside0.mk (show ∀ p : Int, 0 ≤ p → p + 1 < (ps.length : Int) → (M (p + 1)).1 = (M p).2.2 from fun p h0 h1 => by rw [hM]; exact moves_join q h0 h1)
    have HU := Aside0.mk (show ∀ p : Int, 0 ≤ p → p < (ps.length : Int) → ∀ i : Int, 0 ≤ i → i < (ch.length : Int) → wrap64 (rd (M p).1 i + rd (M p).2.1 i) = rd (M p).2.2 i from fun p h0 h1 i i0 i1 => by rw [hM]; exact moves_sum q h0 h1 i0 i1)
    have HMM := Aside0.mk hM
    clear q hM
    have hM := HMM.out
    go_wp2_with fail
    refine (impl_Moves.to A c ch d u A1 c1 es h A2 c2 ps cl kp 0 _ K0.out HS.out K1.out HM.out K2.out).mono ?_
    rintro x w5 ⟨v0, v1, v2, rfl, h3, hb⟩
    rw [← hM] at h3
    obtain ⟨LA0, LC0, LA1, LC1, LA2, LC2, rfl, rfl, rfl, nL, k0, k1, k2⟩ := h3.C
    have L0 := Aside0.mk k0
    have L1 := Aside0.mk k1
    have L2 := Aside0.mk k2
    clear h3 k0 k1 k2
    clear y0 y1 y2 y3 y4 y5 y6 y7
    replace K0 := Aside0.mk (Kd.C_below K0.out hb)
    replace K1 := Aside0.mk (Kd.C_below K1.out hb)
    replace K2 := Aside0.mk (Kd.C_below K2.out hb)
    replace BK := Aside0.mk (blk_below BK.out hb)
    replace HB := Aside0.mk (below_into (w := w) hb HB.out)
    clear hb
    have hl := (HL.out 0 (by omega) (by omega)).2.2
    rw [hl] at L2
    rw [hl]
    clear hM hl L0 L1
    have y0 := (blk_cell BK.out 0).trans rfl
    go_wp2_with fail
    clear y0
    go_loopg [10, 11] (ps.length - 1) (fun kq v10 v11 W => ∃ (p : Int) (B : Option Addr) (b : Nat), v11 = .int .i64 p ∧ 1 ≤ p ∧ p ≤ (ps.length : Int) ∧ kq + p.toNat = ps.length ∧ v10 = .slice B ch.length b ∧ Aside0 (ch.length ≤ b) ∧ Aside0 (Kd.C (Kd.int .i64) W B ch.length (M (p - 1)).2.2) ∧ Aside0 (Kd.C k131 W A ch.length ch) ∧ Aside0 (Kd.C k34 W A1 es.length es) ∧ Aside0 (Kd.C k133 W A2 ps.length ps) ∧ Aside0 (W.heap[w2.heap.size]? = some (.cells #[.slice A ch.length c, .int .i64 d, .int .i64 u, .slice A1 es.length c1, .int .i64 h, .slice A2 ps.length c2, .int .i64 cl, .int .i64 kp] 50 (0, 0))) ∧ Aside0 (Below w.heap.size w W))
    case atStart => exact ⟨1, LA2, LC2, rfl, by omega, by omega, by omega, rfl, ⟨by have := nL.2.2; have := (HL.out 0 (by omega) (by omega)).2.2; omega⟩, L2, K0, K1, K2, BK, HB⟩
    case round =>
      clear K0 K1 K2 BK HB L2 nL
      obtain ⟨p, B, b, rfl, p1, p2, hk, rfl, HBB, LL, K0, K1, K2, BK, HB⟩ := hrel
      obtain ⟨wo, rfl⟩ : ∃ wo : World, wo = wr := ⟨_, rfl⟩
      have y0 := (blk_cell BK.out 0).trans rfl
      have y1 := (blk_cell BK.out 1).trans rfl
      have y2 := (blk_cell BK.out 2).trans rfl
      have y3 := (blk_cell BK.out 3).trans rfl
      have y4 := (blk_cell BK.out 4).trans rfl
      have y5 := (blk_cell BK.out 5).trans rfl
      have y6 := (blk_cell BK.out 6).trans rfl
      have y7 := (blk_cell BK.out 7).trans rfl
      by_cases hp : p < (ps.length : Int)
      case neg =>
        go_wp2_with fail
        go_ret
        exact ⟨rfl, HB.out⟩
      obtain ⟨k1, rfl⟩ : ∃ k, gk = k + 1 := ⟨gk - 1, by omega⟩
      have hM := HMM.out
      go_wp2_with fail
      refine (impl_Moves.to A c ch d u A1 c1 es h A2 c2 ps cl kp p _ K0.out HS.out K1.out HM.out K2.out).mono ?_
      rintro x w5 ⟨v0, v1, v2, rfl, h3, hb⟩
      rw [← hM] at h3
      obtain ⟨NA0, NC0, NA1, NC1, NA2, NC2, rfl, rfl, rfl, nN, k0, k1, k2⟩ := h3.C
      have N0 := Aside0.mk k0
      have N1 := Aside0.mk k1
      have N2 := Aside0.mk k2
      clear h3 k0 k1 k2
      clear y0 y1 y2 y3 y4 y5 y6 y7
      replace K0 := Aside0.mk (Kd.C_below K0.out hb)
      replace K1 := Aside0.mk (Kd.C_below K1.out hb)
      replace K2 := Aside0.mk (Kd.C_below K2.out hb)
      replace BK := Aside0.mk (blk_below BK.out hb)
      replace HB := Aside0.mk (below_into (w := w) hb HB.out)
      replace LL := Aside0.mk (Kd.C_below LL.out hb)
      clear hb
      have hlm := HL.out p (by omega) hp
      have hE : (M p).1 = (M (p - 1)).2.2 := by have := HJ.out (p - 1) (by omega) (by omega); rw [show p - 1 + 1 = p by omega] at this; exact this
      have hcall := laws_sameInts.calls ((M p).1.length + 1) NA0 NC0 (M p).1 B b (M p).1 true w5 N0.out nN.1 (by rw [hlm.1, hE]; exact LL.out) (by rw [hlm.1]; exact HBB.out) (sameInts_same _ (by rw [hlm.1]; omega))
      have HNB := Aside0.mk (show ch.length ≤ NC2 by rw [← hlm.2.2]; exact nN.2.2)
      rw [hlm.1] at hcall
      have HCALL := Aside0.mk hcall
      rw [hlm.1] at N0
      rw [hlm.2.1] at N1
      rw [hlm.2.2] at N2
      rw [hlm.1, hlm.2.1, hlm.2.2]
      clear nN hM hlm hE hcall
      go_wp2_with fail
      refine HCALL.out.mono ?_
      rintro x w6 ⟨rfl, hd⟩
      have hb := hd.below
      clear hd HCALL LL
      replace K0 := Aside0.mk (Kd.C_below K0.out hb)
      replace K1 := Aside0.mk (Kd.C_below K1.out hb)
      replace K2 := Aside0.mk (Kd.C_below K2.out hb)
      replace BK := Aside0.mk (blk_below BK.out hb)
      replace HB := Aside0.mk (below_into (w := w) hb HB.out)
      replace N0 := Aside0.mk (Kd.C_below N0.out hb)
      replace N1 := Aside0.mk (Kd.C_below N1.out hb)
      replace N2 := Aside0.mk (Kd.C_below N2.out hb)
      clear hb
      go_wp2_with fail
      go_loopg [15] ch.length (fun kq v15 W => ∃ i : Int, v15 = .int .i64 i ∧ 0 ≤ i ∧ i ≤ (ch.length : Int) ∧ kq + i.toNat = ch.length ∧ Aside0 (Kd.C (Kd.int .i64) W NA0 ch.length (M p).1) ∧ Aside0 (Kd.C (Kd.int .i64) W NA1 ch.length (M p).2.1) ∧ Aside0 (Kd.C (Kd.int .i64) W NA2 ch.length (M p).2.2) ∧ Aside0 (Kd.C k131 W A ch.length ch) ∧ Aside0 (Kd.C k34 W A1 es.length es) ∧ Aside0 (Kd.C k133 W A2 ps.length ps) ∧ Aside0 (W.heap[w2.heap.size]? = some (.cells #[.slice A ch.length c, .int .i64 d, .int .i64 u, .slice A1 es.length c1, .int .i64 h, .slice A2 ps.length c2, .int .i64 cl, .int .i64 kp] 50 (0, 0))) ∧ Aside0 (Below w.heap.size w W))
      case atStart => exact ⟨0, rfl, by omega, by omega, by simp, N0, N1, N2, K0, K1, K2, BK, HB⟩
      case round =>
        clear N0 N1 N2 K0 K1 K2 BK HB
        obtain ⟨i, rfl, i0, i1, hki, N0, N1, N2, K0, K1, K2, BK, HB⟩ := hrel
        by_cases hi : i < (ch.length : Int)
        · obtain ⟨k2, rfl⟩ : ∃ k, gk = k + 1 := ⟨gk - 1, by omega⟩
          obtain ⟨ad0, e0, x0⟩ := Kd.at_int N0.out i i0 hi
          obtain ⟨ad1, e1, x1⟩ := Kd.at_int N1.out i i0 hi
          obtain ⟨ad2, e2, x2⟩ := Kd.at_int N2.out i i0 hi
          subst e0 e1 e2
          have hu := HU.out p (by omega) hp i i0 hi
          generalize rd (M p).1 i = ra at x0 hu
          generalize rd (M p).2.1 i = rm at x1 hu
          generalize rd (M p).2.2 i = rb at x2 hu
          have hne1 : (wrap64 (ra + rm) != rb) = false := by rw [hu]; simp
          have hne2 : (IntKind.i64.wrap (ra + rm) != rb) = false := by rw [← i64_w] at hne1; exact hne1
          clear hu
          go_wp2_with fail
          go_quiet (fail)
          go_wp2_with fail
          go_roundg k2
          case rel => exact ⟨i + 1, by go_num, by omega, by omega, by omega, ⟨Kd.C_drewN N0.out _⟩, ⟨Kd.C_drewN N1.out _⟩, ⟨Kd.C_drewN N2.out _⟩, ⟨Kd.C_drewN K0.out _⟩, ⟨Kd.C_drewN K1.out _⟩, ⟨Kd.C_drewN K2.out _⟩, ⟨blk_drewN BK.out _⟩, ⟨pw_below_drewN HB.out _⟩⟩
          case measure => omega
        · go_wp2_with fail
          go_roundg k1
          case rel => exact ⟨p + 1, NA2, NC2, by go_num, by omega, by omega, by omega, rfl, HNB, ⟨by rw [show p + 1 - 1 = p by omega]; exact N2.out⟩, K0, K1, K2, BK, HB⟩
          case measure => omega
end Go.Proofs.Ytphmnkcfjgallaa.Q
