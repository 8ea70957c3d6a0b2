/- Parts of the proof: what functions of the program and of the reference answer.
   No condition. -/
import Derived.Test.YtjnibbkjoclboaaZYearClosed1
namespace Go.Proofs.Ytjnibbkjoclboaa.Q
open Go.RowKit Go.Proofs.YtjnibbkjoclboaaW.PrintWords Go.Proofs.YtjnibbkjoclboaaW.PrintLast Go.Proofs.YtjnibbkjoclboaaW.PrintMore
set_option linter.unusedVariables false
set_option linter.unusedSimpArgs false
def IsS80 (w0 W : World) (g : Nat) (f0 : List Int) (f1 : Int) (f2 : Int) : Prop := ∃ A0 c0, W.heap[g]? = some (.cells #[.slice A0 f0.length c0, .int .i64 f1, .int .i64 f2] 80 (0, 0)) ∧ w0.heap.size ≤ g ∧ Kd.C (Kd.int .u8) w0 A0 f0.length f0
theorem IsS80.grown {w0 W : World} {g : Nat} {f0 : List Int} {f1 : Int} {f2 : Int} {W1 : World} {row : Option Nat} (h : IsS80 w0 W g f0 f1 f2) (hw : W.grownBy W1 row) (hne : some g ≠ row) : IsS80 w0 W1 g f0 f1 f2 := by
  obtain ⟨A0, c0, hb, hg, hr0⟩ := h
  exact ⟨A0, c0, blk_grown hb hw hne, hg, hr0⟩
theorem IsS80.fresh {w0 W : World} {g : Nat} {f0 : List Int} {f1 : Int} {f2 : Int} (h : IsS80 w0 W g f0 f1 f2) : ∀ k, W.heap.size ≤ k → k ≠ g := by
  obtain ⟨A0, c0, hb, hg, hr0⟩ := h
  exact Kd.freshB hb
theorem IsS80.kept {w0 W : World} {g : Nat} {f0 : List Int} {f1 : Int} {f2 : Int} {W1 : World} {S : Nat → Prop} (h : IsS80 w0 W g f0 f1 f2) (hk : Kept W W1 S) (hne : ¬ S g) : IsS80 w0 W1 g f0 f1 f2 := by
  obtain ⟨A0, c0, hb, hg, hr0⟩ := h
  exact ⟨A0, c0, blk_kept hb hk hne, hg, hr0⟩
theorem IsS80.below {w0 W : World} {g : Nat} {f0 : List Int} {f1 : Int} {f2 : Int} {W1 : World} (h : IsS80 w0 W g f0 f1 f2) (hw : Below W.heap.size W W1) : IsS80 w0 W1 g f0 f1 f2 := h.grown (grown_of_below hw none) (by simp)
theorem IsS80.alloc {w0 W : World} {g : Nat} {f0 : List Int} {f1 : Int} {f2 : Int} (h : IsS80 w0 W g f0 f1 f2) (o : Obj) : IsS80 w0 (W.alloc o) g f0 f1 f2 := h.below (below_alloc (Below.refl _ _) o)
theorem IsS80.drewN {w0 W : World} {g : Nat} {f0 : List Int} {f1 : Int} {f2 : Int} (h : IsS80 w0 W g f0 f1 f2) (m : Nat) : IsS80 w0 (W.drewN m) g f0 f1 f2 := h
theorem IsS80.drew {w0 W : World} {g : Nat} {f0 : List Int} {f1 : Int} {f2 : Int} (h : IsS80 w0 W g f0 f1 f2) : IsS80 w0 W.drew g f0 f1 f2 := h
theorem IsS80.at_ {w0 W : World} {g : Nat} {f0 : List Int} {f1 : Int} {f2 : Int} {w' : World} {m : Nat} (hq : W.drewN m = w') (h : IsS80 w0 W g f0 f1 f2) : IsS80 w0 w' g f0 f1 f2 := by subst hq; exact IsS80.drewN h m
theorem IsS80.apart {w0 W : World} {g : Nat} {f0 : List Int} {f1 : Int} {f2 : Int} {α : Type} {d : Kd α} {e : Nat} {base : Nat} {ok : Nat → Prop} {v : Value} {xs : List α} (h : IsS80 w0 W g f0 f1 f2) (ho : d.R e W base ok v xs) (ht : ∀ q, q ∈ e :: d.E → q ≠ 80) : d.R e W base (fun k => ok k ∧ k ≠ g) v xs := by
  obtain ⟨A0, c0, hb, hg, hr0⟩ := h
  exact Kd.R_types ho hb ht
theorem IsS80.own_ne {w0 W : World} {g : Nat} {f0 : List Int} {f1 : Int} {f2 : Int} {α : Type} {d : Kd α} {e : Nat} {base : Nat} {ok : Nat → Prop} {v : Value} {xs : List α} (h : IsS80 w0 W g f0 f1 f2) (ho : d.R e W base ok v xs) (ht : e ≠ 80) : some g ≠ v.ownBlock := by
  obtain ⟨A0, c0, hb, hg, hr0⟩ := h
  exact Kd.R_ne ho hb ht
theorem IsS80.apartS {w0 W : World} {g : Nat} {f0 : List Int} {f1 : Int} {f2 : Int} {α : Type} {d : Kd α} {e : Nat} {base : Nat} {ok : Nat → Prop} {v : Value} {xs : List α} (h : IsS80 w0 W g f0 f1 f2) (ho : d.S e W base ok v xs) (ht : ∀ q, q ∈ e :: d.E → q ≠ 80) : d.S e W base (fun k => ok k ∧ k ≠ g) v xs := by
  obtain ⟨A0, c0, hb, hg, hr0⟩ := h
  exact Kd.S_types ho hb ht
theorem IsS80.own_neS {w0 W : World} {g : Nat} {f0 : List Int} {f1 : Int} {f2 : Int} {α : Type} {d : Kd α} {e : Nat} {base : Nat} {ok : Nat → Prop} {v : Value} {xs : List α} (h : IsS80 w0 W g f0 f1 f2) (ho : d.S e W base ok v xs) (ht : e ≠ 80) : some g ≠ v.ownBlock := by
  obtain ⟨A0, c0, hb, hg, hr0⟩ := h
  exact Kd.S_ne ho hb ht
theorem IsS80.lt {w0 W : World} {g : Nat} {f0 : List Int} {f1 : Int} {f2 : Int} (h : IsS80 w0 W g f0 f1 f2) : g < W.heap.size := by
  obtain ⟨A0, c0, hb, hg, hr0⟩ := h
  exact blk_lt hb
theorem IsS80.ge {w0 W : World} {g : Nat} {f0 : List Int} {f1 : Int} {f2 : Int} (h : IsS80 w0 W g f0 f1 f2) : w0.heap.size ≤ g := by
  obtain ⟨A0, c0, hb, hg, hr0⟩ := h
  exact hg
theorem IsS80.far {w0 W : World} {g : Nat} {f0 : List Int} {f1 : Int} {f2 : Int} {p : Addr} (h : IsS80 w0 W g f0 f1 f2) (hne : g ≠ p.block) (u : Value) : IsS80 w0 (W.setCell p u) g f0 f1 f2 := by
  obtain ⟨A0, c0, hb, hg, hr0⟩ := h
  exact ⟨A0, c0, blk_far hb hne u, hg, hr0⟩
theorem cellS80_0 {W : World} {g : Nat} {A0 : Option Addr} {c0 : Nat} {f0 : List Int} {f1 : Int} {f2 : Int} (h : W.heap[g]? = some (.cells #[.slice A0 f0.length c0, .int .i64 f1, .int .i64 f2] 80 (0, 0))) : W.cell? ⟨g, 0, none⟩ = some (.slice A0 f0.length c0) := (blk_cell h 0).trans rfl
theorem cellS80_1 {W : World} {g : Nat} {A0 : Option Addr} {c0 : Nat} {f0 : List Int} {f1 : Int} {f2 : Int} (h : W.heap[g]? = some (.cells #[.slice A0 f0.length c0, .int .i64 f1, .int .i64 f2] 80 (0, 0))) : W.cell? ⟨g, 1, none⟩ = some (.int .i64 f1) := (blk_cell h 1).trans rfl
theorem IsS80.set_1 {w0 W : World} {g : Nat} {f0 : List Int} {f1 : Int} {f2 : Int} (h : IsS80 w0 W g f0 f1 f2) (x : Int) : IsS80 w0 (W.setCell ⟨g, 1, none⟩ (.int .i64 x)) g f0 x f2 := by
  obtain ⟨A0, c0, hb, hg, hr0⟩ := h
  exact ⟨A0, c0, by simpa using blk_set hb 1 (.int .i64 x), hg, hr0⟩
theorem cellS80_2 {W : World} {g : Nat} {A0 : Option Addr} {c0 : Nat} {f0 : List Int} {f1 : Int} {f2 : Int} (h : W.heap[g]? = some (.cells #[.slice A0 f0.length c0, .int .i64 f1, .int .i64 f2] 80 (0, 0))) : W.cell? ⟨g, 2, none⟩ = some (.int .i64 f2) := (blk_cell h 2).trans rfl
theorem IsS80.set_2 {w0 W : World} {g : Nat} {f0 : List Int} {f1 : Int} {f2 : Int} (h : IsS80 w0 W g f0 f1 f2) (x : Int) : IsS80 w0 (W.setCell ⟨g, 2, none⟩ (.int .i64 x)) g f0 f1 x := by
  obtain ⟨A0, c0, hb, hg, hr0⟩ := h
  exact ⟨A0, c0, by simpa using blk_set hb 2 (.int .i64 x), hg, hr0⟩
noncomputable def spec_l1New.l0 : Nat → List Int → Int → Int → Option (List Int × Int × Int)
  | 0, _, _, _ => none
  | k + 1, x0, x3, x4 => if x4 < (x0.length : Int) then (if x4 < 4000 then (if 0 ≤ x4 then (spec_l1New.l0 k x0 (Go.bits .and .i64 (wrap64 ((wrap64 ((wrap64 (x3 * 131)) + (wrap64 (rd x0 x4)))) + 7)) 1073741823) (wrap64 (x4 + 1))) else (none)) else (some (x0, 0, x3))) else (some (x0, 0, x3))
noncomputable def spec_l1New.f (k : Nat) (l0 : List Int) : Option (List Int × Int × Int) := spec_l1New.l0 k l0 (wrap64 (71933 + (l0.length : Int))) 0
set_option maxHeartbeats 8000000 in
set_option maxRecDepth 100000 in
theorem spec_l1New.calls (k : Nat) (A0 : Option Addr) (c0 : Nat) (l0 : List Int) (r1 : List Int) (r2 : Int) (r3 : Int) (w0 w : World) (hB : Below w0.heap.size w0 w) (hr0 : Kd.C (Kd.int .u8) w0 A0 l0.length l0) (hc0 : l0.length ≤ c0) (h : spec_l1New.f k l0 = some (r1, r2, r3)) :
    Calls Try.prog 12 #[.slice A0 l0.length c0] w fun e w' => ∃ g_ : Nat, e = .returned (.pointer (some ⟨g_, 0, none⟩)) ∧ IsS80 w0 w' g_ r1 r2 r3 ∧ Below w0.heap.size w0 w' ∧ Below w.heap.size w w' := by
  have hu80 := Try.underlying80
  have HR0 := Aside0.mk hr0
  have HC0 := Aside0.mk hc0
  clear hr0 hc0
  have HBW := Aside0.mk (Below.refl w.heap.size w)
  have HW0 := Aside0.mk hB.size
  have HB := Aside0.mk hB
  clear hB
  have H : (spec_l1New.l0 k l0 (wrap64 (71933 + (l0.length : Int))) 0) = some (r1, r2, r3) := h
  clear h
  have H' := Aside0.mk H
  clear H
  go_enter Try.func12, Try.ntmps12
  go_wp2
  go_loopg [3, 4] k (fun kq v3 v4 w' => ∃ (x3_1 : Int) (x4_1 : Int), v3 = .int .i64 x3_1 ∧ v4 = .int .i64 x4_1 ∧ Aside0 (spec_l1New.l0 kq l0 x3_1 x4_1 = some (r1, r2, r3)) ∧ Aside0 (kq ≤ k) ∧ Aside0 (Below w0.heap.size w0 w') ∧ Aside0 (Below w.heap.size w w'))
  case atStart => exact ⟨(wrap64 (71933 + (l0.length : Int))), (0), (by first | rfl | (simp; done) | (simp [*]; done)), (by first | rfl | (simp; done) | (simp [*]; done)), H', ⟨Nat.le_refl _⟩, ⟨by repeat (first | (with_reducible first | exact HB.out | apply below_alloc | apply pw_below_drewN | apply below_drew1) | exact HB.out)⟩, ⟨by repeat (first | (with_reducible first | exact HBW.out | apply below_alloc | apply pw_below_drewN | apply below_drew1) | exact HBW.out)⟩⟩
  case round =>
    clear H'
    try clear c1
    obtain ⟨x3_1, x4_1, rfl, rfl, HA, HK1, HB, HBW⟩ := hrel
    cases gk with
    | zero => exact absurd HA.out (by simp [spec_l1New.l0])
    | succ k1 =>
      have H := HA.out
      clear HA
      simp only [spec_l1New.l0] at H
      by_cases c2 : x4_1 < (l0.length : Int)
      · rw [if_pos c2] at H
        have c2b0 : decide (x4_1 < (l0.length : Int)) = true := decide_eq_true c2
        clear c2
        by_cases c3 : x4_1 < 4000
        · rw [if_pos c3] at H
          have c3b0 : decide (x4_1 < 4000) = true := decide_eq_true c3
          clear c3
          by_cases c4 : 0 ≤ x4_1
          · rw [if_pos c4] at H
            have c4b0 : decide (0 ≤ x4_1) = true := decide_eq_true c4
            clear c4
            have H' := Aside0.mk H
            clear H
            have p13001 : 0 ≤ (x4_1 : Int) := of_decide_eq_true (by first | (with_reducible assumption) | assumption)
            have q13001 : x4_1 < (l0.length : Int) := of_decide_eq_true (by first | (with_reducible assumption) | assumption)
            obtain ⟨ad13001, e13001, hx13001_0⟩ := Kd.at_int HR0.out x4_1 p13001 q13001
            cases e13001
            replace hx13001_0 := pw_cell_below HB.out hx13001_0
            replace p13001 := eq_true p13001
            replace q13001 := eq_true q13001
            go_wp2
            go_roundg k1
            case measure => have := HK1.out; omega
            case rel => exact ⟨(Go.bits .and .i64 (wrap64 ((wrap64 ((wrap64 (x3_1 * 131)) + (wrap64 (rd l0 x4_1)))) + 7)) 1073741823), (wrap64 (x4_1 + 1)), (by first | rfl | (simp; done) | (simp [*]; done)), (by first | rfl | (simp; done) | (simp [*]; done)), H', ⟨by have := HK1.out; omega⟩, ⟨by repeat (first | (with_reducible first | exact HB.out | apply below_alloc | apply pw_below_drewN | apply below_drew1) | exact HB.out)⟩, ⟨by repeat (first | (with_reducible first | exact HBW.out | apply below_alloc | apply pw_below_drewN | apply below_drew1) | exact HBW.out)⟩⟩
          · rw [if_neg c4] at H
            exact absurd H (by simp)
        · rw [if_neg c3] at H
          have c3b0 : decide (x4_1 < 4000) = false := decide_eq_false c3
          clear c3
          simp only [Option.some.injEq, Prod.mk.injEq] at H
          obtain ⟨rfl, rfl, rfl⟩ := H
          go_wp2_with (first | ((with_reducible refine gate_dst (N := 31) rfl ?_); refine box_event ?hg (N := 31) ?hd (cs := #[.slice A0 l0.length c0, .int .i64 0, .int .i64 x3_1]) (t := 80) ?hr ?_; (case hd => rfl); (case hg => rfl); (case hr => first | (go_simp; done) | (go_simp; rfl)); intro gb13002 hg w5 hbox hb; have n0_ := Aside0.mk (below_step HBW.out hb); have n1_ := Aside0.mk (below_step (by repeat (first | (with_reducible first | exact HB.out | apply below_alloc | apply pw_below_drewN | apply below_drew1) | exact HB.out)) hb); have n2_ := Aside0.mk (hbox); have n3_ := Aside0.mk ((by rw [hg]; exact (below_size (by repeat (first | (with_reducible first | exact HBW.out | apply below_alloc | apply pw_below_drewN | apply below_drew1) | exact HBW.out))) : w.heap.size ≤ gb13002)); have n4_ := Aside0.mk ((Nat.le_trans HW0.out (by rw [hg]; exact (below_size (by repeat (first | (with_reducible first | exact HBW.out | apply below_alloc | apply pw_below_drewN | apply below_drew1) | exact HBW.out))) : w.heap.size ≤ gb13002) : w0.heap.size ≤ gb13002)); clear HBW; clear HB; have HBW := n0_; have HB := n1_; have BK13002 := n2_; have GW13002 := n3_; have GE13002 := n4_; clear n0_ n1_ n2_ n3_ n4_; clear hb hbox hg))
          go_ret
          exact ⟨_, rfl, (show IsS80 w0 _ gb13002 l0 0 x3_1 from ⟨_, _, by (with_reducible repeat (first | refine blk_drewN ?_ _ | refine blk_drew ?_ | refine blk_alloc ?_ _)); exact BK13002.out, GE13002.out, HR0.out⟩), by repeat (first | (with_reducible first | exact HB.out | apply below_alloc | apply pw_below_drewN | apply below_drew1 | refine below_set ?_ GE13002.out) | exact HB.out), by repeat (first | (with_reducible first | exact HBW.out | apply below_alloc | apply pw_below_drewN | apply below_drew1 | refine below_set ?_ GW13002.out) | exact HBW.out)⟩
      · rw [if_neg c2] at H
        have c2b0 : decide (x4_1 < (l0.length : Int)) = false := decide_eq_false c2
        clear c2
        simp only [Option.some.injEq, Prod.mk.injEq] at H
        obtain ⟨rfl, rfl, rfl⟩ := H
        go_wp2_with (first | ((with_reducible refine gate_dst (N := 31) rfl ?_); refine box_event ?hg (N := 31) ?hd (cs := #[.slice A0 l0.length c0, .int .i64 0, .int .i64 x3_1]) (t := 80) ?hr ?_; (case hd => rfl); (case hg => rfl); (case hr => first | (go_simp; done) | (go_simp; rfl)); intro gb13003 hg w6 hbox hb; have n0_ := Aside0.mk (below_step HBW.out hb); have n1_ := Aside0.mk (below_step (by repeat (first | (with_reducible first | exact HB.out | apply below_alloc | apply pw_below_drewN | apply below_drew1) | exact HB.out)) hb); have n2_ := Aside0.mk (hbox); have n3_ := Aside0.mk ((by rw [hg]; exact (below_size (by repeat (first | (with_reducible first | exact HBW.out | apply below_alloc | apply pw_below_drewN | apply below_drew1) | exact HBW.out))) : w.heap.size ≤ gb13003)); have n4_ := Aside0.mk ((Nat.le_trans HW0.out (by rw [hg]; exact (below_size (by repeat (first | (with_reducible first | exact HBW.out | apply below_alloc | apply pw_below_drewN | apply below_drew1) | exact HBW.out))) : w.heap.size ≤ gb13003) : w0.heap.size ≤ gb13003)); clear HBW; clear HB; have HBW := n0_; have HB := n1_; have BK13003 := n2_; have GW13003 := n3_; have GE13003 := n4_; clear n0_ n1_ n2_ n3_ n4_; clear hb hbox hg))
        go_ret
        exact ⟨_, rfl, (show IsS80 w0 _ gb13003 l0 0 x3_1 from ⟨_, _, by (with_reducible repeat (first | refine blk_drewN ?_ _ | refine blk_drew ?_ | refine blk_alloc ?_ _)); exact BK13003.out, GE13003.out, HR0.out⟩), by repeat (first | (with_reducible first | exact HB.out | apply below_alloc | apply pw_below_drewN | apply below_drew1 | refine below_set ?_ GE13003.out) | exact HB.out), by repeat (first | (with_reducible first | exact HBW.out | apply below_alloc | apply pw_below_drewN | apply below_drew1 | refine below_set ?_ GW13003.out) | exact HBW.out)⟩
end Go.Proofs.Ytjnibbkjoclboaa.Q
namespace Go.Proofs.Ytjnibbkjoclboaa.Q
open Go.RowKit Go.Proofs.YtjnibbkjoclboaaW.PrintWords Go.Proofs.YtjnibbkjoclboaaW.PrintLast Go.Proofs.YtjnibbkjoclboaaW.PrintMore
attribute [local go_sem] max2_int min2_int max_two min_two max_three min_three max_four min_four   -- for this text's walks alone
set_option linter.unusedVariables false
set_option linter.unusedSimpArgs false
def dig (n : Nat) : ByteArray := (⟨#[48, 49, 50, 51, 52, 53, 54, 55, 56, 57]⟩ : ByteArray).extract n (n + 1)
def decT (n : Nat) : ByteArray := if h : n < 10 then dig n else decT (n / 10) ++ dig (n % 10)
termination_by n
decreasing_by omega
theorem decT_small {n : Nat} (h : n < 10) : decT n = dig n := by rw [decT, dif_pos h]
theorem decT_more {n : Nat} (h : ¬ n < 10) : decT n = decT (n / 10) ++ dig (n % 10) := by rw [decT, dif_neg h]
theorem dig_size (n : Nat) : (dig n).size ≤ 1 := by
  unfold dig
  rw [ByteArray.size_extract]
  omega
theorem decT_size : ∀ n : Nat, (decT n).size ≤ n + 1 := by
  intro n
  induction n using Nat.strongRecOn with
  | _ n ih =>
    by_cases h : n < 10
    · rw [decT_small h]; have := dig_size n; omega
    · rw [decT_more h, ByteArray.size_append]
      have := ih (n / 10) (by omega)
      have := dig_size (n % 10)
      omega
theorem dig_at {a : Int} (h0 : 0 ≤ a) : (⟨#[48, 49, 50, 51, 52, 53, 54, 55, 56, 57]⟩ : ByteArray).extract a.toNat (a + 1).toNat = dig a.toNat := by
  unfold dig
  rw [show (a + 1).toNat = a.toNat + 1 by omega]
set_option maxHeartbeats 1000000 in
set_option maxRecDepth 100000 in
theorem spec_l1Text.to (n : Nat) : ∀ (a : Int) (w : World), 0 ≤ a → a.toNat = n → n ≤ 1000000000000000 → Calls Try.prog 62 #[.int .i64 a] w fun e w' => e = .returned (.string (decT n)) ∧ Drawn0 w w' := by
  induction n using Nat.strongRecOn with
  | _ n ih =>
    intro a w ha han hn
    by_cases h : n < 10
    · have hlt : a < 10 := by omega
      have h0 : decide (0 ≤ a) = true := decide_eq_true ha
      have h1 : decide (a < 10) = true := decide_eq_true hlt
      have h2 : a ≤ a + 1 := by omega
      have h3 : a + 1 ≤ 10 := by omega
      have h4 : decide (a + 1 ≤ 10) = true := decide_eq_true h3
      have h5 : ¬ a < 0 := by omega
      have HD := Aside0.mk (show decT n = (⟨#[48, 49, 50, 51, 52, 53, 54, 55, 56, 57]⟩ : ByteArray).extract a.toNat (a + 1).toNat by rw [dig_at ha, han]; exact decT_small h)
      clear ih h han
      go_enter Try.func62, Try.ntmps62
      go_wp2_with fail
      go_ret
      exact ⟨by rw [HD.out]; rfl, Drawn0.refl _⟩
    · obtain ⟨q, hq⟩ : ∃ q : Int, q = a / 10 := ⟨_, rfl⟩
      obtain ⟨r, hr⟩ : ∃ r : Int, r = a % 10 := ⟨_, rfl⟩
      have HI := Aside0.mk (fun w => ih q.toNat (by omega) q w (by omega) rfl (by omega))
      have hs := decT_size q.toNat
      have hs2 := dig_size r.toNat
      have e1 : IntKind.i64.wrap (a.tdiv 10) = q := by rw [IntKind.wrap_i64, Int.tdiv_eq_ediv_of_nonneg ha]; omega
      have e2 : a.tmod 10 = r := by rw [Int.tmod_eq_emod_of_nonneg ha]; omega
      have r0 : 0 ≤ r := by omega
      have r1 : r ≤ r + 1 := by omega
      have r2 : r + 1 ≤ 10 := by omega
      have e3 : IntKind.i64.wrap (r + 1) = r + 1 := by rw [IntKind.wrap_i64]; omega
      have HD := Aside0.mk (show decT n = decT q.toNat ++ (⟨#[48, 49, 50, 51, 52, 53, 54, 55, 56, 57]⟩ : ByteArray).extract r.toNat (r + 1).toNat by
        rw [dig_at r0, decT_more h, show q.toNat = n / 10 by omega, show r.toNat = n % 10 by omega])
      have h1 : decide (a < 10) = false := decide_eq_false (by omega)
      have h5 : ¬ a < 0 := by omega
      have hsz : (9223372036854775807 < (decT q.toNat).size + ((r + 1).toNat - r.toNat)) = False := eq_false (by omega)
      generalize decT q.toNat = s at *
      clear ih hq hr hs hs2 h han
      go_enter Try.func62, Try.ntmps62
      go_wp2_with fail
      go_quiet ((go_at_call 62; exact Calls.quiet_of ((HI.out _).mono (fun e w' hh => ⟨hh.1, hh.2.out⟩))))
      go_wp2_with fail
      go_ret
      exact ⟨by rw [HD.out]; rfl, ⟨⟨nq, rfl⟩⟩⟩
end Go.Proofs.Ytjnibbkjoclboaa.Q
namespace Go.Proofs.Ytjnibbkjoclboaa.Q
open Go.RowKit Go.Proofs.YtjnibbkjoclboaaW.PrintWords Go.Proofs.YtjnibbkjoclboaaW.PrintLast Go.Proofs.YtjnibbkjoclboaaW.PrintMore
set_option linter.unusedVariables false
set_option linter.unusedSimpArgs false
theorem S_put2 {α : Type} {dd : Kd α} {e base g t : Nat} {W : World} {ok : Nat → Prop} {v : Value} {xs : List α} {cells : Array Value} (h : Kd.S dd e W base ok v xs) (hb : W.heap[g]? = some (.cells cells t (0, 0))) (ht : ∀ q, q ∈ e :: dd.E → q ≠ t) (u0 u1 : Value) : Kd.S dd e ((W.setCell ⟨g, 0, none⟩ u0).setCell ⟨g, 1, none⟩ u1) base ok v xs := by
  refine Kd.S_mono (ok := fun k => ok k ∧ k ≠ g) ?_ (fun _ hk => hk.1)
  refine Kd.S_far ?_ (fun _ hk => hk.2) _
  refine Kd.S_far ?_ (fun _ hk => hk.2) _
  exact Kd.S_types h hb ht
theorem below_put2 {W w : World} {g : Nat} (h : Below w.heap.size w W) (hg : w.heap.size ≤ g) (u0 u1 : Value) : Below w.heap.size w ((W.setCell ⟨g, 0, none⟩ u0).setCell ⟨g, 1, none⟩ u1) := by
  repeat (refine below_set ?_ hg)
  exact h
end Go.Proofs.Ytjnibbkjoclboaa.Q
namespace Go.Proofs.Ytjnibbkjoclboaa.Q
open Go.RowKit Go.Proofs.YtjnibbkjoclboaaW.PrintWords Go.Proofs.YtjnibbkjoclboaaW.PrintLast Go.Proofs.YtjnibbkjoclboaaW.PrintMore
attribute [local go_sem] max2_int min2_int max_two min_two max_three min_three max_four min_four   -- for this text's walks alone
set_option linter.unusedVariables false
set_option linter.unusedSimpArgs false
noncomputable def spec_l2Day.f (a0 : Int) : Option Bool := some (inB a0 (0) 40000)
set_option maxRecDepth 100000 in
theorem spec_l2Day.to (a : Int) (w : World) : Calls Try.prog 48 #[.int .i64 a] w fun e w' => e = .returned (.bool (inB a (0) 40000)) ∧ w' = w := by
  go_enter Try.func48, Try.ntmps48
  go_wp2_with fail
  refine (spec_l1In.to a (0) 40000 _).mono ?_
  rintro e w' ⟨rfl, rfl⟩
  go_wp2_with fail
  go_ret
  exact ⟨rfl, rfl⟩
theorem spec_l2Day.calls (a0 : Int) (r : Bool) (w : World) (h : spec_l2Day.f a0 = some r) :
    Calls Try.prog 48 #[.int .i64 a0] w fun e w' => e = .returned (.bool r) ∧ Drawn0 w w' := by
  obtain rfl := Option.some.inj h
  exact (spec_l2Day.to a0 w).mono fun e w' ⟨he, hw⟩ => ⟨he, hw ▸ Drawn0.refl _⟩
end Go.Proofs.Ytjnibbkjoclboaa.Q
namespace Go.Proofs.Ytjnibbkjoclboaa.Q
open Go.RowKit Go.Proofs.YtjnibbkjoclboaaW.PrintWords Go.Proofs.YtjnibbkjoclboaaW.PrintLast Go.Proofs.YtjnibbkjoclboaaW.PrintMore
attribute [local go_sem] max2_int min2_int max_two min_two max_three min_three max_four min_four   -- for this text's walks alone
set_option linter.unusedVariables false
set_option linter.unusedSimpArgs false
def selL (a d c : Int) (x : Lin) : Bool := (decide (a = -1) || decide (a = x.f0)) && (decide (d = -1) || decide (d = x.f1)) && (decide (c = -1) || decide (c = x.f2))
def amtL (a d c : Int) : List Lin → Int
  | [] => 0
  | x :: l => (if selL a d c x = true then x.f3 else 0) + amtL a d c l
def basL (a d c : Int) : List Lin → Int
  | [] => 0
  | x :: l => (if selL a d c x = true then x.f4 else 0) + basL a d c l
def amtV (a d c fr tt : Int) : List Ent → Int
  | [] => 0
  | e :: l => (if inB e.f0 fr tt = true then amtL a d c e.f3 else 0) + amtV a d c fr tt l
def basV (a d c fr tt : Int) : List Ent → Int
  | [] => 0
  | e :: l => (if inB e.f0 fr tt = true then basL a d c e.f3 else 0) + basV a d c fr tt l
def lineFine (x : Lin) : Prop := (-100000000000 ≤ x.f3 ∧ x.f3 ≤ 100000000000) ∧ (-100000000000 ≤ x.f4 ∧ x.f4 ≤ 100000000000)
def entFine (e : Ent) : Prop := e.f3.length ≤ 60 ∧ ∀ x ∈ e.f3, lineFine x
theorem amtL_b (a d c : Int) (l : List Lin) (h : ∀ x ∈ l, lineFine x) : -100000000000 * (l.length : Int) ≤ amtL a d c l ∧ amtL a d c l ≤ 100000000000 * (l.length : Int) := by
  induction l with
  | nil => simp [amtL]
  | cons x l ih =>
    have h1 := ih (fun y hy => h y (List.mem_cons_of_mem _ hy))
    have h2 := (h x List.mem_cons_self).1
    simp only [amtL, List.length_cons]
    split <;> (push_cast; omega)
theorem basL_b (a d c : Int) (l : List Lin) (h : ∀ x ∈ l, lineFine x) : -100000000000 * (l.length : Int) ≤ basL a d c l ∧ basL a d c l ≤ 100000000000 * (l.length : Int) := by
  induction l with
  | nil => simp [basL]
  | cons x l ih =>
    have h1 := ih (fun y hy => h y (List.mem_cons_of_mem _ hy))
    have h2 := (h x List.mem_cons_self).2
    simp only [basL, List.length_cons]
    split <;> (push_cast; omega)
theorem basV_b (a d c fr tt : Int) (l : List Ent) (h : ∀ e ∈ l, entFine e) : -6000000000000 * (l.length : Int) ≤ basV a d c fr tt l ∧ basV a d c fr tt l ≤ 6000000000000 * (l.length : Int) := by
  induction l with
  | nil => simp [basV]
  | cons x l ih =>
    have h1 := ih (fun y hy => h y (List.mem_cons_of_mem _ hy))
    have h2 := h x List.mem_cons_self
    have h3 := basL_b a d c x.f3 h2.2
    have h4 := h2.1
    simp only [basV, List.length_cons]
    split <;> (push_cast; omega)
theorem drop_at {α : Type} {l : List α} {z : α} {i : Int} (h0 : 0 ≤ i) (h1 : i < (l.length : Int)) : l.drop i.toNat = l.getD i.toNat z :: l.drop (i + 1).toNat := by
  rw [show (i + 1).toNat = i.toNat + 1 by omega, List.drop_eq_getElem_cons (by omega), List.getD_eq_getElem?_getD, List.getElem?_eq_getElem (by omega)]
  rfl
theorem mem_at {α : Type} {l : List α} {z : α} {i : Int} (h0 : 0 ≤ i) (h1 : i < (l.length : Int)) : l.getD i.toNat z ∈ l := by
  rw [List.getD_eq_getElem?_getD, List.getElem?_eq_getElem (by omega)]
  exact List.getElem_mem _
theorem wrin {p : Int} (h0 : -4611686018427387904 ≤ p) (h1 : p ≤ 4611686018427387904) : wrap64 p = p := by unfold wrap64; omega
def mapN (N : Nat) (g : Nat → Int) : List Int := (List.range N).map g
theorem mapN_len (N : Nat) (g : Nat → Int) : (mapN N g).length = N := by unfold mapN; simp
theorem mapN_rd {N : Nat} {g : Nat → Int} {a : Int} (h0 : 0 ≤ a) (h1 : a < (N : Int)) : rd (mapN N g) a = g a.toNat := by
  unfold rd mapN
  rw [List.getD_eq_getElem?_getD, List.getElem?_map, List.getElem?_range (by omega)]
  rfl
theorem mapN_set {N : Nat} {g : Nat → Int} {a : Nat} {v : Int} : (mapN N g).set a v = mapN N (fun j => if j = a then v else g j) := by
  apply List.ext_getElem?
  intro j
  unfold mapN
  rw [List.getElem?_set]
  by_cases hj : j < N
  · rw [List.getElem?_map, List.getElem?_map, List.getElem?_range hj]
    by_cases e : a = j
    · subst e
      simp [hj]
    · rw [if_neg e]
      simp [Ne.symm e]
  · rw [List.getElem?_eq_none (l := List.map _ _) (by simp; omega)]
    split
    · rename_i e
      subst e
      simp [hj]
    · rw [List.getElem?_eq_none (by simp; omega)]
theorem mapN_congr {N : Nat} {f g : Nat → Int} (h : ∀ a, a < N → f a = g a) : mapN N f = mapN N g := by
  unfold mapN
  exact List.map_congr_left (fun a ha => h a (List.mem_range.1 ha))
theorem mapN_zero (N : Nat) : List.replicate N 0 = mapN N (fun _ => 0) := by
  apply List.ext_getElem?
  intro j
  unfold mapN
  rw [List.getElem?_replicate, List.getElem?_map]
  by_cases hj : j < N
  · rw [List.getElem?_range hj, if_pos hj]; rfl
  · rw [List.getElem?_eq_none (by simp; omega), if_neg hj]; rfl
theorem selL_acc {a : Nat} {d : Int} {x : Lin} (h0 : 0 ≤ x.f0) : selL (a : Int) d (-1) x = (decide (a = x.f0.toNat) && (decide (d = -1) || decide (x.f1 = d))) := by
  unfold selL
  have h1 : ¬ ((a : Int) = -1) := by omega
  have h2 : ((a : Int) = x.f0) = (a = x.f0.toNat) := by apply propext; omega
  have h3 : (d = x.f1) = (x.f1 = d) := propext ⟨Eq.symm, Eq.symm⟩
  simp [h1, h2, h3]
def basesP (N : Nat) (es : List Ent) : Prop := 1 ≤ N ∧ N ≤ 1000 ∧ es.length ≤ 1000 ∧ (∀ e ∈ es, entFine e) ∧ (∀ e ∈ es, ∀ x ∈ e.f3, 0 ≤ x.f0 ∧ x.f0 < (N : Int))
end Go.Proofs.Ytjnibbkjoclboaa.Q
namespace Go.Proofs.Ytjnibbkjoclboaa.Q
open Go.RowKit Go.Proofs.YtjnibbkjoclboaaW.PrintWords Go.Proofs.YtjnibbkjoclboaaW.PrintLast Go.Proofs.YtjnibbkjoclboaaW.PrintMore
attribute [local go_sem] max2_int min2_int max_two min_two max_three min_three max_four min_four   -- for this text's walks alone
set_option linter.unusedVariables false
set_option linter.unusedSimpArgs false
set_option maxHeartbeats 4000000 in
set_option maxRecDepth 100000 in
theorem impl_NameOk.to (a0 : ByteArray) (w : World) : Calls Try.prog 70 #[.string a0] w fun e w' => e = .returned (.bool (nameOk a0)) ∧ w' = w := by
  by_cases h1 : 1 ≤ a0.size
  · by_cases h2 : a0.size ≤ 20
    · go_enter Try.func70, Try.ntmps70
      go_wp2_with fail
      go_loop [3] (fun v => ∃ i : Int, 0 ≤ i ∧ i ≤ (a0.size : Int) ∧ v = .int .i64 i ∧ Aside0 (nameUpto a0 i)) (fun v => (a0.size - (intOf v).toNat))
      case atStart => exact ⟨0, by omega, by omega, rfl, ⟨fun j h0 h1 => by omega⟩⟩
      case round =>
        obtain ⟨i, hi0, hi1, rfl, HT⟩ := hrel
        by_cases hlt : i < (a0.size : Int)
        · have hx := bt_at a0 i
          go_wp2_with fail
          refine (impl_nameByte.to (bt a0 i) _).mono ?_
          rintro e w' ⟨rfl, rfl⟩
          cases hb : nameB (bt a0 i) with
          | true =>
            have HB := Aside0.mk hb.symm
            clear hb hx
            go_wp2_with fail
            go_round
            case rel => exact ⟨i + 1, by omega, by omega, rfl, ⟨name_step hi0 HT.out HB.out⟩⟩
            case measure => simp [intOf]; omega
          | false =>
            have HB := Aside0.mk hb.symm
            clear hb hx
            go_wp2_with fail
            go_ret
            exact ⟨ret_bool (nameOk_byte hi0 hlt HB.out), rfl⟩
        · go_wp2_with fail
          go_ret
          exact ⟨ret_bool (nameOk_true h1 h2 (by omega) HT.out), rfl⟩
    · go_enter Try.func70, Try.ntmps70
      go_wp2_with fail
      go_ret
      exact ⟨ret_bool (nameOk_size (by omega)), rfl⟩
  · go_enter Try.func70, Try.ntmps70
    go_wp2_with fail
    go_ret
    exact ⟨ret_bool (nameOk_size (by omega)), rfl⟩
end Go.Proofs.Ytjnibbkjoclboaa.Q
namespace Go.Proofs.Ytjnibbkjoclboaa.Q
open Go.RowKit Go.Proofs.YtjnibbkjoclboaaW.PrintWords Go.Proofs.YtjnibbkjoclboaaW.PrintLast Go.Proofs.YtjnibbkjoclboaaW.PrintMore
attribute [local go_sem] max2_int min2_int max_two min_two max_three min_three max_four min_four   -- for this text's walks alone
set_option linter.unusedVariables false
set_option linter.unusedSimpArgs false
set_option maxRecDepth 100000 in
theorem impl_kindOk.to (a : Int) (w : World) : Calls Try.prog 71 #[.int .i64 a] w fun e w' => e = .returned (.bool (inB a (1) 5)) ∧ w' = w := by
  go_enter Try.func71, Try.ntmps71
  go_wp2_with fail
  refine (impl_between.to a (1) 5 _).mono ?_
  rintro e w' ⟨rfl, rfl⟩
  go_wp2_with fail
  go_ret
  exact ⟨rfl, rfl⟩
end Go.Proofs.Ytjnibbkjoclboaa.Q
namespace Go.Proofs.Ytjnibbkjoclboaa.Q
open Go.RowKit Go.Proofs.YtjnibbkjoclboaaW.PrintWords Go.Proofs.YtjnibbkjoclboaaW.PrintLast Go.Proofs.YtjnibbkjoclboaaW.PrintMore
attribute [local go_sem] max2_int min2_int max_two min_two max_three min_three max_four min_four   -- for this text's walks alone
set_option linter.unusedVariables false
set_option linter.unusedSimpArgs false
set_option maxRecDepth 100000 in
theorem impl_amount.to (a : Int) (w : World) : Calls Try.prog 31 #[.int .i64 a] w fun e w' => e = .returned (.bool (inB a (-100000000000) 100000000000)) ∧ w' = w := by
  go_enter Try.func31, Try.ntmps31
  go_wp2_with fail
  refine (impl_between.to a (-100000000000) 100000000000 _).mono ?_
  rintro e w' ⟨rfl, rfl⟩
  go_wp2_with fail
  go_ret
  exact ⟨rfl, rfl⟩
end Go.Proofs.Ytjnibbkjoclboaa.Q
namespace Go.Proofs.Ytjnibbkjoclboaa.Q
open Go.RowKit Go.Proofs.YtjnibbkjoclboaaW.PrintWords Go.Proofs.YtjnibbkjoclboaaW.PrintLast Go.Proofs.YtjnibbkjoclboaaW.PrintMore
attribute [local go_sem] max2_int min2_int max_two min_two max_three min_three max_four min_four   -- for this text's walks alone
set_option linter.unusedVariables false
set_option linter.unusedSimpArgs false
set_option maxRecDepth 100000 in
theorem impl_isDay.to (a : Int) (w : World) : Calls Try.prog 40 #[.int .i64 a] w fun e w' => e = .returned (.bool (inB a (0) 40000)) ∧ w' = w := by
  go_enter Try.func40, Try.ntmps40
  go_wp2_with fail
  refine (impl_between.to a (0) 40000 _).mono ?_
  rintro e w' ⟨rfl, rfl⟩
  go_wp2_with fail
  go_ret
  exact ⟨rfl, rfl⟩
end Go.Proofs.Ytjnibbkjoclboaa.Q
namespace Go.Proofs.Ytjnibbkjoclboaa.Q
open Go.RowKit Go.Proofs.YtjnibbkjoclboaaW.PrintWords Go.Proofs.YtjnibbkjoclboaaW.PrintLast Go.Proofs.YtjnibbkjoclboaaW.PrintMore
attribute [local go_sem] max2_int min2_int max_two min_two max_three min_three max_four min_four   -- for this text's walks alone
set_option linter.unusedVariables false
set_option linter.unusedSimpArgs false
open Classical in
theorem nameOk_end {s : ByteArray} {i : Int} (hi : (s.size : Int) ≤ i) (h : nameUpto s i) : inB (s.size : Int) 1 20 = nameOk s := by
  unfold nameOk inB
  have : nameUpto s s.size := fun j hj0 hj1 => h j hj0 (by omega)
  rw [Bool.eq_iff_iff]
  simp [this]
  omega
set_option maxHeartbeats 8000000 in
set_option maxRecDepth 100000 in
theorem spec_NameOk.to (a0 : ByteArray) (w : World) (hs : a0.size ≤ 9223372036854775807) : Calls Try.prog 58 #[.string a0] w fun e w' => e = .returned (.bool (nameOk a0)) ∧ w' = w := by
  go_enter Try.func58, Try.ntmps58
  go_wp2_with fail
  go_loop [3] (fun v => ∃ i : Int, 0 ≤ i ∧ i ≤ (a0.size : Int) ∧ v = .int .i64 i ∧ Aside0 (nameUpto a0 i)) (fun v => (a0.size - (intOf v).toNat))
  case atStart => exact ⟨0, by omega, by omega, rfl, ⟨fun j h0 h1 => by omega⟩⟩
  case round =>
    obtain ⟨i, hi0, hi1, rfl, HT⟩ := hrel
    by_cases hlt : i < (a0.size : Int)
    · have hx := bt_at a0 i
      go_wp2_with fail
      all_goals first
        | (go_round
           case rel => exact ⟨i + 1, by omega, by omega, rfl, ⟨name_step hi0 HT.out (by unfold nameB; symm; first | (simp; done) | (simp; omega) | (simp_all; done) | (simp_all; omega))⟩⟩
           case measure => simp [intOf]; omega)
        | (go_ret
           exact ⟨ret_bool (nameOk_byte hi0 hlt (by unfold nameB; symm; first | (simp; done) | (simp; omega) | (simp_all; done) | (simp_all; omega))), rfl⟩)
    · go_wp2_with fail
      refine (spec_l1In.to _ _ _ _).mono ?_
      rintro e w' ⟨rfl, rfl⟩
      go_wp2_with fail
      go_ret
      exact ⟨ret_bool (nameOk_end (by omega) HT.out), rfl⟩
end Go.Proofs.Ytjnibbkjoclboaa.Q
namespace Go.Proofs.Ytjnibbkjoclboaa.Q
open Go.RowKit Go.Proofs.YtjnibbkjoclboaaW.PrintWords Go.Proofs.YtjnibbkjoclboaaW.PrintLast Go.Proofs.YtjnibbkjoclboaaW.PrintMore
attribute [local go_sem] max2_int min2_int max_two min_two max_three min_three max_four min_four   -- for this text's walks alone
set_option linter.unusedVariables false
set_option linter.unusedSimpArgs false
set_option maxRecDepth 100000 in
theorem spec_l1Amount.to (a : Int) (w : World) : Calls Try.prog 46 #[.int .i64 a] w fun e w' => e = .returned (.bool (inB a (-100000000000) 100000000000)) ∧ w' = w := by
  go_enter Try.func46, Try.ntmps46
  go_wp2_with fail
  refine (spec_l1In.to a (-100000000000) 100000000000 _).mono ?_
  rintro e w' ⟨rfl, rfl⟩
  go_wp2_with fail
  go_ret
  exact ⟨rfl, rfl⟩
end Go.Proofs.Ytjnibbkjoclboaa.Q
