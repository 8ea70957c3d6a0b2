/- Parts of the proof: what functions of the program and of the reference answer.
   No condition. -/
import Derived.Test.YtphmnkcfjgallaaWRepsOne
import Derived.Test.YtphmnkcfjgallaaZC1
import Derived.Test.YtphmnkcfjgallaaZC4
import Derived.Test.YtphmnkcfjgallaaZM1
import Derived.Test.YtphmnkcfjgallaaZL3
namespace Go.Proofs.Ytphmnkcfjgallaa.Q
open Go.RowKit Go.Proofs.YtphmnkcfjgallaaW.PrintWords Go.Proofs.YtphmnkcfjgallaaW.PrintLast Go.Proofs.YtphmnkcfjgallaaW.PrintMore
attribute [local go_sem] max2_int min2_int max_two min_two max_three min_three max_four min_four   -- for this text's walks alone
set_option linter.unusedVariables false
set_option linter.unusedSimpArgs false

/-! ### laws_markLineS: function 112 -/
noncomputable def laws_markLineS.l0 : Nat → List (S112) → Int → Int → Option (Int × (List (S112)))
  | 0, _, _, _ => none
  | k + 1, x0, x1, x5 => if x5 < (x0.length : Int) then (if 0 ≤ x5 then ((some (x0.set (x5 : Int).toNat (⟨x1, (rd_T112 x0 x5).f1, (rd_T112 x0 x5).f2, (rd_T112 x0 x5).f3, (rd_T112 x0 x5).f4⟩ : S112) : List (S112))).bind fun y225 => ((some (y225.set (x5 : Int).toNat (⟨(rd_T112 y225 x5).f0, wrap64 (x1 + 1), (rd_T112 y225 x5).f2, (rd_T112 y225 x5).f3, (rd_T112 y225 x5).f4⟩ : S112) : List (S112))).bind fun y226 => ((some (y226.set (x5 : Int).toNat (⟨(rd_T112 y226 x5).f0, (rd_T112 y226 x5).f1, wrap64 ((wrap64 (x1 + 1)) + 1), (rd_T112 y226 x5).f3, (rd_T112 y226 x5).f4⟩ : S112) : List (S112))).bind fun y227 => ((some (y227.set (x5 : Int).toNat (⟨(rd_T112 y227 x5).f0, (rd_T112 y227 x5).f1, (rd_T112 y227 x5).f2, wrap64 ((wrap64 ((wrap64 (x1 + 1)) + 1)) + 1), (rd_T112 y227 x5).f4⟩ : S112) : List (S112))).bind fun y228 => (laws_markLineS.l0 k (y228.set (x5 : Int).toNat (⟨(rd_T112 y228 x5).f0, (rd_T112 y228 x5).f1, (rd_T112 y228 x5).f2, (rd_T112 y228 x5).f3, wrap64 ((wrap64 ((wrap64 ((wrap64 (x1 + 1)) + 1)) + 1)) + 1)⟩ : S112)) (wrap64 ((wrap64 ((wrap64 ((wrap64 ((wrap64 (x1 + 1)) + 1)) + 1)) + 1)) + 1)) (wrap64 (x5 + 1))))))) else (none)) else (some (x1, x0))
noncomputable def laws_markLineS.f (k : Nat) (l0 : List (S112)) (a1 : Int) : Option (Int × (List (S112))) := laws_markLineS.l0 k l0 a1 0
theorem laws_markLineS.mono_l : ∀ k, (∀ y0 y1 y2, LeO (laws_markLineS.l0 k y0 y1 y2) (laws_markLineS.l0 (k + 1) y0 y1 y2))
  | 0 => fun _ _ _ r h => by simp [laws_markLineS.l0] at h
  | k + 1 => by
    have ih0 := laws_markLineS.mono_l k
    · intro y0 y1 y2
      unfold laws_markLineS.l0
      repeat' first
      | (with_reducible exact ih0 _ _ _)
      | (with_reducible exact LeO.refl _)
      | (with_reducible exact LeO.none _)
      | (with_reducible refine LeO.ite ?_ ?_)
      | (with_reducible refine LeO.bind ?_ (fun _ => ?_))
      | exact ih0 _ _ _
      | exact LeO.none _
      | refine LeO.ite ?_ ?_
      | refine LeO.bind ?_ (fun _ => ?_)
theorem laws_markLineS.mono : ∀ a0 a1 k, LeO (laws_markLineS.f k a0 a1) (laws_markLineS.f (k + 1) a0 a1) := by
  intro a0 a1 k
  have ih0 := laws_markLineS.mono_l k
  unfold laws_markLineS.f
  repeat' first
      | (with_reducible exact ih0 _ _ _)
      | (with_reducible exact LeO.refl _)
      | (with_reducible exact LeO.none _)
      | (with_reducible refine LeO.ite ?_ ?_)
      | (with_reducible refine LeO.bind ?_ (fun _ => ?_))
      | exact ih0 _ _ _
      | exact LeO.none _
      | refine LeO.ite ?_ ?_
      | refine LeO.bind ?_ (fun _ => ?_)
set_option maxHeartbeats 8000000 in
set_option maxRecDepth 100000 in
theorem laws_markLineS.calls (k : Nat) (P0_ : Nat → Prop) (u9000_ : Value) (l0 : List (S112)) (a1 : Int) (r1 : Int) (r2 : List (S112)) (w0 w : World) (hB : Below w0.heap.size w0 w) (ho0 : Kd.R k112 112 w w0.heap.size P0_ u9000_ l0) (h : laws_markLineS.f k l0 a1 = some (r1, r2)) :
    Calls Try.prog 112 #[u9000_, .int .i64 a1] w fun e w' => e = .returned (.int .i64 r1) ∧ Kd.R k112 112 w' w0.heap.size (fun k_ => (P0_ k_ ∨ w.heap.size ≤ k_)) u9000_ r2 ∧ Below w0.heap.size w0 w' ∧ Kept w w' (fun k_ => P0_ k_) := by
  have HO0 := Aside0.mk (show Kd.R k112 112 w w0.heap.size (fun k_ => (P0_ k_ ∨ w.heap.size ≤ k_)) u9000_ l0 from Kd.R_mono ho0 (fun k_ hk => (.inl hk)))
  have HK := Aside0.mk (Kept.refl w (fun k_ => P0_ k_))
  have HW0 := Aside0.mk hB.size
  have HB := Aside0.mk hB
  clear hB
  have H : (laws_markLineS.l0 k l0 a1 0) = some (r1, r2) := h
  clear h
  have H' := Aside0.mk H
  clear H
  go_enter Try.func112, Try.ntmps112
  go_wp2
  go_loopg [1, 5] k (fun kq v1 v5 w' => ∃ (x0_1 : List (S112)) (x1_1 : Int) (x5_1 : Int), v1 = .int .i64 x1_1 ∧ v5 = .int .i64 x5_1 ∧ Aside0 (laws_markLineS.l0 kq x0_1 x1_1 x5_1 = some (r1, r2)) ∧ Aside0 (kq ≤ k) ∧ Aside0 (Kd.R k112 112 w' w0.heap.size (fun k_ => (P0_ k_ ∨ w.heap.size ≤ k_)) u9000_ x0_1) ∧ Aside0 (Kept w w' (fun k_ => P0_ k_)) ∧ Aside0 (Below w0.heap.size w0 w'))
  case atStart => exact ⟨(l0), (a1), (0), (by first | rfl | (simp; done) | (simp [*]; done)), (by first | rfl | (simp; done) | (simp [*]; done)), H', ⟨Nat.le_refl _⟩, ⟨by (with_reducible repeat (first | apply Kd.R_alloc | apply Kd.R_drewN | apply Kd.R_drew)); exact HO0.out⟩, ⟨by repeat (first | (with_reducible first | exact HK.out | apply Kept.alloc | apply Kept.drewN | apply Kept.drew) | exact HK.out)⟩, ⟨by repeat (first | (with_reducible first | exact HB.out | apply below_alloc | apply pw_below_drewN | apply below_drew1) | exact HB.out)⟩⟩
  case round =>
    clear H'
    try clear c1
    try clear p2
    obtain ⟨x0_1, x1_1, x5_1, rfl, rfl, HA, HK1, HO_0, HK, HB⟩ := hrel
    cases gk with
    | zero => exact absurd HA.out (by simp [laws_markLineS.l0])
    | succ k1 =>
      have H := HA.out
      clear HA
      simp only [laws_markLineS.l0] at H
      by_cases c3 : x5_1 < (x0_1.length : Int)
      · rw [if_pos c3] at H
        have c3b0 : decide (x5_1 < (x0_1.length : Int)) = true := decide_eq_true c3
        clear c3
        by_cases c4 : 0 ≤ x5_1
        · rw [if_pos c4] at H
          have c4b0 : decide (0 ≤ x5_1) = true := decide_eq_true c4
          clear c4
          obtain ⟨y225, hy225⟩ : ∃ y_ : List (S112), y_ = (x0_1.set (x5_1 : Int).toNat (⟨x1_1, (rd_T112 x0_1 x5_1).f1, (rd_T112 x0_1 x5_1).f2, (rd_T112 x0_1 x5_1).f3, (rd_T112 x0_1 x5_1).f4⟩ : S112)) := ⟨_, rfl⟩
          replace H : ((some (y225.set (x5_1 : Int).toNat (⟨(rd_T112 y225 x5_1).f0, wrap64 (x1_1 + 1), (rd_T112 y225 x5_1).f2, (rd_T112 y225 x5_1).f3, (rd_T112 y225 x5_1).f4⟩ : S112) : List (S112))).bind fun y226 => ((some (y226.set (x5_1 : Int).toNat (⟨(rd_T112 y226 x5_1).f0, (rd_T112 y226 x5_1).f1, wrap64 ((wrap64 (x1_1 + 1)) + 1), (rd_T112 y226 x5_1).f3, (rd_T112 y226 x5_1).f4⟩ : S112) : List (S112))).bind fun y227 => ((some (y227.set (x5_1 : Int).toNat (⟨(rd_T112 y227 x5_1).f0, (rd_T112 y227 x5_1).f1, (rd_T112 y227 x5_1).f2, wrap64 ((wrap64 ((wrap64 (x1_1 + 1)) + 1)) + 1), (rd_T112 y227 x5_1).f4⟩ : S112) : List (S112))).bind fun y228 => (laws_markLineS.l0 k1 (y228.set (x5_1 : Int).toNat (⟨(rd_T112 y228 x5_1).f0, (rd_T112 y228 x5_1).f1, (rd_T112 y228 x5_1).f2, (rd_T112 y228 x5_1).f3, wrap64 ((wrap64 ((wrap64 ((wrap64 (x1_1 + 1)) + 1)) + 1)) + 1)⟩ : S112)) (wrap64 ((wrap64 ((wrap64 ((wrap64 ((wrap64 (x1_1 + 1)) + 1)) + 1)) + 1)) + 1)) (wrap64 (x5_1 + 1)))))) = some (r1, r2) := by first | (rw [hy225]; with_reducible exact H) | (have H2_ := (Option.bind_some _ _).symm.trans H; rw [hy225]; with_reducible exact H2_) | (have H2_ := (Option.bind_some _ _).symm.trans H; with_reducible exact H2_) | with_reducible exact H | (rw [hy225]; exact H) | exact H
          have Ny225 := Aside0.mk hy225
          clear hy225
          obtain ⟨y226, hy226⟩ : ∃ y_ : List (S112), y_ = (y225.set (x5_1 : Int).toNat (⟨(rd_T112 y225 x5_1).f0, wrap64 (x1_1 + 1), (rd_T112 y225 x5_1).f2, (rd_T112 y225 x5_1).f3, (rd_T112 y225 x5_1).f4⟩ : S112)) := ⟨_, rfl⟩
          replace H : ((some (y226.set (x5_1 : Int).toNat (⟨(rd_T112 y226 x5_1).f0, (rd_T112 y226 x5_1).f1, wrap64 ((wrap64 (x1_1 + 1)) + 1), (rd_T112 y226 x5_1).f3, (rd_T112 y226 x5_1).f4⟩ : S112) : List (S112))).bind fun y227 => ((some (y227.set (x5_1 : Int).toNat (⟨(rd_T112 y227 x5_1).f0, (rd_T112 y227 x5_1).f1, (rd_T112 y227 x5_1).f2, wrap64 ((wrap64 ((wrap64 (x1_1 + 1)) + 1)) + 1), (rd_T112 y227 x5_1).f4⟩ : S112) : List (S112))).bind fun y228 => (laws_markLineS.l0 k1 (y228.set (x5_1 : Int).toNat (⟨(rd_T112 y228 x5_1).f0, (rd_T112 y228 x5_1).f1, (rd_T112 y228 x5_1).f2, (rd_T112 y228 x5_1).f3, wrap64 ((wrap64 ((wrap64 ((wrap64 (x1_1 + 1)) + 1)) + 1)) + 1)⟩ : S112)) (wrap64 ((wrap64 ((wrap64 ((wrap64 ((wrap64 (x1_1 + 1)) + 1)) + 1)) + 1)) + 1)) (wrap64 (x5_1 + 1))))) = some (r1, r2) := by first | (rw [hy226]; with_reducible exact H) | (have H2_ := (Option.bind_some _ _).symm.trans H; rw [hy226]; with_reducible exact H2_) | (have H2_ := (Option.bind_some _ _).symm.trans H; with_reducible exact H2_) | with_reducible exact H | (rw [hy226]; exact H) | exact H
          have Ny226 := Aside0.mk hy226
          clear hy226
          obtain ⟨y227, hy227⟩ : ∃ y_ : List (S112), y_ = (y226.set (x5_1 : Int).toNat (⟨(rd_T112 y226 x5_1).f0, (rd_T112 y226 x5_1).f1, wrap64 ((wrap64 (x1_1 + 1)) + 1), (rd_T112 y226 x5_1).f3, (rd_T112 y226 x5_1).f4⟩ : S112)) := ⟨_, rfl⟩
          replace H : ((some (y227.set (x5_1 : Int).toNat (⟨(rd_T112 y227 x5_1).f0, (rd_T112 y227 x5_1).f1, (rd_T112 y227 x5_1).f2, wrap64 ((wrap64 ((wrap64 (x1_1 + 1)) + 1)) + 1), (rd_T112 y227 x5_1).f4⟩ : S112) : List (S112))).bind fun y228 => (laws_markLineS.l0 k1 (y228.set (x5_1 : Int).toNat (⟨(rd_T112 y228 x5_1).f0, (rd_T112 y228 x5_1).f1, (rd_T112 y228 x5_1).f2, (rd_T112 y228 x5_1).f3, wrap64 ((wrap64 ((wrap64 ((wrap64 (x1_1 + 1)) + 1)) + 1)) + 1)⟩ : S112)) (wrap64 ((wrap64 ((wrap64 ((wrap64 ((wrap64 (x1_1 + 1)) + 1)) + 1)) + 1)) + 1)) (wrap64 (x5_1 + 1)))) = some (r1, r2) := by first | (rw [hy227]; with_reducible exact H) | (have H2_ := (Option.bind_some _ _).symm.trans H; rw [hy227]; with_reducible exact H2_) | (have H2_ := (Option.bind_some _ _).symm.trans H; with_reducible exact H2_) | with_reducible exact H | (rw [hy227]; exact H) | exact H
          have Ny227 := Aside0.mk hy227
          clear hy227
          obtain ⟨y228, hy228⟩ : ∃ y_ : List (S112), y_ = (y227.set (x5_1 : Int).toNat (⟨(rd_T112 y227 x5_1).f0, (rd_T112 y227 x5_1).f1, (rd_T112 y227 x5_1).f2, wrap64 ((wrap64 ((wrap64 (x1_1 + 1)) + 1)) + 1), (rd_T112 y227 x5_1).f4⟩ : S112)) := ⟨_, rfl⟩
          replace H : (laws_markLineS.l0 k1 (y228.set (x5_1 : Int).toNat (⟨(rd_T112 y228 x5_1).f0, (rd_T112 y228 x5_1).f1, (rd_T112 y228 x5_1).f2, (rd_T112 y228 x5_1).f3, wrap64 ((wrap64 ((wrap64 ((wrap64 (x1_1 + 1)) + 1)) + 1)) + 1)⟩ : S112)) (wrap64 ((wrap64 ((wrap64 ((wrap64 ((wrap64 (x1_1 + 1)) + 1)) + 1)) + 1)) + 1)) (wrap64 (x5_1 + 1))) = some (r1, r2) := by first | (rw [hy228]; with_reducible exact H) | (have H2_ := (Option.bind_some _ _).symm.trans H; rw [hy228]; with_reducible exact H2_) | (have H2_ := (Option.bind_some _ _).symm.trans H; with_reducible exact H2_) | with_reducible exact H | (rw [hy228]; exact H) | exact H
          have Ny228 := Aside0.mk hy228
          clear hy228
          obtain ⟨y229, hy229⟩ : ∃ y_ : List (S112), y_ = (y228.set (x5_1 : Int).toNat (⟨(rd_T112 y228 x5_1).f0, (rd_T112 y228 x5_1).f1, (rd_T112 y228 x5_1).f2, (rd_T112 y228 x5_1).f3, wrap64 ((wrap64 ((wrap64 ((wrap64 (x1_1 + 1)) + 1)) + 1)) + 1)⟩ : S112)) := ⟨_, rfl⟩
          replace H : (laws_markLineS.l0 k1 y229 (wrap64 ((wrap64 ((wrap64 ((wrap64 ((wrap64 (x1_1 + 1)) + 1)) + 1)) + 1)) + 1)) (wrap64 (x5_1 + 1))) = some (r1, r2) := by first | (rw [hy229]; with_reducible exact H) | (have H2_ := (Option.bind_some _ _).symm.trans H; rw [hy229]; with_reducible exact H2_) | (have H2_ := (Option.bind_some _ _).symm.trans H; with_reducible exact H2_) | with_reducible exact H | (rw [hy229]; exact H) | exact H
          have Ny229 := Aside0.mk hy229
          clear hy229
          have H' := Aside0.mk H
          clear H
          obtain ⟨Ao10, co10, eo10⟩ := Kd.R_slice HO_0.out
          subst eo10
          have p5 : 0 ≤ (x5_1 : Int) := of_decide_eq_true (by first | (with_reducible assumption) | assumption)
          have q5 : (x5_1 : Int) < ((x0_1.length : Int) : Int) := of_decide_eq_true (by first | (with_reducible assumption) | assumption)
          obtain ⟨go5, co5, eo5, gb5, gl5, cl5, HG5⟩ := Kd.R_form HO_0.out (by omega)
          (first | cases eo5 | (injection eo5 with ea_ en_ ec_; (first | subst ea_ | (injection ea_ with ea_; subst ea_)); subst ec_; clear en_))
          have GB5 := Aside0.mk gb5
          have GG5 := Aside0.mk HG5
          clear gb5 gl5 HG5
          have HMgo5 := Aside0.mk (show (P0_ go5 ∨ w.heap.size ≤ go5) from (HO_0.out.1 _ rfl))
          obtain ⟨ce5, hcl5, hM5, hcc5, hfr5⟩ := Kd.R_elem HO_0.out z112 (x5_1 : Int) p5 q5
          obtain rfl := k112_openM hM5
          have hx5_0 : wr.cell? ⟨go5, (x5_1 : Int).toNat * 5, none⟩ = some (.int .i64 ((rd_T112 x0_1 x5_1).f0)) := hcc5 0 _ rfl
          have hx5_1 : wr.cell? ⟨go5, (x5_1 : Int).toNat * 5 + 1, none⟩ = some (.int .i64 ((rd_T112 x0_1 x5_1).f1)) := hcc5 1 _ rfl
          have hx5_2 : wr.cell? ⟨go5, (x5_1 : Int).toNat * 5 + 2, none⟩ = some (.int .i64 ((rd_T112 x0_1 x5_1).f2)) := hcc5 2 _ rfl
          have hx5_3 : wr.cell? ⟨go5, (x5_1 : Int).toNat * 5 + 3, none⟩ = some (.int .i64 ((rd_T112 x0_1 x5_1).f3)) := hcc5 3 _ rfl
          have hx5_4 : wr.cell? ⟨go5, (x5_1 : Int).toNat * 5 + 4, none⟩ = some (.int .i64 ((rd_T112 x0_1 x5_1).f4)) := hcc5 4 _ rfl
          have hf5_0 : wr.frozen? ⟨go5, (x5_1 : Int).toNat * 5, none⟩ = false := hfr5 0
          have hf5_1 : wr.frozen? ⟨go5, (x5_1 : Int).toNat * 5 + 1, none⟩ = false := hfr5 1
          have hf5_2 : wr.frozen? ⟨go5, (x5_1 : Int).toNat * 5 + 2, none⟩ = false := hfr5 2
          have hf5_3 : wr.frozen? ⟨go5, (x5_1 : Int).toNat * 5 + 3, none⟩ = false := hfr5 3
          have hf5_4 : wr.frozen? ⟨go5, (x5_1 : Int).toNat * 5 + 4, none⟩ = false := hfr5 4
          clear hcl5 hcc5 hfr5 hM5
          replace p5 := eq_true p5
          replace q5 := eq_true q5
          have HX11 := Aside0.mk (show Kd.R k112 112 wr w0.heap.size (fun k_ => (P0_ k_ ∨ w.heap.size ≤ k_)) (.slice (some ⟨go5, 0, none⟩) x0_1.length co10) x0_1 from (by (with_reducible repeat (first | apply Kd.R_alloc | apply Kd.R_drewN | apply Kd.R_drew)); exact HO_0.out))
          obtain ⟨ce11, hcl11, hM11, hcc11, hfr11⟩ := Kd.R_elem HX11.out z112 (x5_1 : Int) (of_decide_eq_true (by first | (with_reducible assumption) | assumption)) (by have h_ : (x5_1 : Int) < ((x0_1.length : Int) : Int) := of_decide_eq_true (by first | (with_reducible assumption) | assumption); first | exact h_ | (have e_ := (Kd.R_reads' HO_0.out).1; omega) | simpa using h_)
          obtain rfl := k112_openM hM11
          have HP11 := Kd.R_seg HX11.out (x5_1 : Int) (of_decide_eq_true (by first | (with_reducible assumption) | assumption)) (by have h_ : (x5_1 : Int) < ((x0_1.length : Int) : Int) := of_decide_eq_true (by first | (with_reducible assumption) | assumption); first | exact h_ | (have e_ := (Kd.R_reads' HO_0.out).1; omega) | simpa using h_) (seg := [.int .i64 x1_1]) (j := 0) hcl11 hcc11 (show 1 ≤ 5 from by decide) (x' := (⟨x1_1, (rd_T112 x0_1 x5_1).f1, (rd_T112 x0_1 x5_1).f2, (rd_T112 x0_1 x5_1).f3, (rd_T112 x0_1 x5_1).f4⟩ : S112)) (k112_mkM _ _ _ (⟨x1_1, (rd_T112 x0_1 x5_1).f1, (rd_T112 x0_1 x5_1).f2, (rd_T112 x0_1 x5_1).f3, (rd_T112 x0_1 x5_1).f4⟩ : S112) ) (fun _ hk => hk)
          have hx11_0 := hcc11 0 _ rfl
          (try simp only [show (k112).sz = 5 from rfl, Nat.mul_one, Nat.add_zero] at hx11_0)
          have hf11_0 := hfr11 0
          (try simp only [show (k112).sz = 5 from rfl, Nat.mul_one, Nat.add_zero] at hf11_0)
          clear hcl11 hcc11 hfr11 hM11
          go_wp2_with (first | ((with_reducible refine gate_store (t := 3) (p := 16) rfl ?_); refine store_event (t := 3) (p := 16) (v := ?vo_w12) (w1 := (wr.setCell ⟨go5, (x5_1 : Int).toNat * 5, none⟩ (.int .i64 x1_1))) ?hg ?ho ?hn ?hr ?_; (case ho => rfl); (case hg => rfl); (case hn => rfl); (case hr => first | (go_simp; done) | (go_simp; rfl)); intro w12 hw; have hg : wr.grownBy w12 (some go5) := (by rw [hw]; exact HP11.2); have hp_ : Kd.R k112 112 w12 w0.heap.size (fun k_ => (P0_ k_ ∨ w.heap.size ≤ k_)) (.slice (some ⟨go5, 0, none⟩) x0_1.length co10) y225 := (by rw [hw, Ny225.out]; exact HP11.1); clear HP11; have n0_ := Aside0.mk (hp_); have n1_ := Aside0.mk ((by rw [hw]; exact below_set (HB.out) GB5.out : Below w0.heap.size w0 w12)); have n2_ := Aside0.mk (Kept.of_grown (S := (fun k_ => P0_ k_)) hg (by repeat (first | (with_reducible first | exact HK.out | apply Kept.alloc | apply Kept.drewN | apply Kept.drew) | exact HK.out)) (fun k_ e_ => (HO_0.out.1 k_ e_))); clear HO_0; clear HB; clear HK; have HO_0 := n0_; have HB := n1_; have HK := n2_; clear n0_ n1_ n2_; clear hg hw hp_; have p6 : 0 ≤ (x5_1 : Int) := of_decide_eq_true (by first | (with_reducible assumption) | assumption); have q6 : (x5_1 : Int) < ((x0_1.length : Int) : Int) := of_decide_eq_true (by first | (with_reducible assumption) | assumption); obtain ⟨ce6, hcl6, hM6, hcc6, hfr6⟩ := Kd.R_elem HO_0.out z112 (x5_1 : Int) p6 q6; obtain rfl := k112_openM hM6; have hx6_0 : w12.cell? ⟨go5, (x5_1 : Int).toNat * 5, none⟩ = some (.int .i64 ((rd_T112 y225 x5_1).f0)) := hcc6 0 _ rfl; have hx6_1 : w12.cell? ⟨go5, (x5_1 : Int).toNat * 5 + 1, none⟩ = some (.int .i64 ((rd_T112 y225 x5_1).f1)) := hcc6 1 _ rfl; have hx6_2 : w12.cell? ⟨go5, (x5_1 : Int).toNat * 5 + 2, none⟩ = some (.int .i64 ((rd_T112 y225 x5_1).f2)) := hcc6 2 _ rfl; have hx6_3 : w12.cell? ⟨go5, (x5_1 : Int).toNat * 5 + 3, none⟩ = some (.int .i64 ((rd_T112 y225 x5_1).f3)) := hcc6 3 _ rfl; have hx6_4 : w12.cell? ⟨go5, (x5_1 : Int).toNat * 5 + 4, none⟩ = some (.int .i64 ((rd_T112 y225 x5_1).f4)) := hcc6 4 _ rfl; have hf6_0 : w12.frozen? ⟨go5, (x5_1 : Int).toNat * 5, none⟩ = false := hfr6 0; have hf6_1 : w12.frozen? ⟨go5, (x5_1 : Int).toNat * 5 + 1, none⟩ = false := hfr6 1; have hf6_2 : w12.frozen? ⟨go5, (x5_1 : Int).toNat * 5 + 2, none⟩ = false := hfr6 2; have hf6_3 : w12.frozen? ⟨go5, (x5_1 : Int).toNat * 5 + 3, none⟩ = false := hfr6 3; have hf6_4 : w12.frozen? ⟨go5, (x5_1 : Int).toNat * 5 + 4, none⟩ = false := hfr6 4; clear hcl6 hcc6 hfr6 hM6; replace p6 := eq_true p6; replace q6 := eq_true q6; have HX13 := Aside0.mk (show Kd.R k112 112 w12 w0.heap.size (fun k_ => (P0_ k_ ∨ w.heap.size ≤ k_)) (.slice (some ⟨go5, 0, none⟩) x0_1.length co10) y225 from (by (with_reducible repeat (first | apply Kd.R_alloc | apply Kd.R_drewN | apply Kd.R_drew)); exact HO_0.out)); obtain ⟨ce13, hcl13, hM13, hcc13, hfr13⟩ := Kd.R_elem HX13.out z112 (x5_1 : Int) (of_decide_eq_true (by first | (with_reducible assumption) | assumption)) (by have h_ : (x5_1 : Int) < ((x0_1.length : Int) : Int) := of_decide_eq_true (by first | (with_reducible assumption) | assumption); first | exact h_ | (have e_ := (Kd.R_reads' HO_0.out).1; omega) | simpa using h_); obtain rfl := k112_openM hM13; have HP13 := Kd.R_seg HX13.out (x5_1 : Int) (of_decide_eq_true (by first | (with_reducible assumption) | assumption)) (by have h_ : (x5_1 : Int) < ((x0_1.length : Int) : Int) := of_decide_eq_true (by first | (with_reducible assumption) | assumption); first | exact h_ | (have e_ := (Kd.R_reads' HO_0.out).1; omega) | simpa using h_) (seg := [.int .i64 (wrap64 (x1_1 + 1))]) (j := 1) hcl13 hcc13 (show 2 ≤ 5 from by decide) (x' := (⟨(rd_T112 y225 x5_1).f0, wrap64 (x1_1 + 1), (rd_T112 y225 x5_1).f2, (rd_T112 y225 x5_1).f3, (rd_T112 y225 x5_1).f4⟩ : S112)) (k112_mkM _ _ _ (⟨(rd_T112 y225 x5_1).f0, wrap64 (x1_1 + 1), (rd_T112 y225 x5_1).f2, (rd_T112 y225 x5_1).f3, (rd_T112 y225 x5_1).f4⟩ : S112) ) (fun _ hk => hk); have hx13_1 := hcc13 1 _ rfl; (try simp only [show (k112).sz = 5 from rfl, Nat.mul_one, Nat.add_zero] at hx13_1); have hf13_1 := hfr13 1; (try simp only [show (k112).sz = 5 from rfl, Nat.mul_one, Nat.add_zero] at hf13_1); clear hcl13 hcc13 hfr13 hM13) | ((with_reducible refine gate_store (t := 3) (p := 23) rfl ?_); refine store_event (t := 3) (p := 23) (v := ?vo_w14) (w1 := (w12.setCell ⟨go5, (x5_1 : Int).toNat * 5 + 1, none⟩ (.int .i64 (wrap64 (x1_1 + 1))))) ?hg ?ho ?hn ?hr ?_; (case ho => rfl); (case hg => rfl); (case hn => rfl); (case hr => first | (go_simp; done) | (go_simp; rfl)); intro w14 hw; have hg : w12.grownBy w14 (some go5) := (by rw [hw]; exact HP13.2); have hp_ : Kd.R k112 112 w14 w0.heap.size (fun k_ => (P0_ k_ ∨ w.heap.size ≤ k_)) (.slice (some ⟨go5, 0, none⟩) x0_1.length co10) y226 := (by rw [hw, Ny226.out]; exact HP13.1); clear HP13; have n0_ := Aside0.mk (hp_); have n1_ := Aside0.mk ((by rw [hw]; exact below_set (HB.out) GB5.out : Below w0.heap.size w0 w14)); have n2_ := Aside0.mk (Kept.of_grown (S := (fun k_ => P0_ k_)) hg (by repeat (first | (with_reducible first | exact HK.out | apply Kept.alloc | apply Kept.drewN | apply Kept.drew) | exact HK.out)) (fun k_ e_ => (HO_0.out.1 k_ e_))); clear HO_0; clear HB; clear HK; have HO_0 := n0_; have HB := n1_; have HK := n2_; clear n0_ n1_ n2_; clear hg hw hp_; have p7 : 0 ≤ (x5_1 : Int) := of_decide_eq_true (by first | (with_reducible assumption) | assumption); have q7 : (x5_1 : Int) < ((x0_1.length : Int) : Int) := of_decide_eq_true (by first | (with_reducible assumption) | assumption); obtain ⟨ce7, hcl7, hM7, hcc7, hfr7⟩ := Kd.R_elem HO_0.out z112 (x5_1 : Int) p7 q7; obtain rfl := k112_openM hM7; have hx7_0 : w14.cell? ⟨go5, (x5_1 : Int).toNat * 5, none⟩ = some (.int .i64 ((rd_T112 y226 x5_1).f0)) := hcc7 0 _ rfl; have hx7_1 : w14.cell? ⟨go5, (x5_1 : Int).toNat * 5 + 1, none⟩ = some (.int .i64 ((rd_T112 y226 x5_1).f1)) := hcc7 1 _ rfl; have hx7_2 : w14.cell? ⟨go5, (x5_1 : Int).toNat * 5 + 2, none⟩ = some (.int .i64 ((rd_T112 y226 x5_1).f2)) := hcc7 2 _ rfl; have hx7_3 : w14.cell? ⟨go5, (x5_1 : Int).toNat * 5 + 3, none⟩ = some (.int .i64 ((rd_T112 y226 x5_1).f3)) := hcc7 3 _ rfl; have hx7_4 : w14.cell? ⟨go5, (x5_1 : Int).toNat * 5 + 4, none⟩ = some (.int .i64 ((rd_T112 y226 x5_1).f4)) := hcc7 4 _ rfl; have hf7_0 : w14.frozen? ⟨go5, (x5_1 : Int).toNat * 5, none⟩ = false := hfr7 0; have hf7_1 : w14.frozen? ⟨go5, (x5_1 : Int).toNat * 5 + 1, none⟩ = false := hfr7 1; have hf7_2 : w14.frozen? ⟨go5, (x5_1 : Int).toNat * 5 + 2, none⟩ = false := hfr7 2; have hf7_3 : w14.frozen? ⟨go5, (x5_1 : Int).toNat * 5 + 3, none⟩ = false := hfr7 3; have hf7_4 : w14.frozen? ⟨go5, (x5_1 : Int).toNat * 5 + 4, none⟩ = false := hfr7 4; clear hcl7 hcc7 hfr7 hM7; replace p7 := eq_true p7; replace q7 := eq_true q7; have HX15 := Aside0.mk (show Kd.R k112 112 w14 w0.heap.size (fun k_ => (P0_ k_ ∨ w.heap.size ≤ k_)) (.slice (some ⟨go5, 0, none⟩) x0_1.length co10) y226 from (by (with_reducible repeat (first | apply Kd.R_alloc | apply Kd.R_drewN | apply Kd.R_drew)); exact HO_0.out)); obtain ⟨ce15, hcl15, hM15, hcc15, hfr15⟩ := Kd.R_elem HX15.out z112 (x5_1 : Int) (of_decide_eq_true (by first | (with_reducible assumption) | assumption)) (by have h_ : (x5_1 : Int) < ((x0_1.length : Int) : Int) := of_decide_eq_true (by first | (with_reducible assumption) | assumption); first | exact h_ | (have e_ := (Kd.R_reads' HO_0.out).1; omega) | simpa using h_); obtain rfl := k112_openM hM15; have HP15 := Kd.R_seg HX15.out (x5_1 : Int) (of_decide_eq_true (by first | (with_reducible assumption) | assumption)) (by have h_ : (x5_1 : Int) < ((x0_1.length : Int) : Int) := of_decide_eq_true (by first | (with_reducible assumption) | assumption); first | exact h_ | (have e_ := (Kd.R_reads' HO_0.out).1; omega) | simpa using h_) (seg := [.int .i64 (wrap64 ((wrap64 (x1_1 + 1)) + 1))]) (j := 2) hcl15 hcc15 (show 3 ≤ 5 from by decide) (x' := (⟨(rd_T112 y226 x5_1).f0, (rd_T112 y226 x5_1).f1, wrap64 ((wrap64 (x1_1 + 1)) + 1), (rd_T112 y226 x5_1).f3, (rd_T112 y226 x5_1).f4⟩ : S112)) (k112_mkM _ _ _ (⟨(rd_T112 y226 x5_1).f0, (rd_T112 y226 x5_1).f1, wrap64 ((wrap64 (x1_1 + 1)) + 1), (rd_T112 y226 x5_1).f3, (rd_T112 y226 x5_1).f4⟩ : S112) ) (fun _ hk => hk); have hx15_2 := hcc15 2 _ rfl; (try simp only [show (k112).sz = 5 from rfl, Nat.mul_one, Nat.add_zero] at hx15_2); have hf15_2 := hfr15 2; (try simp only [show (k112).sz = 5 from rfl, Nat.mul_one, Nat.add_zero] at hf15_2); clear hcl15 hcc15 hfr15 hM15) | ((with_reducible refine gate_store (t := 3) (p := 30) rfl ?_); refine store_event (t := 3) (p := 30) (v := ?vo_w16) (w1 := (w14.setCell ⟨go5, (x5_1 : Int).toNat * 5 + 2, none⟩ (.int .i64 (wrap64 ((wrap64 (x1_1 + 1)) + 1))))) ?hg ?ho ?hn ?hr ?_; (case ho => rfl); (case hg => rfl); (case hn => rfl); (case hr => first | (go_simp; done) | (go_simp; rfl)); intro w16 hw; have hg : w14.grownBy w16 (some go5) := (by rw [hw]; exact HP15.2); have hp_ : Kd.R k112 112 w16 w0.heap.size (fun k_ => (P0_ k_ ∨ w.heap.size ≤ k_)) (.slice (some ⟨go5, 0, none⟩) x0_1.length co10) y227 := (by rw [hw, Ny227.out]; exact HP15.1); clear HP15; have n0_ := Aside0.mk (hp_); have n1_ := Aside0.mk ((by rw [hw]; exact below_set (HB.out) GB5.out : Below w0.heap.size w0 w16)); have n2_ := Aside0.mk (Kept.of_grown (S := (fun k_ => P0_ k_)) hg (by repeat (first | (with_reducible first | exact HK.out | apply Kept.alloc | apply Kept.drewN | apply Kept.drew) | exact HK.out)) (fun k_ e_ => (HO_0.out.1 k_ e_))); clear HO_0; clear HB; clear HK; have HO_0 := n0_; have HB := n1_; have HK := n2_; clear n0_ n1_ n2_; clear hg hw hp_; have p8 : 0 ≤ (x5_1 : Int) := of_decide_eq_true (by first | (with_reducible assumption) | assumption); have q8 : (x5_1 : Int) < ((x0_1.length : Int) : Int) := of_decide_eq_true (by first | (with_reducible assumption) | assumption); obtain ⟨ce8, hcl8, hM8, hcc8, hfr8⟩ := Kd.R_elem HO_0.out z112 (x5_1 : Int) p8 q8; obtain rfl := k112_openM hM8; have hx8_0 : w16.cell? ⟨go5, (x5_1 : Int).toNat * 5, none⟩ = some (.int .i64 ((rd_T112 y227 x5_1).f0)) := hcc8 0 _ rfl; have hx8_1 : w16.cell? ⟨go5, (x5_1 : Int).toNat * 5 + 1, none⟩ = some (.int .i64 ((rd_T112 y227 x5_1).f1)) := hcc8 1 _ rfl; have hx8_2 : w16.cell? ⟨go5, (x5_1 : Int).toNat * 5 + 2, none⟩ = some (.int .i64 ((rd_T112 y227 x5_1).f2)) := hcc8 2 _ rfl; have hx8_3 : w16.cell? ⟨go5, (x5_1 : Int).toNat * 5 + 3, none⟩ = some (.int .i64 ((rd_T112 y227 x5_1).f3)) := hcc8 3 _ rfl; have hx8_4 : w16.cell? ⟨go5, (x5_1 : Int).toNat * 5 + 4, none⟩ = some (.int .i64 ((rd_T112 y227 x5_1).f4)) := hcc8 4 _ rfl; have hf8_0 : w16.frozen? ⟨go5, (x5_1 : Int).toNat * 5, none⟩ = false := hfr8 0; have hf8_1 : w16.frozen? ⟨go5, (x5_1 : Int).toNat * 5 + 1, none⟩ = false := hfr8 1; have hf8_2 : w16.frozen? ⟨go5, (x5_1 : Int).toNat * 5 + 2, none⟩ = false := hfr8 2; have hf8_3 : w16.frozen? ⟨go5, (x5_1 : Int).toNat * 5 + 3, none⟩ = false := hfr8 3; have hf8_4 : w16.frozen? ⟨go5, (x5_1 : Int).toNat * 5 + 4, none⟩ = false := hfr8 4; clear hcl8 hcc8 hfr8 hM8; replace p8 := eq_true p8; replace q8 := eq_true q8; have HX17 := Aside0.mk (show Kd.R k112 112 w16 w0.heap.size (fun k_ => (P0_ k_ ∨ w.heap.size ≤ k_)) (.slice (some ⟨go5, 0, none⟩) x0_1.length co10) y227 from (by (with_reducible repeat (first | apply Kd.R_alloc | apply Kd.R_drewN | apply Kd.R_drew)); exact HO_0.out)); obtain ⟨ce17, hcl17, hM17, hcc17, hfr17⟩ := Kd.R_elem HX17.out z112 (x5_1 : Int) (of_decide_eq_true (by first | (with_reducible assumption) | assumption)) (by have h_ : (x5_1 : Int) < ((x0_1.length : Int) : Int) := of_decide_eq_true (by first | (with_reducible assumption) | assumption); first | exact h_ | (have e_ := (Kd.R_reads' HO_0.out).1; omega) | simpa using h_); obtain rfl := k112_openM hM17; have HP17 := Kd.R_seg HX17.out (x5_1 : Int) (of_decide_eq_true (by first | (with_reducible assumption) | assumption)) (by have h_ : (x5_1 : Int) < ((x0_1.length : Int) : Int) := of_decide_eq_true (by first | (with_reducible assumption) | assumption); first | exact h_ | (have e_ := (Kd.R_reads' HO_0.out).1; omega) | simpa using h_) (seg := [.int .i64 (wrap64 ((wrap64 ((wrap64 (x1_1 + 1)) + 1)) + 1))]) (j := 3) hcl17 hcc17 (show 4 ≤ 5 from by decide) (x' := (⟨(rd_T112 y227 x5_1).f0, (rd_T112 y227 x5_1).f1, (rd_T112 y227 x5_1).f2, wrap64 ((wrap64 ((wrap64 (x1_1 + 1)) + 1)) + 1), (rd_T112 y227 x5_1).f4⟩ : S112)) (k112_mkM _ _ _ (⟨(rd_T112 y227 x5_1).f0, (rd_T112 y227 x5_1).f1, (rd_T112 y227 x5_1).f2, wrap64 ((wrap64 ((wrap64 (x1_1 + 1)) + 1)) + 1), (rd_T112 y227 x5_1).f4⟩ : S112) ) (fun _ hk => hk); have hx17_3 := hcc17 3 _ rfl; (try simp only [show (k112).sz = 5 from rfl, Nat.mul_one, Nat.add_zero] at hx17_3); have hf17_3 := hfr17 3; (try simp only [show (k112).sz = 5 from rfl, Nat.mul_one, Nat.add_zero] at hf17_3); clear hcl17 hcc17 hfr17 hM17) | ((with_reducible refine gate_store (t := 3) (p := 37) rfl ?_); refine store_event (t := 3) (p := 37) (v := ?vo_w18) (w1 := (w16.setCell ⟨go5, (x5_1 : Int).toNat * 5 + 3, none⟩ (.int .i64 (wrap64 ((wrap64 ((wrap64 (x1_1 + 1)) + 1)) + 1))))) ?hg ?ho ?hn ?hr ?_; (case ho => rfl); (case hg => rfl); (case hn => rfl); (case hr => first | (go_simp; done) | (go_simp; rfl)); intro w18 hw; have hg : w16.grownBy w18 (some go5) := (by rw [hw]; exact HP17.2); have hp_ : Kd.R k112 112 w18 w0.heap.size (fun k_ => (P0_ k_ ∨ w.heap.size ≤ k_)) (.slice (some ⟨go5, 0, none⟩) x0_1.length co10) y228 := (by rw [hw, Ny228.out]; exact HP17.1); clear HP17; have n0_ := Aside0.mk (hp_); have n1_ := Aside0.mk ((by rw [hw]; exact below_set (HB.out) GB5.out : Below w0.heap.size w0 w18)); have n2_ := Aside0.mk (Kept.of_grown (S := (fun k_ => P0_ k_)) hg (by repeat (first | (with_reducible first | exact HK.out | apply Kept.alloc | apply Kept.drewN | apply Kept.drew) | exact HK.out)) (fun k_ e_ => (HO_0.out.1 k_ e_))); clear HO_0; clear HB; clear HK; have HO_0 := n0_; have HB := n1_; have HK := n2_; clear n0_ n1_ n2_; clear hg hw hp_; have p9 : 0 ≤ (x5_1 : Int) := of_decide_eq_true (by first | (with_reducible assumption) | assumption); have q9 : (x5_1 : Int) < ((x0_1.length : Int) : Int) := of_decide_eq_true (by first | (with_reducible assumption) | assumption); obtain ⟨ce9, hcl9, hM9, hcc9, hfr9⟩ := Kd.R_elem HO_0.out z112 (x5_1 : Int) p9 q9; obtain rfl := k112_openM hM9; have hx9_0 : w18.cell? ⟨go5, (x5_1 : Int).toNat * 5, none⟩ = some (.int .i64 ((rd_T112 y228 x5_1).f0)) := hcc9 0 _ rfl; have hx9_1 : w18.cell? ⟨go5, (x5_1 : Int).toNat * 5 + 1, none⟩ = some (.int .i64 ((rd_T112 y228 x5_1).f1)) := hcc9 1 _ rfl; have hx9_2 : w18.cell? ⟨go5, (x5_1 : Int).toNat * 5 + 2, none⟩ = some (.int .i64 ((rd_T112 y228 x5_1).f2)) := hcc9 2 _ rfl; have hx9_3 : w18.cell? ⟨go5, (x5_1 : Int).toNat * 5 + 3, none⟩ = some (.int .i64 ((rd_T112 y228 x5_1).f3)) := hcc9 3 _ rfl; have hx9_4 : w18.cell? ⟨go5, (x5_1 : Int).toNat * 5 + 4, none⟩ = some (.int .i64 ((rd_T112 y228 x5_1).f4)) := hcc9 4 _ rfl; have hf9_0 : w18.frozen? ⟨go5, (x5_1 : Int).toNat * 5, none⟩ = false := hfr9 0; have hf9_1 : w18.frozen? ⟨go5, (x5_1 : Int).toNat * 5 + 1, none⟩ = false := hfr9 1; have hf9_2 : w18.frozen? ⟨go5, (x5_1 : Int).toNat * 5 + 2, none⟩ = false := hfr9 2; have hf9_3 : w18.frozen? ⟨go5, (x5_1 : Int).toNat * 5 + 3, none⟩ = false := hfr9 3; have hf9_4 : w18.frozen? ⟨go5, (x5_1 : Int).toNat * 5 + 4, none⟩ = false := hfr9 4; clear hcl9 hcc9 hfr9 hM9; replace p9 := eq_true p9; replace q9 := eq_true q9; have HX19 := Aside0.mk (show Kd.R k112 112 w18 w0.heap.size (fun k_ => (P0_ k_ ∨ w.heap.size ≤ k_)) (.slice (some ⟨go5, 0, none⟩) x0_1.length co10) y228 from (by (with_reducible repeat (first | apply Kd.R_alloc | apply Kd.R_drewN | apply Kd.R_drew)); exact HO_0.out)); obtain ⟨ce19, hcl19, hM19, hcc19, hfr19⟩ := Kd.R_elem HX19.out z112 (x5_1 : Int) (of_decide_eq_true (by first | (with_reducible assumption) | assumption)) (by have h_ : (x5_1 : Int) < ((x0_1.length : Int) : Int) := of_decide_eq_true (by first | (with_reducible assumption) | assumption); first | exact h_ | (have e_ := (Kd.R_reads' HO_0.out).1; omega) | simpa using h_); obtain rfl := k112_openM hM19; have HP19 := Kd.R_seg HX19.out (x5_1 : Int) (of_decide_eq_true (by first | (with_reducible assumption) | assumption)) (by have h_ : (x5_1 : Int) < ((x0_1.length : Int) : Int) := of_decide_eq_true (by first | (with_reducible assumption) | assumption); first | exact h_ | (have e_ := (Kd.R_reads' HO_0.out).1; omega) | simpa using h_) (seg := [.int .i64 (wrap64 ((wrap64 ((wrap64 ((wrap64 (x1_1 + 1)) + 1)) + 1)) + 1))]) (j := 4) hcl19 hcc19 (show 5 ≤ 5 from by decide) (x' := (⟨(rd_T112 y228 x5_1).f0, (rd_T112 y228 x5_1).f1, (rd_T112 y228 x5_1).f2, (rd_T112 y228 x5_1).f3, wrap64 ((wrap64 ((wrap64 ((wrap64 (x1_1 + 1)) + 1)) + 1)) + 1)⟩ : S112)) (k112_mkM _ _ _ (⟨(rd_T112 y228 x5_1).f0, (rd_T112 y228 x5_1).f1, (rd_T112 y228 x5_1).f2, (rd_T112 y228 x5_1).f3, wrap64 ((wrap64 ((wrap64 ((wrap64 (x1_1 + 1)) + 1)) + 1)) + 1)⟩ : S112) ) (fun _ hk => hk); have hx19_4 := hcc19 4 _ rfl; (try simp only [show (k112).sz = 5 from rfl, Nat.mul_one, Nat.add_zero] at hx19_4); have hf19_4 := hfr19 4; (try simp only [show (k112).sz = 5 from rfl, Nat.mul_one, Nat.add_zero] at hf19_4); clear hcl19 hcc19 hfr19 hM19) | ((with_reducible refine gate_store (t := 3) (p := 44) rfl ?_); refine store_event (t := 3) (p := 44) (v := ?vo_w20) (w1 := (w18.setCell ⟨go5, (x5_1 : Int).toNat * 5 + 4, none⟩ (.int .i64 (wrap64 ((wrap64 ((wrap64 ((wrap64 (x1_1 + 1)) + 1)) + 1)) + 1))))) ?hg ?ho ?hn ?hr ?_; (case ho => rfl); (case hg => rfl); (case hn => rfl); (case hr => first | (go_simp; done) | (go_simp; rfl)); intro w20 hw; have hg : w18.grownBy w20 (some go5) := (by rw [hw]; exact HP19.2); have hp_ : Kd.R k112 112 w20 w0.heap.size (fun k_ => (P0_ k_ ∨ w.heap.size ≤ k_)) (.slice (some ⟨go5, 0, none⟩) x0_1.length co10) y229 := (by rw [hw, Ny229.out]; exact HP19.1); clear HP19; have n0_ := Aside0.mk (hp_); have n1_ := Aside0.mk ((by rw [hw]; exact below_set (HB.out) GB5.out : Below w0.heap.size w0 w20)); have n2_ := Aside0.mk (Kept.of_grown (S := (fun k_ => P0_ k_)) hg (by repeat (first | (with_reducible first | exact HK.out | apply Kept.alloc | apply Kept.drewN | apply Kept.drew) | exact HK.out)) (fun k_ e_ => (HO_0.out.1 k_ e_))); clear HO_0; clear HB; clear HK; have HO_0 := n0_; have HB := n1_; have HK := n2_; clear n0_ n1_ n2_; clear hg hw hp_))
          go_roundg k1
          case measure => have := HK1.out; omega
          case rel => exact ⟨(y229), (wrap64 ((wrap64 ((wrap64 ((wrap64 ((wrap64 (x1_1 + 1)) + 1)) + 1)) + 1)) + 1)), (wrap64 (x5_1 + 1)), (by first | rfl | (simp; done) | (simp [*]; done)), (by first | rfl | (simp; done) | (simp [*]; done)), H', ⟨by have := HK1.out; omega⟩, ⟨by (with_reducible repeat (first | apply Kd.R_alloc | apply Kd.R_drewN | apply Kd.R_drew)); exact HO_0.out⟩, ⟨by repeat (first | (with_reducible first | exact HK.out | apply Kept.alloc | apply Kept.drewN | apply Kept.drew) | exact HK.out)⟩, ⟨by repeat (first | (with_reducible first | exact HB.out | apply below_alloc | apply pw_below_drewN | apply below_drew1) | exact HB.out)⟩⟩
        · rw [if_neg c4] at H
          exact absurd H (by simp)
      · rw [if_neg c3] at H
        have c3b0 : decide (x5_1 < (x0_1.length : Int)) = false := decide_eq_false c3
        clear c3
        simp only [Option.some.injEq, Prod.mk.injEq] at H
        obtain ⟨rfl, rfl⟩ := H
        obtain ⟨Ao21, co21, eo21⟩ := Kd.R_slice HO_0.out
        subst eo21
        go_wp2
        go_ret
        exact ⟨by first | rfl | (simp [errW_none, errW_some] <;> rfl) | (simp [*, errW_none, errW_some] <;> rfl), by (with_reducible repeat (first | apply Kd.R_alloc | apply Kd.R_drewN | apply Kd.R_drew)); exact HO_0.out, by repeat (first | (with_reducible first | exact HB.out | apply below_alloc | apply pw_below_drewN | apply below_drew1) | exact HB.out), by repeat (first | (with_reducible first | exact HK.out | apply Kept.alloc | apply Kept.drewN | apply Kept.drew) | exact HK.out)⟩

end Go.Proofs.Ytphmnkcfjgallaa.Q
namespace Go.Proofs.Ytphmnkcfjgallaa.Q
open Go.RowKit Go.Proofs.YtphmnkcfjgallaaW.PrintWords Go.Proofs.YtphmnkcfjgallaaW.PrintLast Go.Proofs.YtphmnkcfjgallaaW.PrintMore
set_option linter.unusedVariables false
set_option linter.unusedSimpArgs false
/-! #### marks and what is held of them, told plainly -/
def mAll {α : Type} (m : Int → α → α) (nx : Int → α → Int) : Int → List α → List α
  | _, [] => []
  | a, x :: l => m a x :: mAll m nx (nx a x) l
def nAll {α : Type} (nx : Int → α → Int) : Int → List α → Int
  | a, [] => a
  | a, x :: l => nAll nx (nx a x) l
theorem mAll_length {α : Type} (m : Int → α → α) (nx : Int → α → Int) : ∀ (l : List α) (a : Int), (mAll m nx a l).length = l.length
  | [], _ => rfl
  | x :: l, a => by simp only [mAll, List.length_cons, mAll_length m nx l]
theorem nAll_snoc {α : Type} (nx : Int → α → Int) (x : α) : ∀ (l : List α) (a : Int), nAll nx a (l ++ [x]) = nx (nAll nx a l) x
  | [], _ => rfl
  | y :: l, a => nAll_snoc nx x l (nx a y)
theorem mAll_snoc {α : Type} (m : Int → α → α) (nx : Int → α → Int) (x : α) : ∀ (l : List α) (a : Int), mAll m nx a (l ++ [x]) = mAll m nx a l ++ [m (nAll nx a l) x]
  | [], _ => rfl
  | y :: l, a => by simp only [List.cons_append, mAll, nAll, mAll_snoc m nx x l]
/-- What a number becomes lies between. -/
theorem nAll_bound {α : Type} {nx : Int → α → Int} {C : Int} : ∀ (l : List α) (a : Int), (∀ x ∈ l, ∀ b, b ≤ nx b x ∧ nx b x ≤ b + C) → a ≤ nAll nx a l ∧ nAll nx a l ≤ a + C * (l.length : Int)
  | [], a, _ => by simp [nAll]
  | x :: l, a, h => by
    have h1 := h x List.mem_cons_self a
    have h2 := nAll_bound l (nx a x) (fun y hy => h y (List.mem_cons_of_mem _ hy))
    have : C * ((x :: l).length : Int) = C + C * (l.length : Int) := by rw [List.length_cons]; push_cast; rw [Int.mul_add]; omega
    simp only [nAll]
    omega
/-- The loop of a mark. -/
theorem mark_loop {α : Type} (F : Nat → List α → Int → Int → Option (Int × List α)) (m : Int → α → α) (nx : Int → α → Int) (z : α) (D : Nat) (C B : Int) (hC : 0 ≤ C) (ok : α → Prop)
    (hnx : ∀ x, ok x → ∀ b, b ≤ nx b x ∧ nx b x ≤ b + C)
    (hstep : ∀ (k : Nat) (x : List α) (a i : Int), D ≤ k → 0 ≤ i → i < (x.length : Int) → (x.length : Int) ≤ 1048576 → 0 ≤ a → a + C ≤ B → ok (x.getD i.toNat z) → F (k + 1) x a i = F k (x.set i.toNat (m a (x.getD i.toNat z))) (nx a (x.getD i.toNat z)) (i + 1))
    (hend : ∀ (k : Nat) (x : List α) (a i : Int), (x.length : Int) ≤ i → F (k + 1) x a i = some (a, x)) :
    ∀ (rest pre : List α) (k : Nat) (a : Int), rest.length + D < k → (pre ++ rest).length ≤ 1048576 → 0 ≤ a → a + C * (rest.length : Int) ≤ B → (∀ x ∈ rest, ok x) → F k (pre ++ rest) a (pre.length : Int) = some (nAll nx a rest, pre ++ mAll m nx a rest)
  | [], pre, k, a, hk, hl, h0, hB, ho => by
    obtain ⟨k, rfl⟩ : ∃ j, k = j + 1 := ⟨k - 1, by omega⟩
    rw [hend k _ a _ (by simp)]
    rfl
  | x :: rest, pre, k, a, hk, hl, h0, hB, ho => by
    obtain ⟨k, rfl⟩ : ∃ j, k = j + 1 := ⟨k - 1, by omega⟩
    have hx : (pre ++ x :: rest).getD (pre.length : Int).toNat z = x := by simp
    have hox := ho x List.mem_cons_self
    have h1 := hnx x hox a
    have hmul : C * ((x :: rest).length : Int) = C + C * (rest.length : Int) := by rw [List.length_cons]; push_cast; rw [Int.mul_add]; omega
    have hpos : 0 ≤ C * (rest.length : Int) := Int.mul_nonneg hC (by omega)
    simp only [List.length_cons] at hk
    rw [hstep k _ a _ (by omega) (by omega) (by simp; omega) (by omega) h0 (by omega) (by rw [hx]; exact hox), hx]
    have hs : (pre ++ x :: rest).set (pre.length : Int).toNat (m a x) = (pre ++ [m a x]) ++ rest := by simp
    have hp : ((pre.length : Int) + 1) = ((pre ++ [m a x]).length : Int) := by simp
    rw [hs, hp, mark_loop F m nx z D C B hC ok hnx hstep hend rest (pre ++ [m a x]) k (nx a x) (by omega) (by simp at hl ⊢; omega) (by omega) (by omega) (fun y hy => ho y (List.mem_cons_of_mem _ hy))]
    simp [nAll, mAll]
/-- The loop that looks at what is held. -/
theorem held_loop {α : Type} (F : Nat → List α → Int → Int → Option Int) (m : Int → α → α) (nx : Int → α → Int) (z : α) (D : Nat) (C B : Int) (hC : 0 ≤ C) (ok : α → Prop)
    (hnx : ∀ x, ok x → ∀ b, b ≤ nx b x ∧ nx b x ≤ b + C)
    (hstep : ∀ (k : Nat) (y : List α) (x : α) (a i : Int), D ≤ k → 0 ≤ i → i < (y.length : Int) → (y.length : Int) ≤ 1048576 → 0 ≤ a → a + C ≤ B → ok x → y.getD i.toNat z = m a x → F (k + 1) y a i = F k y (nx a x) (i + 1))
    (hend : ∀ (k : Nat) (x : List α) (a i : Int), (x.length : Int) ≤ i → F (k + 1) x a i = some a) :
    ∀ (rest pre : List α) (k : Nat) (a : Int), rest.length + D < k → (pre ++ rest).length ≤ 1048576 → 0 ≤ a → a + C * (rest.length : Int) ≤ B → (∀ x ∈ rest, ok x) → F k (pre ++ mAll m nx a rest) a (pre.length : Int) = some (nAll nx a rest)
  | [], pre, k, a, hk, hl, h0, hB, ho => by
    obtain ⟨k, rfl⟩ : ∃ j, k = j + 1 := ⟨k - 1, by omega⟩
    rw [hend k _ a _ (by simp [mAll])]
    rfl
  | x :: rest, pre, k, a, hk, hl, h0, hB, ho => by
    obtain ⟨k, rfl⟩ : ∃ j, k = j + 1 := ⟨k - 1, by omega⟩
    have hx : (pre ++ mAll m nx a (x :: rest)).getD (pre.length : Int).toNat z = m a x := by simp [mAll]
    have hox := ho x List.mem_cons_self
    have h1 := hnx x hox a
    have hmul : C * ((x :: rest).length : Int) = C + C * (rest.length : Int) := by rw [List.length_cons]; push_cast; rw [Int.mul_add]; omega
    have hpos : 0 ≤ C * (rest.length : Int) := Int.mul_nonneg hC (by omega)
    simp only [List.length_cons] at hk
    have hlen : (pre ++ mAll m nx a (x :: rest)).length = (pre ++ x :: rest).length := by simp [mAll_length]
    rw [hstep k _ x a _ (by omega) (by omega) (by rw [hlen]; simp; omega) (by rw [hlen]; omega) h0 (by omega) hox hx]
    have hs : pre ++ mAll m nx a (x :: rest) = (pre ++ [m a x]) ++ mAll m nx (nx a x) rest := by simp [mAll]
    have hp : ((pre.length : Int) + 1) = ((pre ++ [m a x]).length : Int) := by simp
    rw [hs, hp, held_loop F m nx z D C B hC ok hnx hstep hend rest (pre ++ [m a x]) k (nx a x) (by omega) (by simp at hl ⊢; omega) (by omega) (by omega) (fun y hy => ho y (List.mem_cons_of_mem _ hy))]
    rfl
theorem tdiv10 {a : Int} (h0 : 0 ≤ a) (h1 : a ≤ 4611686018427387904) : wrap64 (Int.tdiv a 10) = a / 10 := by
  rw [Int.tdiv_eq_ediv_of_nonneg h0]
  unfold wrap64
  omega
theorem markText_l0 : ∀ (n k : Nat) (a : Int) (s : ByteArray), 0 ≤ a → a ≤ 4611686018427387904 → a < 10 ^ n → s.size + n ≤ 1000 → n < k → ∃ t, laws_markText.l0 k a s = some t ∧ t.size ≤ 1001
  | 0, k, a, s, h0, h1, h2, hs, hk => by
    obtain ⟨k, rfl⟩ : ∃ j, k = j + 1 := ⟨k - 1, by omega⟩
    have : a = 0 := by simp at h2; omega
    subst this
    refine ⟨_, by simp only [laws_markText.l0]; rw [if_neg (by omega), if_pos (by omega)], ?_⟩
    rw [ByteArray.size_append]
    show 1 + s.size ≤ _
    omega
  | n + 1, k, a, s, h0, h1, h2, hs, hk => by
    obtain ⟨k, rfl⟩ : ∃ j, k = j + 1 := ⟨k - 1, by omega⟩
    by_cases hp : a > 0
    · simp only [laws_markText.l0]
      rw [if_pos hp]
      simp only [Option.bind_some]
      have h3 : a / 10 < 10 ^ n := Int.ediv_lt_of_lt_mul (by decide) (by rw [← Int.pow_succ]; exact h2)
      have hsz : ∀ x : Int, (strOfNums [x]).size = 1 := fun x => rfl
      rw [if_pos (by rw [hsz]; omega), tdiv10 h0 h1]
      exact markText_l0 n k (a / 10) _ (by omega) (by omega) h3 (by rw [ByteArray.size_append, hsz]; omega) (by omega)
    · have : a = 0 := by omega
      subst this
      refine ⟨_, by simp only [laws_markText.l0]; rw [if_neg (by omega), if_pos (by omega)], ?_⟩
      rw [ByteArray.size_append]
      show 1 + s.size ≤ _
      omega
noncomputable def mText (a : Int) : ByteArray := (laws_markText.f 100 a).getD ⟨#[]⟩
theorem laws_markText_is {a : Int} (h0 : 0 ≤ a) (h1 : a ≤ 4611686018427387904) {k : Nat} (hk : 100 ≤ k) : laws_markText.f k a = some (mText a) := by
  have h : ∃ t, laws_markText.f 100 a = some t := by
    unfold laws_markText.f
    split
    · exact ⟨_, rfl⟩
    · obtain ⟨t, ht, _⟩ := markText_l0 19 100 a ⟨#[]⟩ h0 h1 (by omega) (by decide) (by omega)
      exact ⟨t, ht⟩
  obtain ⟨t, ht⟩ := h
  have hm : mText a = t := by unfold mText; rw [ht]; rfl
  rw [hm]
  exact at_rounds (g := fun k => laws_markText.f k a) (fun k => laws_markText.mono a k) hk ht
theorem wr1 {a : Int} (h0 : 0 ≤ a) (h1 : a ≤ 4611686018427387904) : wrap64 (a + 1) = a + 1 := by unfold wrap64; omega
def mLine (a : Int) (_ : Lin) : Lin := ⟨a, a + 1, a + 1 + 1, a + 1 + 1 + 1, a + 1 + 1 + 1 + 1⟩
def nLine (a : Int) (_ : Lin) : Int := a + 1 + 1 + 1 + 1 + 1
def mPer (a : Int) (_ : Per) : Per := ⟨a, a + 1⟩
def nPer (a : Int) (_ : Per) : Int := a + 1 + 1
noncomputable def mAcc (a : Int) (_ : Acc) : Acc := ⟨mText a, a + 1, a + 1 + 1⟩
def nAcc (a : Int) (_ : Acc) : Int := a + 1 + 1 + 1
def mNum (a : Int) (_ : Int) : Int := a
def nNum (a : Int) (_ : Int) : Int := a + 1
noncomputable def mEnt (a : Int) (x : Ent) : Ent := ⟨a, a + 1, mText (a + 1 + 1), mAll mLine nLine (a + 1 + 1 + 1) x.f3⟩
def nEnt (a : Int) (x : Ent) : Int := nAll nLine (a + 1 + 1 + 1) x.f3
theorem rdset112 {x : List S112} {i : Int} (h : i < (x.length : Int)) (h0 : 0 ≤ i) (v : S112) : rd_T112 (x.set i.toNat v) i = v := by
  unfold rd_T112; rw [List.getD_eq_getElem?_getD, List.getElem?_set_self (by omega)]; rfl
theorem rdset131 {x : List S131} {i : Int} (h : i < (x.length : Int)) (h0 : 0 ≤ i) (v : S131) : rd_T131 (x.set i.toNat v) i = v := by
  unfold rd_T131; rw [List.getD_eq_getElem?_getD, List.getElem?_set_self (by omega)]; rfl
theorem rdset133 {x : List S133} {i : Int} (h : i < (x.length : Int)) (h0 : 0 ≤ i) (v : S133) : rd_T133 (x.set i.toNat v) i = v := by
  unfold rd_T133; rw [List.getD_eq_getElem?_getD, List.getElem?_set_self (by omega)]; rfl
theorem nLine_b (l : List Lin) (a : Int) : a ≤ nAll nLine a l ∧ nAll nLine a l ≤ a + 5 * (l.length : Int) := nAll_bound l a (fun x _ b => by unfold nLine; omega)
theorem laws_markLineS_is (l : List Lin) (k : Nat) (a : Int) (hk : l.length < k) (hl : l.length ≤ 1048576) (h0 : 0 ≤ a) (h1 : a ≤ 1000000000000000) : laws_markLineS.f k l a = some (nAll nLine a l, mAll mLine nLine a l) := by
  have := mark_loop laws_markLineS.l0 mLine nLine z112 0 5 4611686018427387000 (by omega) (fun _ => True) (fun x _ b => by unfold nLine; omega) (fun k x a i _ hi hi2 hl h0 hB _ => by
    simp only [laws_markLineS.l0, Option.bind_some]
    rw [if_pos hi2, if_pos hi, wr1 h0 (by omega), wr1 (a := a + 1) (by omega) (by omega), wr1 (a := a + 1 + 1) (by omega) (by omega), wr1 (a := a + 1 + 1 + 1) (by omega) (by omega), wr1 (a := a + 1 + 1 + 1 + 1) (by omega) (by omega), wr1 hi (by omega)]
    simp only [List.set_set, rdset112 hi2 hi]
    rfl) (fun k x a i h => by simp only [laws_markLineS.l0]; rw [if_neg (by omega)]) l [] k a (by omega) (by simpa using hl) h0 (by omega) (fun _ _ => trivial)
  exact this
theorem laws_markPeriodS_is (l : List Per) (k : Nat) (a : Int) (hk : l.length < k) (hl : l.length ≤ 1048576) (h0 : 0 ≤ a) (h1 : a ≤ 1000000000000000) : laws_markPeriodS.f k l a = some (nAll nPer a l, mAll mPer nPer a l) := by
  have := mark_loop laws_markPeriodS.l0 mPer nPer z133 0 2 4611686018427387000 (by omega) (fun _ => True) (fun x _ b => by unfold nPer; omega) (fun k x a i _ hi hi2 hl h0 hB _ => by
    simp only [laws_markPeriodS.l0, Option.bind_some]
    rw [if_pos hi2, if_pos hi, wr1 h0 (by omega), wr1 (a := a + 1) (by omega) (by omega), wr1 hi (by omega)]
    simp only [List.set_set, rdset133 hi2 hi]
    rfl) (fun k x a i h => by simp only [laws_markPeriodS.l0]; rw [if_neg (by omega)]) l [] k a (by omega) (by simpa using hl) h0 (by omega) (fun _ _ => trivial)
  exact this
theorem laws_markAccountS_is (l : List Acc) (k : Nat) (a : Int) (hk : l.length + 100 < k) (hl : l.length ≤ 1048576) (h0 : 0 ≤ a) (h1 : a ≤ 1000000000000000) : laws_markAccountS.f k l a = some (nAll nAcc a l, mAll mAcc nAcc a l) := by
  have := mark_loop laws_markAccountS.l0 mAcc nAcc z131 100 3 4611686018427387000 (by omega) (fun _ => True) (fun x _ b => by unfold nAcc; omega) (fun k x a i hD hi hi2 hl h0 hB _ => by
    simp only [laws_markAccountS.l0]
    rw [if_pos hi2, laws_markText_is h0 (by omega) hD]
    simp only [Option.bind_some]
    rw [if_pos hi, wr1 h0 (by omega), wr1 (a := a + 1) (by omega) (by omega), wr1 (a := a + 1 + 1) (by omega) (by omega), wr1 hi (by omega)]
    simp only [List.set_set, rdset131 hi2 hi]
    rfl) (fun k x a i h => by simp only [laws_markAccountS.l0]; rw [if_neg (by omega)]) l [] k a (by omega) (by simpa using hl) h0 (by omega) (fun _ _ => trivial)
  exact this
theorem laws_markIntS_is (l : List Int) (k : Nat) (a : Int) (hk : l.length < k) (hl : l.length ≤ 1048576) (h0 : 0 ≤ a) (h1 : a ≤ 1000000000000000) : laws_markIntS.f k l a = some (nAll nNum a l, mAll mNum nNum a l) := by
  have := mark_loop laws_markIntS.l0 mNum nNum 0 0 1 4611686018427387000 (by omega) (fun _ => True) (fun x _ b => by unfold nNum; omega) (fun k x a i _ hi hi2 hl h0 hB _ => by
    simp only [laws_markIntS.l0]
    rw [if_pos hi2, if_pos hi, wr1 h0 (by omega), wr1 hi (by omega)]
    rfl) (fun k x a i h => by simp only [laws_markIntS.l0]; rw [if_neg (by omega)]) l [] k a (by omega) (by simpa using hl) h0 (by omega) (fun _ _ => trivial)
  exact this
theorem laws_heldIntS_is (l : List Int) (k : Nat) (a : Int) (hk : l.length < k) (hl : l.length ≤ 1048576) (h0 : 0 ≤ a) (h1 : a ≤ 1000000000000000) : laws_heldIntS.f k (mAll mNum nNum a l) a = some (nAll nNum a l) := by
  have := held_loop laws_heldIntS.l0 mNum nNum 0 0 1 4611686018427387000 (by omega) (fun _ => True) (fun x _ b => by unfold nNum; omega) (fun k y x a i _ hi hi2 hl h0 hB _ hy => by
    simp only [laws_heldIntS.l0]
    rw [if_pos hi2, if_pos hi, if_pos (show rd y i = a from hy), wr1 h0 (by omega), wr1 hi (by omega)]
    rfl) (fun k x a i h => by simp only [laws_heldIntS.l0]; rw [if_neg (by omega)]) l [] k a (by omega) (by simpa using hl) h0 (by omega) (fun _ _ => trivial)
  exact this
theorem nNum_b (l : List Int) (a : Int) : a ≤ nAll nNum a l ∧ nAll nNum a l ≤ a + 1 * (l.length : Int) := nAll_bound l a (fun x _ b => by unfold nNum; omega)
theorem nAcc_b (l : List Acc) (a : Int) : a ≤ nAll nAcc a l ∧ nAll nAcc a l ≤ a + 3 * (l.length : Int) := nAll_bound l a (fun x _ b => by unfold nAcc; omega)
theorem nPer_b (l : List Per) (a : Int) : a ≤ nAll nPer a l ∧ nAll nPer a l ≤ a + 2 * (l.length : Int) := nAll_bound l a (fun x _ b => by unfold nPer; omega)
theorem nEnt_b (l : List Ent) (h : ∀ x ∈ l, x.f3.length ≤ 1048576) (a : Int) : a ≤ nAll nEnt a l ∧ nAll nEnt a l ≤ a + 5242883 * (l.length : Int) := nAll_bound l a (fun x hx b => by have h1 := h x hx; have h2 := nLine_b x.f3 (b + 1 + 1 + 1); unfold nEnt; omega)

end Go.Proofs.Ytphmnkcfjgallaa.Q
namespace Go.Proofs.Ytphmnkcfjgallaa.Q
open Go.RowKit Go.Proofs.YtphmnkcfjgallaaW.PrintWords Go.Proofs.YtphmnkcfjgallaaW.PrintLast Go.Proofs.YtphmnkcfjgallaaW.PrintMore
set_option linter.unusedVariables false
set_option linter.unusedSimpArgs false
theorem mark_step {l : List Ent} {a : Int} {i : Int} (h0 : 0 ≤ i) (h1 : i < (l.length : Int)) {x' : Ent} (hx : x' = mEnt (nAll nEnt a (l.take i.toNat)) (rd_T34 l i)) :
    (mAll mEnt nEnt a (l.take i.toNat) ++ l.drop i.toNat).set i.toNat x' = mAll mEnt nEnt a (l.take (i + 1).toNat) ++ l.drop (i + 1).toNat ∧ nAll nEnt a (l.take (i + 1).toNat) = nEnt (nAll nEnt a (l.take i.toNat)) (rd_T34 l i) ∧ rd_T34 (mAll mEnt nEnt a (l.take i.toNat) ++ l.drop i.toNat) i = rd_T34 l i := by
  subst hx
  have ht : l.take (i + 1).toNat = l.take i.toNat ++ [rd_T34 l i] := by
    rw [show (i + 1).toNat = i.toNat + 1 by omega, List.take_add_one, List.getElem?_eq_getElem (by omega)]
    unfold rd_T34
    rw [List.getD_eq_getElem?_getD, List.getElem?_eq_getElem (by omega)]
    rfl
  have hl : (mAll mEnt nEnt a (l.take i.toNat)).length = i.toNat := by rw [mAll_length, List.length_take]; omega
  have hd : l.drop i.toNat = rd_T34 l i :: l.drop (i + 1).toNat := by
    rw [show (i + 1).toNat = i.toNat + 1 by omega, List.drop_eq_getElem_cons (by omega)]
    unfold rd_T34
    rw [List.getD_eq_getElem?_getD, List.getElem?_eq_getElem (by omega)]
    rfl
  refine ⟨?_, ?_, ?_⟩
  · rw [ht, mAll_snoc, hd, List.set_append_right _ _ (by omega), hl, Nat.sub_self]
    simp
  · rw [ht, nAll_snoc]
  · rw [hd]
    show ((mAll mEnt nEnt a (l.take i.toNat)) ++ rd_T34 l i :: l.drop (i + 1).toNat).getD i.toNat z34 = _
    rw [List.getD_eq_getElem?_getD, List.getElem?_append_right (by omega), hl, Nat.sub_self]
    rfl
set_option maxHeartbeats 16000000 in
set_option maxRecDepth 100000 in
theorem laws_markEntryS.to (P0_ : Nat → Prop) (A : Option Addr) (c : Nat) (l0 : List Ent) (a1 : Int) (w0 w : World) (hB : Below w0.heap.size w0 w) (hS : Kd.S k34 34 w w0.heap.size P0_ (.slice A l0.length c) l0) (h0 : 0 ≤ a1) (h1 : a1 ≤ 100000000000000) (hl : l0.length ≤ 1048576) (hs : ∀ x ∈ l0, x.f3.length ≤ 1048576) :
    Calls Try.prog 45 #[.slice A l0.length c, .int .i64 a1] w fun e w' => e = .returned (.int .i64 (nAll nEnt a1 l0)) ∧ Kd.S k34 34 w' w0.heap.size P0_ (.slice A l0.length c) (mAll mEnt nEnt a1 l0) ∧ Below w0.heap.size w0 w' ∧ Kept w w' P0_ := by
  have HB := Aside0.mk hB
  have HS := Aside0.mk (show Kd.S k34 34 w w0.heap.size P0_ (.slice A l0.length c) (mAll mEnt nEnt a1 (l0.take (0 : Int).toNat) ++ l0.drop (0 : Int).toNat) from hS)
  have HL := Aside0.mk hs
  clear hB hS hs
  go_enter Try.func45, Try.ntmps45
  go_wp2_with fail
  go_loopw [1, 5] (fun v u wr => ∃ i a : Int, 0 ≤ i ∧ i ≤ (l0.length : Int) ∧ u = .int .i64 i ∧ v = .int .i64 a ∧ 0 ≤ a ∧ a ≤ 100000000000000 + 5242883 * 1048576 ∧ Aside0 (a = nAll nEnt a1 (l0.take i.toNat)) ∧ Aside0 (Kd.S k34 34 wr w0.heap.size P0_ (.slice A l0.length c) (mAll mEnt nEnt a1 (l0.take i.toNat) ++ l0.drop i.toNat)) ∧ Aside0 (Below w0.heap.size w0 wr) ∧ Aside0 (Kept w wr P0_)) (fun _ u _ => (l0.length - (intOf u).toNat))
  case atStart => exact ⟨0, a1, by omega, by omega, rfl, rfl, h0, by omega, ⟨rfl⟩, HS, HB, ⟨Kept.refl w P0_⟩⟩
  case round =>
    have A1 := h1
    clear HS HB h0 h1
    obtain ⟨i, a, hi0, hi1, rfl, rfl, h0, h1, HA, HS, HB, HK⟩ := hrel
    by_cases hlt : i < (l0.length : Int)
    · have hcl : (mAll mEnt nEnt a1 (l0.take i.toNat) ++ l0.drop i.toNat).length = l0.length := by rw [List.length_append, mAll_length, List.length_take, List.length_drop]; omega
      obtain ⟨g, cap, e1, hg0, hg1, _⟩ := Kd.S_form HS.out (by rw [hcl]; omega)
      rw [hcl] at e1
      have HCL := Aside0.mk hcl
      clear hcl
      cases e1
      have MS := Aside0.mk (mark_step (a := a1) hi0 hlt rfl)
      have HPG := Aside0.mk ((Kd.S_R HS.out).1 g rfl)
      obtain ⟨XS, hXS⟩ : ∃ X, X = mAll mEnt nEnt a1 (l0.take i.toNat) ++ l0.drop i.toNat := ⟨_, rfl⟩
      rw [← hXS] at HS MS
      have HXS := Aside0.mk hXS
      clear hXS
      obtain ⟨oki, cs, hcl, hM, hcc, hfr, hoki, hH⟩ := Kd.S_elem HS.out z34 i hi0 hlt
      rw [show XS.getD i.toNat z34 = rd_T34 l0 i from MS.out.2.2] at hM
      obtain ⟨v3, rfl, hR⟩ := k34_openM hM
      obtain ⟨A3, c3, rfl, hc3, hC3⟩ := Kd.R_reads hR
      have x0 := hcc 0 _ rfl
      have x1 := hcc 1 _ rfl
      have x2 := hcc 2 _ rfl
      have x3 := hcc 3 _ rfl
      have f0 := hfr 0
      have f1 := hfr 1
      have f2 := hfr 2
      simp only [show k34.sz = 4 from rfl, Nat.add_zero] at x0 x1 x2 x3 f0 f1 f2
      have HH := Aside0.mk hH
      have HR := Aside0.mk hR
      have HOK := Aside0.mk hoki
      have w1 : IntKind.i64.wrap (a + 1) = a + 1 := by unfold IntKind.wrap; simp [IntKind.bits]; omega
      have hxl : (rd_T34 l0 i).f3.length ≤ 1048576 := all_at (z := z34) (p := fun x => x.f3.length ≤ 1048576) hi0 hlt HL.out
      clear hcl hM hcc hfr hoki hH hR hC3 HS
      generalize hls : (rd_T34 l0 i).f3 = ls at *
      have HLS := Aside0.mk hls
      clear hls
      go_wp2_with fail
      refine (laws_markText.calls 100 (a + 1 + 1) (mText (a + 1 + 1)) _ (laws_markText_is (by omega) (by omega) (Nat.le_refl _))).mono ?_
      rintro e w2 ⟨rfl, hb⟩
      have x2' : w2.cell? ⟨g, i.toNat * 4 + 2, none⟩ = some (.string (rd_T34 l0 i).f2) := pw_cell_below hb (by go_simp)
      have x3' : w2.cell? ⟨g, i.toNat * 4 + 3, none⟩ = some (.slice A3 ls.length c3) := pw_cell_below hb (by go_simp)
      have f2' : w2.frozen? ⟨g, i.toNat * 4 + 2, none⟩ = false := (hb.frozen (p := ⟨g, i.toNat * 4 + 2, none⟩) (by simp; omega)).trans (by go_simp)
      have HH1 : Kd.H k34 34 (wr.setCell ⟨g, i.toNat * 4, none⟩ (.int .i64 a)) w0.heap.size P0_ (.slice (some ⟨g, 0, none⟩) l0.length c) XS i oki [.int .i64 a, .int .i64 (rd_T34 l0 i).f1, .string (rd_T34 l0 i).f2, .slice A3 ls.length c3] := (Kd.H_seg HH.out hi0 hlt (seg := [.int .i64 a]) (j := 0) (show 1 ≤ 4 from by decide) (by simp [Value.oneCell'])).1
      have HH2 : Kd.H k34 34 ((wr.setCell ⟨g, i.toNat * 4, none⟩ (.int .i64 a)).setCell ⟨g, i.toNat * 4 + 1, none⟩ (.int .i64 (a + 1))) w0.heap.size P0_ (.slice (some ⟨g, 0, none⟩) l0.length c) XS i oki [.int .i64 a, .int .i64 (a + 1), .string (rd_T34 l0 i).f2, .slice A3 ls.length c3] := (Kd.H_seg HH1 hi0 hlt (seg := [.int .i64 (a + 1)]) (j := 1) (show 2 ≤ 4 from by decide) (by simp [Value.oneCell'])).1
      have HH3 := Kd.H_below HH2 hb
      have HH4 : Kd.H k34 34 (w2.setCell ⟨g, i.toNat * 4 + 2, none⟩ (.string (mText (a + 1 + 1)))) w0.heap.size P0_ (.slice (some ⟨g, 0, none⟩) l0.length c) XS i oki [.int .i64 a, .int .i64 (a + 1), .string (mText (a + 1 + 1)), .slice A3 ls.length c3] := (Kd.H_seg HH3 hi0 hlt (seg := [.string (mText (a + 1 + 1))]) (j := 2) (show 3 ≤ 4 from by decide) (by simp [Value.oneCell'])).1
      have hne : ∀ k, oki k → k ≠ g := fun k hk => (HOK.out k hk).2
      have hR3 := Aside0.mk (Kd.R_far (p := ⟨g, i.toNat * 4 + 2, none⟩) (Kd.R_below (Kd.R_far (p := ⟨g, i.toNat * 4 + 1, none⟩) (Kd.R_far (p := ⟨g, i.toNat * 4, none⟩) HR.out hne (.int .i64 a)) hne (.int .i64 (a + 1))) hb) hne (.string (mText (a + 1 + 1))))
      have HB3 := Aside0.mk (below_set (j := i.toNat * 4 + 2) (v := .string (mText (a + 1 + 1))) (below_into (w := w0) hb (below_set (below_set HB.out hg0) hg0)) hg0)
      have HK3 := Aside0.mk (Kept.setCell (Kept.below (Kept.setCell (Kept.setCell HK.out (p := ⟨g, i.toNat * 4, none⟩) (.inl HPG.out) (.int .i64 a)) (p := ⟨g, i.toNat * 4 + 1, none⟩) (.inl HPG.out) (.int .i64 (a + 1))) hb) (p := ⟨g, i.toNat * 4 + 2, none⟩) (.inl HPG.out) (.string (mText (a + 1 + 1))))
      replace HH := Aside0.mk HH4
      have HNE := Aside0.mk hne
      clear HH1 HH2 HH3 HH4 hne hb x0 x1 x2 x3 f0 f1 f2 w1
      go_wp2_with fail
      refine (laws_markLineS.calls (ls.length + 1) oki (.slice A3 ls.length c3) ls (a + 1 + 1 + 1) _ _ w0 _ HB3.out hR3.out (laws_markLineS_is ls _ _ (by omega) hxl (by omega) (by omega))).mono ?_
      rintro e w4 ⟨rfl, hR4, hB4, hK4⟩
      have HX : (⟨a, a + 1, mText (a + 1 + 1), mAll mLine nLine (a + 1 + 1 + 1) ls⟩ : Ent) = mEnt (nAll nEnt a1 (l0.take i.toNat)) (rd_T34 l0 i) := by rw [← HA.out]; unfold mEnt; rw [HLS.out]
      have HS4 := Aside0.mk (Kd.H_back (Kd.H_step HH.out (fun k _ hn hlt => hK4.2 k hlt hn)) (k34_mkM _ _ _ (⟨a, a + 1, mText (a + 1 + 1), mAll mLine nLine (a + 1 + 1 + 1) ls⟩ : Ent) (Kd.R_tight rfl hR4)) (fun k hk => HR.out.1 k hk.symm))
      have HB4 := Aside0.mk hB4
      have HK4 := Aside0.mk (HK3.out.then_ hK4 (fun k hk => .inl (HOK.out k hk).1))
      have hnb := nEnt_b (l0.take (i + 1).toNat) (fun x hx => HL.out x (List.mem_of_mem_take hx)) a1
      have hnx : nAll nEnt a1 (l0.take (i + 1).toNat) = nAll nLine (a + 1 + 1 + 1) ls := by rw [MS.out.2.1, ← HA.out]; unfold nEnt; rw [HLS.out]
      have hnl := nLine_b ls (a + 1 + 1 + 1)
      have htl : (l0.take (i + 1).toNat).length ≤ 1048576 := by rw [List.length_take]; omega
      rw [hnx] at hnb
      have HNX := Aside0.mk hnx
      clear hR4 hB4 hK4 hnx
      go_wp2_with fail
      go_roundw
      case rel => exact ⟨i + 1, nAll nLine (a + 1 + 1 + 1) ls, by omega, by omega, rfl, rfl, by omega, by omega, ⟨HNX.out.symm⟩, ⟨by have := HS4.out; rw [HX, MS.out.1] at this; exact this⟩, HB4, HK4⟩
      case measure => simp [intOf]; omega
    · go_wp2_with fail
      go_ret
      have e1 : l0.take i.toNat = l0 := List.take_of_length_le (by omega)
      have e2 : l0.drop i.toNat = [] := List.drop_of_length_le (by omega)
      have h := HS.out
      have ha := HA.out
      rw [e1] at ha h
      rw [e2, List.append_nil] at h
      exact ⟨ret_i ha, h, HB.out, HK.out⟩

end Go.Proofs.Ytphmnkcfjgallaa.Q
namespace Go.Proofs.Ytphmnkcfjgallaa.Q
open Go.RowKit Go.Proofs.YtphmnkcfjgallaaW.PrintWords Go.Proofs.YtphmnkcfjgallaaW.PrintLast Go.Proofs.YtphmnkcfjgallaaW.PrintMore
set_option linter.unusedVariables false
set_option linter.unusedSimpArgs false
theorem eqIntS_l0 (l : List Int) (hl : l.length ≤ 1048576) : ∀ (n k : Nat) (i : Int), 0 ≤ i → i + n = (l.length : Int) → n < k → laws_eqIntS.l0 k l l i = some true := by
  intro n
  induction n with
  | zero =>
    intro k i h0 hi hk
    obtain ⟨k, rfl⟩ : ∃ j, k = j + 1 := ⟨k - 1, by omega⟩
    simp only [laws_eqIntS.l0]
    rw [if_neg (by omega)]
  | succ n ih =>
    intro k i h0 hi hk
    obtain ⟨k, rfl⟩ : ∃ j, k = j + 1 := ⟨k - 1, by omega⟩
    simp only [laws_eqIntS.l0]
    rw [if_pos (by omega), if_pos h0, if_pos (by omega), if_pos trivial, wr1 h0 (by omega)]
    exact ih k (i + 1) (by omega) (by omega) (by omega)
theorem laws_eqIntS_same (l : List Int) (hl : l.length ≤ 1048576) (k : Nat) (hk : l.length < k) : laws_eqIntS.f k l l = some true := by
  unfold laws_eqIntS.f
  rw [if_pos rfl]
  exact eqIntS_l0 l hl l.length k 0 (by omega) (by omega) hk
theorem laws_markFrame_is (l : List Acc) (d c : Int) (k : Nat) (a : Int) (hk : l.length + 100 < k) (hl : l.length ≤ 1048576) (h0 : 0 ≤ a) (h1 : a ≤ 1000000000000000) : laws_markFrame.f k l d c a = some (nAll nAcc a l, mAll mAcc nAcc a l) := by
  unfold laws_markFrame.f
  rw [laws_markAccountS_is l k a hk hl h0 h1]
  rfl
set_option maxHeartbeats 16000000 in
set_option maxRecDepth 100000 in
theorem laws_markLedger.to (P0_ : Nat → Prop) (A : Option Addr) (c : Nat) (l0 : List Ent) (h a1 : Int) (w0 w : World) (hB : Below w0.heap.size w0 w) (hS : Kd.S k34 34 w w0.heap.size P0_ (.slice A l0.length c) l0) (h0 : 0 ≤ a1) (h1 : a1 ≤ 100000000000000) (hl : l0.length ≤ 1048576) (hs : ∀ x ∈ l0, x.f3.length ≤ 1048576) :
    Calls Try.prog 52 #[.agg #[.slice A l0.length c, .int .i64 h], .int .i64 a1] w fun e w' => e = .returned (.int .i64 (nAll nEnt a1 l0)) ∧ Kd.S k34 34 w' w0.heap.size P0_ (.slice A l0.length c) (mAll mEnt nEnt a1 l0) ∧ Below w0.heap.size w0 w' ∧ Kept w w' P0_ := by
  have HB := Aside0.mk (below_alloc hB (.cells #[.slice A l0.length c, .int .i64 h] 29))
  have HS := Aside0.mk (Kd.S_alloc hS (.cells #[.slice A l0.length c, .int .i64 h] 29))
  have HK := Aside0.mk (Kept.alloc (Kept.refl w P0_) (.cells #[.slice A l0.length c, .int .i64 h] 29))
  clear hB hS
  go_enter Try.func52, Try.ntmps52
  go_wp2_with fail
  refine (laws_markEntryS.to P0_ A c l0 a1 w0 _ HB.out HS.out h0 h1 hl hs).mono ?_
  rintro e w2 ⟨rfl, hS2, hB2, hK2⟩
  have HS2 := Aside0.mk hS2
  have HB2 := Aside0.mk hB2
  have HK2 := Aside0.mk (HK.out.then_ hK2 (fun k hk => .inl hk))
  clear hS2 hB2 hK2
  go_wp2_with fail
  go_ret
  exact ⟨rfl, HS2.out, HB2.out, HK2.out⟩
theorem heldIntS_at (A : Option Addr) (c : Nat) (l : List Int) (W : World) (hr : Kd.C (Kd.int .i64) W A l.length (mAll mNum nNum 1 l)) (hc : l.length ≤ c) (hl : l.length ≤ 1048576) :
    Calls Try.prog 54 #[.slice A l.length c, .int .i64 1] W fun e w' => e = .returned (.int .i64 (nAll nNum 1 l)) ∧ Drawn0 W w' := by
  have := laws_heldIntS.calls (l.length + 1) A c (mAll mNum nNum 1 l) 1 (nAll nNum 1 l) W (by rw [mAll_length]; exact hr) (by rw [mAll_length]; exact hc) (laws_heldIntS_is l _ 1 (by omega) hl (by omega) (by omega))
  rw [mAll_length] at this
  exact this

end Go.Proofs.Ytphmnkcfjgallaa.Q
namespace Go.Proofs.Ytphmnkcfjgallaa.Q
open Go.RowKit Go.Proofs.YtphmnkcfjgallaaW.PrintWords Go.Proofs.YtphmnkcfjgallaaW.PrintLast Go.Proofs.YtphmnkcfjgallaaW.PrintMore
set_option linter.unusedVariables false
set_option linter.unusedSimpArgs false
set_option maxHeartbeats 16000000 in
set_option maxRecDepth 100000 in
theorem laws_markBooks.to (a b : Nat) (X0 : Option Addr) (e0 : Nat) (m0 : List Acc) (d c : Int) (X1 : Option Addr) (e1 : Nat) (m1 : List Ent) (h : Int) (X2 : Option Addr) (e2 : Nat) (m2 : List Per) (p q k : Int) (w0 w : World) (hB : Below w0.heap.size w0 w)
    (hR0 : Kd.R k131 131 w w0.heap.size (Iv a b) (.slice X0 m0.length e0) m0) (hS1 : Kd.S k34 34 w w0.heap.size (Iv a b) (.slice X1 m1.length e1) m1) (hR2 : Kd.R k133 133 w w0.heap.size (Iv a b) (.slice X2 m2.length e2) m2)
    (hbw : b ≤ w.heap.size) (h0 : 0 ≤ k) (h1 : k ≤ 10000000) (l0 : m0.length ≤ 1048576) (l1 : m1.length ≤ 1048576) (s1 : ∀ x ∈ m1, x.f3.length ≤ 1048576) (l2 : m2.length ≤ 1048576) :
    Calls Try.prog 62 #[.agg #[.slice X0 m0.length e0, .int .i64 d, .int .i64 c, .slice X1 m1.length e1, .int .i64 h, .slice X2 m2.length e2, .int .i64 p, .int .i64 q], .int .i64 k] w fun e w' => (∃ K, e = .returned (.int .i64 K) ∧ 0 ≤ K ∧ K ≤ 100000000000000) ∧ Below w0.heap.size w0 w' ∧ Kept w w' (Iv a b) := by
  have O := Aside0.mk (show ((fun w : World => w.alloc (.cells #[.slice X0 m0.length e0, .int .i64 d, .int .i64 c, .slice X1 m1.length e1, .int .i64 h, .slice X2 m2.length e2, .int .i64 p, .int .i64 q] 50)) w) = _ from rfl)
  have hab := below_alloc (Below.refl w.heap.size w) (.cells #[.slice X0 m0.length e0, .int .i64 d, .int .i64 c, .slice X1 m1.length e1, .int .i64 h, .slice X2 m2.length e2, .int .i64 p, .int .i64 q] 50)
  have HB := Aside0.mk (below_into (w := w0) hab hB)
  have t0 := Kd.R_typed (Kd.R_below hR0 hab)
  have t1 := Kd.S_typed (Kd.S_below hS1 hab)
  have t2 := Kd.R_typed (Kd.R_below hR2 hab)
  have o0 := hR0.1
  have o2 := hR2.1
  have R0 := Aside0.mk (Kd.R_tight rfl (Kd.R_below hR0 hab))
  have S1 := Aside0.mk (Kd.S_apart' (Kd.S_apart' (Kd.S_below hS1 hab) t0 (by decide)) t2 (by decide))
  have R2 := Aside0.mk (Kd.R_tight2 rfl (Kd.R_apart' (Kd.R_below hR2 hab) t0 (by decide)))
  have HK := Aside0.mk (Kept.alloc (Kept.refl w (Iv a b)) (.cells #[.slice X0 m0.length e0, .int .i64 d, .int .i64 c, .slice X1 m1.length e1, .int .i64 h, .slice X2 m2.length e2, .int .i64 p, .int .i64 q] 50))
  have O0 := Aside0.mk o0
  have O2 := Aside0.mk o2
  have hbase : ∀ k, Iv a b k → w0.heap.size ≤ k ∨ True := fun _ _ => .inr trivial
  have z0 : ∀ k, (Value.slice X0 m0.length e0).ownBlock = some k → k < w.heap.size := Kd.R_lt hR0
  have z2 : ∀ k, (Value.slice X2 m2.length e2).ownBlock = some k → k < w.heap.size := Kd.R_lt hR2
  have Z0 := Aside0.mk z0
  have Z2 := Aside0.mk z2
  have NW := Aside0.mk (show ¬ Iv a b w.heap.size from fun hk => by have := hk.2; omega)
  clear hB hR0 hS1 hR2 hab t0 t1 t2 o0 o2 hbase z0 z2 O
  go_enter Try.func62, Try.ntmps62
  go_wp2_with fail
  refine (laws_markFrame.calls (m0.length + 101) _ (.slice X0 m0.length e0) m0 d c k _ _ w0 _ HB.out R0.out (laws_markFrame_is m0 d c _ k (by omega) l0 h0 (by omega))).mono ?_
  rintro x w1 ⟨rfl, hR, hB1, hK1⟩
  have f3 : w1.cell? ⟨w.heap.size, 3, none⟩ = some (.slice X1 m1.length e1) := cell_kept (by go_simp) hK1 (fun hk => by have := Z0.out _ hk.symm; simp at this)
  have f4 : w1.cell? ⟨w.heap.size, 4, none⟩ = some (.int .i64 h) := cell_kept (by go_simp) hK1 (fun hk => by have := Z0.out _ hk.symm; simp at this)
  have f5 : w1.cell? ⟨w.heap.size, 5, none⟩ = some (.slice X2 m2.length e2) := cell_kept (by go_simp) hK1 (fun hk => by have := Z0.out _ hk.symm; simp at this)
  have nb0 := nAcc_b m0 k
  have S1' := Aside0.mk (Kd.S_kept S1.out hK1 (fun k hk hk2 => hk.1.2 hk2))
  have R2' := Aside0.mk (Kd.R_kept R2.out hK1 (fun k hk hk2 => hk.2.2 hk2))
  have HB1 := Aside0.mk hB1
  have HK1 := Aside0.mk (HK.out.then_ hK1 (fun k hk => .inl (O0.out k hk.symm)))
  clear hR hB1 hK1
  generalize nAll nAcc k m0 = k1 at *
  go_wp2_with fail
  refine (laws_markLedger.to _ X1 e1 m1 h k1 w0 _ HB1.out S1'.out (by omega) (by omega) l1 s1).mono ?_
  rintro x w2 ⟨rfl, hS, hB2, hK2⟩
  have hbl : ∀ j, w2.cell? ⟨w.heap.size, j, none⟩ = w2.cell? ⟨w.heap.size, j, none⟩ := fun _ => rfl
  have f5' : w2.cell? ⟨w.heap.size, 5, none⟩ = some (.slice X2 m2.length e2) := cell_kept f5 hK2 (fun hk => NW.out hk.1.1)
  have nb1 := nEnt_b m1 s1 k1
  have R2'' := Aside0.mk (Kd.R_kept R2'.out hK2 (fun k hk hk2 => hk2.2 hk.1))
  have HB2 := Aside0.mk hB2
  have HK2 := Aside0.mk (HK1.out.then_ hK2 (fun k hk => .inl hk.1.1))
  clear hS hB2 hK2 f3 f4 f5 hbl
  generalize nAll nEnt k1 m1 = k2 at *
  go_wp2_with fail
  refine (laws_markPeriodS.calls (m2.length + 1) _ (.slice X2 m2.length e2) m2 k2 _ _ w0 _ HB2.out R2''.out (laws_markPeriodS_is m2 _ k2 (by omega) l2 (by omega) (by omega))).mono ?_
  rintro x w3 ⟨rfl, hR, hB3, hK3⟩
  have nb2 := nPer_b m2 k2
  have HB3 := Aside0.mk hB3
  have HK3 := Aside0.mk (HK2.out.then_ hK3 (fun k hk => .inl hk.2.1))
  clear hR hB3 hK3
  generalize nAll nPer k2 m2 = k3 at *
  go_wp2_with fail
  go_ret
  exact ⟨⟨k3, rfl, by omega, by omega⟩, HB3.out, HK3.out⟩

end Go.Proofs.Ytphmnkcfjgallaa.Q
