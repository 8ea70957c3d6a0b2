/- Parts of the proof: what functions of the program and of the reference answer.
   No condition. -/
import Derived.Test.YtjkjjfbcakbmnaaGreatDoorZRecord1
import Derived.Test.YtjkjjfbcakbmnaaGreatDoorZRecord5
import Derived.Test.YtjkjjfbcakbmnaaGreatDoorZRecord6
import Derived.Test.YtjkjjfbcakbmnaaGreatDoorZRecord7
namespace Go.Proofs.YtjkjjfbcakbmnaaGreatDoor.Q
open Go.RowKit Go.Proofs.YtjkjjfbcakbmnaaGreatDoorW.PrintWords Go.Proofs.YtjkjjfbcakbmnaaGreatDoorW.PrintLast Go.Proofs.YtjkjjfbcakbmnaaGreatDoorW.PrintMore
attribute [local go_sem] max2_int min2_int max_two min_two max_three min_three max_four min_four   -- for this text's walks alone
set_option linter.unusedVariables false
set_option linter.unusedSimpArgs false
noncomputable def laws_markAccountS.l0 : Nat → List (S48) → Int → Int → Option (Int × (List (S48)))
  | 0, _, _, _ => none
  | k + 1, x0, x1, x5 => if x5 < (x0.length : Int) then ((laws_markText.f k x1).bind fun t116001 => (if 0 ≤ x5 then ((some (x0.set (x5 : Int).toNat (⟨t116001, (rd_T48 x0 x5).f1, (rd_T48 x0 x5).f2⟩ : S48) : List (S48))).bind fun y116002 => ((some (y116002.set (x5 : Int).toNat (⟨(rd_T48 y116002 x5).f0, wrap64 (x1 + 1), (rd_T48 y116002 x5).f2⟩ : S48) : List (S48))).bind fun y116003 => (laws_markAccountS.l0 k (y116003.set (x5 : Int).toNat (⟨(rd_T48 y116003 x5).f0, (rd_T48 y116003 x5).f1, wrap64 ((wrap64 (x1 + 1)) + 1)⟩ : S48)) (wrap64 ((wrap64 ((wrap64 (x1 + 1)) + 1)) + 1)) (wrap64 (x5 + 1))))) else (none))) else (some (x1, x0))
noncomputable def laws_markAccountS.f (k : Nat) (l0 : List (S48)) (a1 : Int) : Option (Int × (List (S48))) := laws_markAccountS.l0 k l0 a1 0
set_option maxHeartbeats 8000000 in
set_option maxRecDepth 100000 in
theorem laws_markAccountS.calls (k : Nat) (P0_ : Nat → Prop) (u9000_ : Value) (l0 : List (S48)) (a1 : Int) (r1 : Int) (r2 : List (S48)) (w0 w : World) (hB : Below w0.heap.size w0 w) (ho0 : Kd.R k48 48 w w0.heap.size P0_ u9000_ l0) (h : laws_markAccountS.f k l0 a1 = some (r1, r2)) :
    Calls Tryz.prog 115 #[u9000_, .int .i64 a1] w fun e w' => e = .returned (.int .i64 r1) ∧ Kd.R k48 48 w' w0.heap.size (fun k_ => (P0_ k_ ∨ w.heap.size ≤ k_)) u9000_ r2 ∧ Below w0.heap.size w0 w' ∧ Kept w w' (fun k_ => P0_ k_) := by
  have HO0 := Aside0.mk (show Kd.R k48 48 w w0.heap.size (fun k_ => (P0_ k_ ∨ w.heap.size ≤ k_)) u9000_ l0 from Kd.R_mono ho0 (fun k_ hk => (.inl hk)))
  have HK := Aside0.mk (Kept.refl w (fun k_ => P0_ k_))
  have HW0 := Aside0.mk hB.size
  have HB := Aside0.mk hB
  clear hB
  have H : (laws_markAccountS.l0 k l0 a1 0) = some (r1, r2) := h
  clear h
  have H' := Aside0.mk H
  clear H
  go_enter Tryz.func115, Tryz.ntmps115
  go_wp2
  go_loopg [1, 5] k (fun kq v1 v5 w' => ∃ (x0_1 : List (S48)) (x1_1 : Int) (x5_1 : Int), v1 = .int .i64 x1_1 ∧ v5 = .int .i64 x5_1 ∧ Aside0 (laws_markAccountS.l0 kq x0_1 x1_1 x5_1 = some (r1, r2)) ∧ Aside0 (kq ≤ k) ∧ Aside0 (Kd.R k48 48 w' w0.heap.size (fun k_ => (P0_ k_ ∨ w.heap.size ≤ k_)) u9000_ x0_1) ∧ Aside0 (Kept w w' (fun k_ => P0_ k_)) ∧ Aside0 (Below w0.heap.size w0 w'))
  case atStart => exact ⟨(l0), (a1), (0), (by first | rfl | (simp; done) | (simp [*]; done)), (by first | rfl | (simp; done) | (simp [*]; done)), H', ⟨Nat.le_refl _⟩, ⟨by (with_reducible repeat (first | apply Kd.R_alloc | apply Kd.R_drewN | apply Kd.R_drew)); exact HO0.out⟩, ⟨by repeat (first | (with_reducible first | exact HK.out | apply Kept.alloc | apply Kept.drewN | apply Kept.drew) | exact HK.out)⟩, ⟨by repeat (first | (with_reducible first | exact HB.out | apply y01 | apply y02 | apply y04) | exact HB.out)⟩⟩
  case round =>
    clear H'
    try clear c1
    try clear p2
    obtain ⟨x0_1, x1_1, x5_1, rfl, rfl, HA, HK1, HO_0, HK, HB⟩ := hrel
    cases gk with
    | zero => exact absurd HA.out (by simp [laws_markAccountS.l0])
    | succ k1 =>
      have H := HA.out
      clear HA
      simp only [laws_markAccountS.l0] at H
      by_cases c3 : x5_1 < (x0_1.length : Int)
      · rw [if_pos c3] at H
        have c3b0 : decide (x5_1 < (x0_1.length : Int)) = true := decide_eq_true c3
        clear c3
        replace H := Option.bind_eq_some_iff.mp H
        obtain ⟨t116001, A40, H⟩ := H
        replace H : (if 0 ≤ x5_1 then ((some (x0_1.set (x5_1 : Int).toNat (⟨t116001, (rd_T48 x0_1 x5_1).f1, (rd_T48 x0_1 x5_1).f2⟩ : S48) : List (S48))).bind fun y116002 => ((some (y116002.set (x5_1 : Int).toNat (⟨(rd_T48 y116002 x5_1).f0, wrap64 (x1_1 + 1), (rd_T48 y116002 x5_1).f2⟩ : S48) : List (S48))).bind fun y116003 => (laws_markAccountS.l0 k1 (y116003.set (x5_1 : Int).toNat (⟨(rd_T48 y116003 x5_1).f0, (rd_T48 y116003 x5_1).f1, wrap64 ((wrap64 (x1_1 + 1)) + 1)⟩ : S48)) (wrap64 ((wrap64 ((wrap64 (x1_1 + 1)) + 1)) + 1)) (wrap64 (x5_1 + 1))))) else (none)) = some (r1, r2) := H
        have A4 := Aside0.mk A40
        clear A40
        by_cases c5 : 0 ≤ x5_1
        · rw [if_pos c5] at H
          have c5b0 : decide (0 ≤ x5_1) = true := decide_eq_true c5
          clear c5
          obtain ⟨y116002, hy116002⟩ : ∃ y_ : List (S48), y_ = (x0_1.set (x5_1 : Int).toNat (⟨t116001, (rd_T48 x0_1 x5_1).f1, (rd_T48 x0_1 x5_1).f2⟩ : S48)) := ⟨_, rfl⟩
          replace H : ((some (y116002.set (x5_1 : Int).toNat (⟨(rd_T48 y116002 x5_1).f0, wrap64 (x1_1 + 1), (rd_T48 y116002 x5_1).f2⟩ : S48) : List (S48))).bind fun y116003 => (laws_markAccountS.l0 k1 (y116003.set (x5_1 : Int).toNat (⟨(rd_T48 y116003 x5_1).f0, (rd_T48 y116003 x5_1).f1, wrap64 ((wrap64 (x1_1 + 1)) + 1)⟩ : S48)) (wrap64 ((wrap64 ((wrap64 (x1_1 + 1)) + 1)) + 1)) (wrap64 (x5_1 + 1)))) = some (r1, r2) := by first | (rw [hy116002]; with_reducible exact H) | (have H2_ := (Option.bind_some _ _).symm.trans H; rw [hy116002]; with_reducible exact H2_) | (have H2_ := (Option.bind_some _ _).symm.trans H; with_reducible exact H2_) | with_reducible exact H | (rw [hy116002]; exact H) | exact H
          have Ny116002 := Aside0.mk hy116002
          clear hy116002
          obtain ⟨y116003, hy116003⟩ : ∃ y_ : List (S48), y_ = (y116002.set (x5_1 : Int).toNat (⟨(rd_T48 y116002 x5_1).f0, wrap64 (x1_1 + 1), (rd_T48 y116002 x5_1).f2⟩ : S48)) := ⟨_, rfl⟩
          replace H : (laws_markAccountS.l0 k1 (y116003.set (x5_1 : Int).toNat (⟨(rd_T48 y116003 x5_1).f0, (rd_T48 y116003 x5_1).f1, wrap64 ((wrap64 (x1_1 + 1)) + 1)⟩ : S48)) (wrap64 ((wrap64 ((wrap64 (x1_1 + 1)) + 1)) + 1)) (wrap64 (x5_1 + 1))) = some (r1, r2) := by first | (rw [hy116003]; with_reducible exact H) | (have H2_ := (Option.bind_some _ _).symm.trans H; rw [hy116003]; with_reducible exact H2_) | (have H2_ := (Option.bind_some _ _).symm.trans H; with_reducible exact H2_) | with_reducible exact H | (rw [hy116003]; exact H) | exact H
          have Ny116003 := Aside0.mk hy116003
          clear hy116003
          obtain ⟨y116004, hy116004⟩ : ∃ y_ : List (S48), y_ = (y116003.set (x5_1 : Int).toNat (⟨(rd_T48 y116003 x5_1).f0, (rd_T48 y116003 x5_1).f1, wrap64 ((wrap64 (x1_1 + 1)) + 1)⟩ : S48)) := ⟨_, rfl⟩
          replace H : (laws_markAccountS.l0 k1 y116004 (wrap64 ((wrap64 ((wrap64 (x1_1 + 1)) + 1)) + 1)) (wrap64 (x5_1 + 1))) = some (r1, r2) := by first | (rw [hy116004]; with_reducible exact H) | (have H2_ := (Option.bind_some _ _).symm.trans H; rw [hy116004]; with_reducible exact H2_) | (have H2_ := (Option.bind_some _ _).symm.trans H; with_reducible exact H2_) | with_reducible exact H | (rw [hy116004]; exact H) | exact H
          have Ny116004 := Aside0.mk hy116004
          clear hy116004
          have H' := Aside0.mk H
          clear H
          obtain ⟨Ao9, co9, eo9⟩ := Kd.R_slice HO_0.out
          subst eo9
          go_wp2_with (first | ((with_reducible refine gate_callee (f := 133) rfl ?_); refine goesL_ (some 15) rfl rfl Tryz.func133 (by kernel_rfl) rfl #[.int .i64 x1_1] rfl (by (try simp only [List.map_toArray, List.map_cons, List.map_nil]); first | done | rfl | (simp only [List.length_drop, List.length_take]; rfl)) ?_; (with_reducible refine (laws_markText.calls k1 x1_1 t116001 _ A4.out).mono ?_); rintro e w10 ⟨rfl, hb⟩; refine ⟨_, rfl, ?_⟩; have n0_ := Aside0.mk (Kd.R_below (by (with_reducible repeat (first | apply Kd.R_alloc | apply Kd.R_drewN | apply Kd.R_drew)); exact HO_0.out) hb); have n1_ := Aside0.mk (Kept.below (S := (fun k_ => P0_ k_)) (by repeat (first | (with_reducible first | exact HK.out | apply Kept.alloc | apply Kept.drewN | apply Kept.drew) | exact HK.out)) hb); have n2_ := Aside0.mk (below_step (by repeat (first | (with_reducible first | exact HB.out | apply y01 | apply y02 | apply y04) | exact HB.out)) hb); clear HO_0; clear HK; clear HB; have HO_0 := n0_; have HK := n1_; have HB := n2_; clear n0_ n1_ n2_; (try clear hb); (try clear hb2); (try clear hk); (try clear hi); have p6 : 0 ≤ (x5_1 : Int) := of_decide_eq_true (by first | (with_reducible assumption) | assumption); have q6 : (x5_1 : Int) < ((x0_1.length : Int) : Int) := of_decide_eq_true (by first | (with_reducible assumption) | assumption); obtain ⟨go6, co6, eo6, gb6, gl6, cl6, HG6⟩ := Kd.R_form HO_0.out (by omega); (first | cases eo6 | (injection eo6 with ea_ en_ ec_; (first | subst ea_ | (injection ea_ with ea_; subst ea_)); subst ec_; clear en_)); have GB6 := Aside0.mk gb6; have GG6 := Aside0.mk HG6; clear gb6 gl6 HG6; have HMgo6 := Aside0.mk (show (P0_ go6 ∨ w.heap.size ≤ go6) from (HO_0.out.1 _ rfl)); obtain ⟨ce6, hcl6, hM6, hcc6, hfr6⟩ := Kd.R_elem HO_0.out z48 (x5_1 : Int) p6 q6; obtain rfl := k48_openM hM6; have hx6_0 : w10.cell? ⟨go6, (x5_1 : Int).toNat * 3, none⟩ = some (.string ((rd_T48 x0_1 x5_1).f0)) := hcc6 0 _ rfl; have hx6_1 : w10.cell? ⟨go6, (x5_1 : Int).toNat * 3 + 1, none⟩ = some (.int .i64 ((rd_T48 x0_1 x5_1).f1)) := hcc6 1 _ rfl; have hx6_2 : w10.cell? ⟨go6, (x5_1 : Int).toNat * 3 + 2, none⟩ = some (.int .i64 ((rd_T48 x0_1 x5_1).f2)) := hcc6 2 _ rfl; have hf6_0 : w10.frozen? ⟨go6, (x5_1 : Int).toNat * 3, none⟩ = false := hfr6 0; have hf6_1 : w10.frozen? ⟨go6, (x5_1 : Int).toNat * 3 + 1, none⟩ = false := hfr6 1; have hf6_2 : w10.frozen? ⟨go6, (x5_1 : Int).toNat * 3 + 2, none⟩ = false := hfr6 2; clear hcl6 hcc6 hfr6 hM6; replace p6 := eq_true p6; replace q6 := eq_true q6; have HX11 := Aside0.mk (show Kd.R k48 48 w10 w0.heap.size (fun k_ => (P0_ k_ ∨ w.heap.size ≤ k_)) (.slice (some ⟨go6, 0, none⟩) x0_1.length co9) x0_1 from (by (with_reducible repeat (first | apply Kd.R_alloc | apply Kd.R_drewN | apply Kd.R_drew)); exact HO_0.out)); obtain ⟨ce11, hcl11, hM11, hcc11, hfr11⟩ := Kd.R_elem HX11.out z48 (x5_1 : Int) (of_decide_eq_true (by first | (with_reducible assumption) | assumption)) (by have h_ : (x5_1 : Int) < ((x0_1.length : Int) : Int) := of_decide_eq_true (by first | (with_reducible assumption) | assumption); first | exact h_ | (have e_ := (Kd.R_reads' HO_0.out).1; omega) | simpa using h_); obtain rfl := k48_openM hM11; have HP11 := Kd.R_seg HX11.out (x5_1 : Int) (of_decide_eq_true (by first | (with_reducible assumption) | assumption)) (by have h_ : (x5_1 : Int) < ((x0_1.length : Int) : Int) := of_decide_eq_true (by first | (with_reducible assumption) | assumption); first | exact h_ | (have e_ := (Kd.R_reads' HO_0.out).1; omega) | simpa using h_) (seg := [.string t116001]) (j := 0) hcl11 hcc11 (show 1 ≤ 3 from by decide) (x' := (⟨t116001, (rd_T48 x0_1 x5_1).f1, (rd_T48 x0_1 x5_1).f2⟩ : S48)) (k48_mkM _ _ _ (⟨t116001, (rd_T48 x0_1 x5_1).f1, (rd_T48 x0_1 x5_1).f2⟩ : S48) ) (fun _ hk => hk); have hx11_0 := hcc11 0 _ rfl; (try simp only [show (k48).sz = 3 from rfl, Nat.mul_one, Nat.add_zero] at hx11_0); have hf11_0 := hfr11 0; (try simp only [show (k48).sz = 3 from rfl, Nat.mul_one, Nat.add_zero] at hf11_0); clear hcl11 hcc11 hfr11 hM11) | ((with_reducible refine gate_store (t := 9) (p := 17) rfl ?_); refine store_event (t := 9) (p := 17) (v := ?vo_w12) (w1 := (w10.setCell ⟨go6, (x5_1 : Int).toNat * 3, none⟩ (.string t116001))) ?hg ?ho ?hn ?hr ?_; (case ho => rfl); (case hg => rfl); (case hn => rfl); (case hr => first | (go_simp; done) | (go_simp; rfl)); intro w12 hw; have hg : w10.grownBy w12 (some go6) := (by rw [hw]; exact HP11.2); have hp_ : Kd.R k48 48 w12 w0.heap.size (fun k_ => (P0_ k_ ∨ w.heap.size ≤ k_)) (.slice (some ⟨go6, 0, none⟩) x0_1.length co9) y116002 := (by rw [hw, Ny116002.out]; exact HP11.1); clear HP11; have n0_ := Aside0.mk (hp_); have n1_ := Aside0.mk ((by rw [hw]; exact y08 (HB.out) GB6.out : Below w0.heap.size w0 w12)); have n2_ := Aside0.mk (Kept.of_grown (S := (fun k_ => P0_ k_)) hg (by repeat (first | (with_reducible first | exact HK.out | apply Kept.alloc | apply Kept.drewN | apply Kept.drew) | exact HK.out)) (fun k_ e_ => (HO_0.out.1 k_ e_))); clear HO_0; clear HB; clear HK; have HO_0 := n0_; have HB := n1_; have HK := n2_; clear n0_ n1_ n2_; clear hg hw hp_; have p7 : 0 ≤ (x5_1 : Int) := of_decide_eq_true (by first | (with_reducible assumption) | assumption); have q7 : (x5_1 : Int) < ((x0_1.length : Int) : Int) := of_decide_eq_true (by first | (with_reducible assumption) | assumption); obtain ⟨ce7, hcl7, hM7, hcc7, hfr7⟩ := Kd.R_elem HO_0.out z48 (x5_1 : Int) p7 q7; obtain rfl := k48_openM hM7; have hx7_0 : w12.cell? ⟨go6, (x5_1 : Int).toNat * 3, none⟩ = some (.string ((rd_T48 y116002 x5_1).f0)) := hcc7 0 _ rfl; have hx7_1 : w12.cell? ⟨go6, (x5_1 : Int).toNat * 3 + 1, none⟩ = some (.int .i64 ((rd_T48 y116002 x5_1).f1)) := hcc7 1 _ rfl; have hx7_2 : w12.cell? ⟨go6, (x5_1 : Int).toNat * 3 + 2, none⟩ = some (.int .i64 ((rd_T48 y116002 x5_1).f2)) := hcc7 2 _ rfl; have hf7_0 : w12.frozen? ⟨go6, (x5_1 : Int).toNat * 3, none⟩ = false := hfr7 0; have hf7_1 : w12.frozen? ⟨go6, (x5_1 : Int).toNat * 3 + 1, none⟩ = false := hfr7 1; have hf7_2 : w12.frozen? ⟨go6, (x5_1 : Int).toNat * 3 + 2, none⟩ = false := hfr7 2; clear hcl7 hcc7 hfr7 hM7; replace p7 := eq_true p7; replace q7 := eq_true q7; have HX13 := Aside0.mk (show Kd.R k48 48 w12 w0.heap.size (fun k_ => (P0_ k_ ∨ w.heap.size ≤ k_)) (.slice (some ⟨go6, 0, none⟩) x0_1.length co9) y116002 from (by (with_reducible repeat (first | apply Kd.R_alloc | apply Kd.R_drewN | apply Kd.R_drew)); exact HO_0.out)); obtain ⟨ce13, hcl13, hM13, hcc13, hfr13⟩ := Kd.R_elem HX13.out z48 (x5_1 : Int) (of_decide_eq_true (by first | (with_reducible assumption) | assumption)) (by have h_ : (x5_1 : Int) < ((x0_1.length : Int) : Int) := of_decide_eq_true (by first | (with_reducible assumption) | assumption); first | exact h_ | (have e_ := (Kd.R_reads' HO_0.out).1; omega) | simpa using h_); obtain rfl := k48_openM hM13; have HP13 := Kd.R_seg HX13.out (x5_1 : Int) (of_decide_eq_true (by first | (with_reducible assumption) | assumption)) (by have h_ : (x5_1 : Int) < ((x0_1.length : Int) : Int) := of_decide_eq_true (by first | (with_reducible assumption) | assumption); first | exact h_ | (have e_ := (Kd.R_reads' HO_0.out).1; omega) | simpa using h_) (seg := [.int .i64 (wrap64 (x1_1 + 1))]) (j := 1) hcl13 hcc13 (show 2 ≤ 3 from by decide) (x' := (⟨(rd_T48 y116002 x5_1).f0, wrap64 (x1_1 + 1), (rd_T48 y116002 x5_1).f2⟩ : S48)) (k48_mkM _ _ _ (⟨(rd_T48 y116002 x5_1).f0, wrap64 (x1_1 + 1), (rd_T48 y116002 x5_1).f2⟩ : S48) ) (fun _ hk => hk); have hx13_1 := hcc13 1 _ rfl; (try simp only [show (k48).sz = 3 from rfl, Nat.mul_one, Nat.add_zero] at hx13_1); have hf13_1 := hfr13 1; (try simp only [show (k48).sz = 3 from rfl, Nat.mul_one, Nat.add_zero] at hf13_1); clear hcl13 hcc13 hfr13 hM13) | ((with_reducible refine gate_store (t := 3) (p := 24) rfl ?_); refine store_event (t := 3) (p := 24) (v := ?vo_w14) (w1 := (w12.setCell ⟨go6, (x5_1 : Int).toNat * 3 + 1, none⟩ (.int .i64 (wrap64 (x1_1 + 1))))) ?hg ?ho ?hn ?hr ?_; (case ho => rfl); (case hg => rfl); (case hn => rfl); (case hr => first | (go_simp; done) | (go_simp; rfl)); intro w14 hw; have hg : w12.grownBy w14 (some go6) := (by rw [hw]; exact HP13.2); have hp_ : Kd.R k48 48 w14 w0.heap.size (fun k_ => (P0_ k_ ∨ w.heap.size ≤ k_)) (.slice (some ⟨go6, 0, none⟩) x0_1.length co9) y116003 := (by rw [hw, Ny116003.out]; exact HP13.1); clear HP13; have n0_ := Aside0.mk (hp_); have n1_ := Aside0.mk ((by rw [hw]; exact y08 (HB.out) GB6.out : Below w0.heap.size w0 w14)); have n2_ := Aside0.mk (Kept.of_grown (S := (fun k_ => P0_ k_)) hg (by repeat (first | (with_reducible first | exact HK.out | apply Kept.alloc | apply Kept.drewN | apply Kept.drew) | exact HK.out)) (fun k_ e_ => (HO_0.out.1 k_ e_))); clear HO_0; clear HB; clear HK; have HO_0 := n0_; have HB := n1_; have HK := n2_; clear n0_ n1_ n2_; clear hg hw hp_; have p8 : 0 ≤ (x5_1 : Int) := of_decide_eq_true (by first | (with_reducible assumption) | assumption); have q8 : (x5_1 : Int) < ((x0_1.length : Int) : Int) := of_decide_eq_true (by first | (with_reducible assumption) | assumption); obtain ⟨ce8, hcl8, hM8, hcc8, hfr8⟩ := Kd.R_elem HO_0.out z48 (x5_1 : Int) p8 q8; obtain rfl := k48_openM hM8; have hx8_0 : w14.cell? ⟨go6, (x5_1 : Int).toNat * 3, none⟩ = some (.string ((rd_T48 y116003 x5_1).f0)) := hcc8 0 _ rfl; have hx8_1 : w14.cell? ⟨go6, (x5_1 : Int).toNat * 3 + 1, none⟩ = some (.int .i64 ((rd_T48 y116003 x5_1).f1)) := hcc8 1 _ rfl; have hx8_2 : w14.cell? ⟨go6, (x5_1 : Int).toNat * 3 + 2, none⟩ = some (.int .i64 ((rd_T48 y116003 x5_1).f2)) := hcc8 2 _ rfl; have hf8_0 : w14.frozen? ⟨go6, (x5_1 : Int).toNat * 3, none⟩ = false := hfr8 0; have hf8_1 : w14.frozen? ⟨go6, (x5_1 : Int).toNat * 3 + 1, none⟩ = false := hfr8 1; have hf8_2 : w14.frozen? ⟨go6, (x5_1 : Int).toNat * 3 + 2, none⟩ = false := hfr8 2; clear hcl8 hcc8 hfr8 hM8; replace p8 := eq_true p8; replace q8 := eq_true q8; have HX15 := Aside0.mk (show Kd.R k48 48 w14 w0.heap.size (fun k_ => (P0_ k_ ∨ w.heap.size ≤ k_)) (.slice (some ⟨go6, 0, none⟩) x0_1.length co9) y116003 from (by (with_reducible repeat (first | apply Kd.R_alloc | apply Kd.R_drewN | apply Kd.R_drew)); exact HO_0.out)); obtain ⟨ce15, hcl15, hM15, hcc15, hfr15⟩ := Kd.R_elem HX15.out z48 (x5_1 : Int) (of_decide_eq_true (by first | (with_reducible assumption) | assumption)) (by have h_ : (x5_1 : Int) < ((x0_1.length : Int) : Int) := of_decide_eq_true (by first | (with_reducible assumption) | assumption); first | exact h_ | (have e_ := (Kd.R_reads' HO_0.out).1; omega) | simpa using h_); obtain rfl := k48_openM hM15; have HP15 := Kd.R_seg HX15.out (x5_1 : Int) (of_decide_eq_true (by first | (with_reducible assumption) | assumption)) (by have h_ : (x5_1 : Int) < ((x0_1.length : Int) : Int) := of_decide_eq_true (by first | (with_reducible assumption) | assumption); first | exact h_ | (have e_ := (Kd.R_reads' HO_0.out).1; omega) | simpa using h_) (seg := [.int .i64 (wrap64 ((wrap64 (x1_1 + 1)) + 1))]) (j := 2) hcl15 hcc15 (show 3 ≤ 3 from by decide) (x' := (⟨(rd_T48 y116003 x5_1).f0, (rd_T48 y116003 x5_1).f1, wrap64 ((wrap64 (x1_1 + 1)) + 1)⟩ : S48)) (k48_mkM _ _ _ (⟨(rd_T48 y116003 x5_1).f0, (rd_T48 y116003 x5_1).f1, wrap64 ((wrap64 (x1_1 + 1)) + 1)⟩ : S48) ) (fun _ hk => hk); have hx15_2 := hcc15 2 _ rfl; (try simp only [show (k48).sz = 3 from rfl, Nat.mul_one, Nat.add_zero] at hx15_2); have hf15_2 := hfr15 2; (try simp only [show (k48).sz = 3 from rfl, Nat.mul_one, Nat.add_zero] at hf15_2); clear hcl15 hcc15 hfr15 hM15) | ((with_reducible refine gate_store (t := 3) (p := 31) rfl ?_); refine store_event (t := 3) (p := 31) (v := ?vo_w16) (w1 := (w14.setCell ⟨go6, (x5_1 : Int).toNat * 3 + 2, none⟩ (.int .i64 (wrap64 ((wrap64 (x1_1 + 1)) + 1))))) ?hg ?ho ?hn ?hr ?_; (case ho => rfl); (case hg => rfl); (case hn => rfl); (case hr => first | (go_simp; done) | (go_simp; rfl)); intro w16 hw; have hg : w14.grownBy w16 (some go6) := (by rw [hw]; exact HP15.2); have hp_ : Kd.R k48 48 w16 w0.heap.size (fun k_ => (P0_ k_ ∨ w.heap.size ≤ k_)) (.slice (some ⟨go6, 0, none⟩) x0_1.length co9) y116004 := (by rw [hw, Ny116004.out]; exact HP15.1); clear HP15; have n0_ := Aside0.mk (hp_); have n1_ := Aside0.mk ((by rw [hw]; exact y08 (HB.out) GB6.out : Below w0.heap.size w0 w16)); have n2_ := Aside0.mk (Kept.of_grown (S := (fun k_ => P0_ k_)) hg (by repeat (first | (with_reducible first | exact HK.out | apply Kept.alloc | apply Kept.drewN | apply Kept.drew) | exact HK.out)) (fun k_ e_ => (HO_0.out.1 k_ e_))); clear HO_0; clear HB; clear HK; have HO_0 := n0_; have HB := n1_; have HK := n2_; clear n0_ n1_ n2_; clear hg hw hp_))
          go_roundg k1
          case measure => have := HK1.out; omega
          case rel => exact ⟨(y116004), (wrap64 ((wrap64 ((wrap64 (x1_1 + 1)) + 1)) + 1)), (wrap64 (x5_1 + 1)), (by first | rfl | (simp; done) | (simp [*]; done)), (by first | rfl | (simp; done) | (simp [*]; done)), H', ⟨by have := HK1.out; omega⟩, ⟨by (with_reducible repeat (first | apply Kd.R_alloc | apply Kd.R_drewN | apply Kd.R_drew)); exact HO_0.out⟩, ⟨by repeat (first | (with_reducible first | exact HK.out | apply Kept.alloc | apply Kept.drewN | apply Kept.drew) | exact HK.out)⟩, ⟨by repeat (first | (with_reducible first | exact HB.out | apply y01 | apply y02 | apply y04) | exact HB.out)⟩⟩
        · rw [if_neg c5] at H
          exact absurd H (by simp)
      · rw [if_neg c3] at H
        have c3b0 : decide (x5_1 < (x0_1.length : Int)) = false := decide_eq_false c3
        clear c3
        simp only [Option.some.injEq, Prod.mk.injEq] at H
        obtain ⟨rfl, rfl⟩ := H
        obtain ⟨Ao17, co17, eo17⟩ := Kd.R_slice HO_0.out
        subst eo17
        go_wp2
        go_ret
        exact ⟨by first | rfl | (simp [errW_none, errW_some] <;> rfl) | (simp [*, errW_none, errW_some] <;> rfl), by (with_reducible repeat (first | apply Kd.R_alloc | apply Kd.R_drewN | apply Kd.R_drew)); exact HO_0.out, by repeat (first | (with_reducible first | exact HB.out | apply y01 | apply y02 | apply y04) | exact HB.out), by repeat (first | (with_reducible first | exact HK.out | apply Kept.alloc | apply Kept.drewN | apply Kept.drew) | exact HK.out)⟩
end Go.Proofs.YtjkjjfbcakbmnaaGreatDoor.Q
namespace Go.Proofs.YtjkjjfbcakbmnaaGreatDoor.Q
open Go.RowKit Go.Proofs.YtjkjjfbcakbmnaaGreatDoorW.PrintWords Go.Proofs.YtjkjjfbcakbmnaaGreatDoorW.PrintLast Go.Proofs.YtjkjjfbcakbmnaaGreatDoorW.PrintMore
set_option linter.unusedVariables false
set_option linter.unusedSimpArgs false
structure Sent (w : World) (A : Nat → Addr) : Prop where
  cell : ∀ i, i < 5 → w.cell? ⟨i, 0, none⟩ = some (.iface 209 (.pointer (some (A i))))
  row : ∀ i, i < 5 → ∃ c t, w.heap[(A i).block]? = some (.cells c t (0, 0))
  apart : ∀ i j, i < 5 → j < 5 → i ≠ j → A i ≠ A j
theorem Sent.below {w w' : World} {A : Nat → Addr} {n : Nat} (h : Sent w A) (hb : Below n w w') (hn : n = w.heap.size) : Sent w' A := by
  subst hn
  refine ⟨fun i hi => y00 hb (h.cell i hi), fun i hi => ?_, h.apart⟩
  obtain ⟨c, t, hr⟩ := h.row i hi
  refine ⟨c, t, (hb.block _ ?_).trans hr⟩
  rcases Nat.lt_or_ge (A i).block w.heap.size with q | q
  · exact q
  · rw [Array.getElem?_eq_none q] at hr; cases hr
set_option maxRecDepth 100000 in
theorem codeOf_0 (A : Nat → Addr) (pb : Nat) (w : World) (hS : Sent w A) (h1 : w.cell? ⟨pb, 0 + 1, none⟩ = some (.iface 209 (.pointer (some (A 0))))) :
    Calls Tryz.prog 46 #[.iface 149 (.pointer (some ⟨pb, 0, none⟩))] w fun e w' => e = .returned (.int .i64 1) ∧ w' = w := by
  have g0 := hS.cell 0 (by omega)
  have g1 := hS.cell 1 (by omega)
  have g2 := hS.cell 2 (by omega)
  have g3 := hS.cell 3 (by omega)
  have g4 := hS.cell 4 (by omega)
  obtain ⟨c0, t0, r0⟩ := hS.row 0 (by omega)
  obtain ⟨c1, t1, r1⟩ := hS.row 1 (by omega)
  obtain ⟨c2, t2, r2⟩ := hS.row 2 (by omega)
  obtain ⟨c3, t3, r3⟩ := hS.row 3 (by omega)
  obtain ⟨c4, t4, r4⟩ := hS.row 4 (by omega)
  clear hS
  generalize A 0 = a0 at *
  generalize A 1 = a1 at *
  generalize A 2 = a2 at *
  generalize A 3 = a3 at *
  generalize A 4 = a4 at *
  go_enter Tryz.func46, Tryz.ntmps46
  go_wp2_with fail
  refine (er_same pb 0 a0 _ h1).mono ?_
  rintro x w' ⟨rfl, rfl⟩
  go_wp2_with fail
  go_ret
  exact ⟨rfl, rfl⟩
set_option maxRecDepth 100000 in
theorem codeOf_1 (A : Nat → Addr) (pb : Nat) (w : World) (hS : Sent w A) (h1 : w.cell? ⟨pb, 0 + 1, none⟩ = some (.iface 209 (.pointer (some (A 1))))) :
    Calls Tryz.prog 46 #[.iface 149 (.pointer (some ⟨pb, 0, none⟩))] w fun e w' => e = .returned (.int .i64 2) ∧ w' = w := by
  have g0 := hS.cell 0 (by omega)
  have g1 := hS.cell 1 (by omega)
  have g2 := hS.cell 2 (by omega)
  have g3 := hS.cell 3 (by omega)
  have g4 := hS.cell 4 (by omega)
  obtain ⟨c0, t0, r0⟩ := hS.row 0 (by omega)
  obtain ⟨c1, t1, r1⟩ := hS.row 1 (by omega)
  obtain ⟨c2, t2, r2⟩ := hS.row 2 (by omega)
  obtain ⟨c3, t3, r3⟩ := hS.row 3 (by omega)
  obtain ⟨c4, t4, r4⟩ := hS.row 4 (by omega)
  have n0 := hS.apart 1 0 (by omega) (by omega) (by omega)
  clear hS
  generalize A 0 = a0 at *
  generalize A 1 = a1 at *
  generalize A 2 = a2 at *
  generalize A 3 = a3 at *
  generalize A 4 = a4 at *
  go_enter Tryz.func46, Tryz.ntmps46
  go_wp2_with fail
  refine (er_other pb 0 a0 a1 c1 c0 t1 t0 _ h1 n0 r1 r0).mono ?_
  rintro x w' ⟨rfl, rfl⟩
  go_wp2_with fail
  refine (er_same pb 0 a1 _ h1).mono ?_
  rintro x w' ⟨rfl, rfl⟩
  go_wp2_with fail
  go_ret
  exact ⟨rfl, rfl⟩
set_option maxRecDepth 100000 in
theorem codeOf_2 (A : Nat → Addr) (pb : Nat) (w : World) (hS : Sent w A) (h1 : w.cell? ⟨pb, 0 + 1, none⟩ = some (.iface 209 (.pointer (some (A 2))))) :
    Calls Tryz.prog 46 #[.iface 149 (.pointer (some ⟨pb, 0, none⟩))] w fun e w' => e = .returned (.int .i64 3) ∧ w' = w := by
  have g0 := hS.cell 0 (by omega)
  have g1 := hS.cell 1 (by omega)
  have g2 := hS.cell 2 (by omega)
  have g3 := hS.cell 3 (by omega)
  have g4 := hS.cell 4 (by omega)
  obtain ⟨c0, t0, r0⟩ := hS.row 0 (by omega)
  obtain ⟨c1, t1, r1⟩ := hS.row 1 (by omega)
  obtain ⟨c2, t2, r2⟩ := hS.row 2 (by omega)
  obtain ⟨c3, t3, r3⟩ := hS.row 3 (by omega)
  obtain ⟨c4, t4, r4⟩ := hS.row 4 (by omega)
  have n0 := hS.apart 2 0 (by omega) (by omega) (by omega)
  have n1 := hS.apart 2 1 (by omega) (by omega) (by omega)
  clear hS
  generalize A 0 = a0 at *
  generalize A 1 = a1 at *
  generalize A 2 = a2 at *
  generalize A 3 = a3 at *
  generalize A 4 = a4 at *
  go_enter Tryz.func46, Tryz.ntmps46
  go_wp2_with fail
  refine (er_other pb 0 a0 a2 c2 c0 t2 t0 _ h1 n0 r2 r0).mono ?_
  rintro x w' ⟨rfl, rfl⟩
  go_wp2_with fail
  refine (er_other pb 0 a1 a2 c2 c1 t2 t1 _ h1 n1 r2 r1).mono ?_
  rintro x w' ⟨rfl, rfl⟩
  go_wp2_with fail
  refine (er_same pb 0 a2 _ h1).mono ?_
  rintro x w' ⟨rfl, rfl⟩
  go_wp2_with fail
  go_ret
  exact ⟨rfl, rfl⟩
set_option maxRecDepth 100000 in
theorem codeOf_3 (A : Nat → Addr) (pb : Nat) (w : World) (hS : Sent w A) (h1 : w.cell? ⟨pb, 0 + 1, none⟩ = some (.iface 209 (.pointer (some (A 3))))) :
    Calls Tryz.prog 46 #[.iface 149 (.pointer (some ⟨pb, 0, none⟩))] w fun e w' => e = .returned (.int .i64 4) ∧ w' = w := by
  have g0 := hS.cell 0 (by omega)
  have g1 := hS.cell 1 (by omega)
  have g2 := hS.cell 2 (by omega)
  have g3 := hS.cell 3 (by omega)
  have g4 := hS.cell 4 (by omega)
  obtain ⟨c0, t0, r0⟩ := hS.row 0 (by omega)
  obtain ⟨c1, t1, r1⟩ := hS.row 1 (by omega)
  obtain ⟨c2, t2, r2⟩ := hS.row 2 (by omega)
  obtain ⟨c3, t3, r3⟩ := hS.row 3 (by omega)
  obtain ⟨c4, t4, r4⟩ := hS.row 4 (by omega)
  have n0 := hS.apart 3 0 (by omega) (by omega) (by omega)
  have n1 := hS.apart 3 1 (by omega) (by omega) (by omega)
  have n2 := hS.apart 3 2 (by omega) (by omega) (by omega)
  clear hS
  generalize A 0 = a0 at *
  generalize A 1 = a1 at *
  generalize A 2 = a2 at *
  generalize A 3 = a3 at *
  generalize A 4 = a4 at *
  go_enter Tryz.func46, Tryz.ntmps46
  go_wp2_with fail
  refine (er_other pb 0 a0 a3 c3 c0 t3 t0 _ h1 n0 r3 r0).mono ?_
  rintro x w' ⟨rfl, rfl⟩
  go_wp2_with fail
  refine (er_other pb 0 a1 a3 c3 c1 t3 t1 _ h1 n1 r3 r1).mono ?_
  rintro x w' ⟨rfl, rfl⟩
  go_wp2_with fail
  refine (er_other pb 0 a2 a3 c3 c2 t3 t2 _ h1 n2 r3 r2).mono ?_
  rintro x w' ⟨rfl, rfl⟩
  go_wp2_with fail
  refine (er_same pb 0 a3 _ h1).mono ?_
  rintro x w' ⟨rfl, rfl⟩
  go_wp2_with fail
  go_ret
  exact ⟨rfl, rfl⟩
set_option maxRecDepth 100000 in
theorem codeOf_4 (A : Nat → Addr) (pb : Nat) (w : World) (hS : Sent w A) (h1 : w.cell? ⟨pb, 0 + 1, none⟩ = some (.iface 209 (.pointer (some (A 4))))) :
    Calls Tryz.prog 46 #[.iface 149 (.pointer (some ⟨pb, 0, none⟩))] w fun e w' => e = .returned (.int .i64 5) ∧ w' = w := by
  have g0 := hS.cell 0 (by omega)
  have g1 := hS.cell 1 (by omega)
  have g2 := hS.cell 2 (by omega)
  have g3 := hS.cell 3 (by omega)
  have g4 := hS.cell 4 (by omega)
  obtain ⟨c0, t0, r0⟩ := hS.row 0 (by omega)
  obtain ⟨c1, t1, r1⟩ := hS.row 1 (by omega)
  obtain ⟨c2, t2, r2⟩ := hS.row 2 (by omega)
  obtain ⟨c3, t3, r3⟩ := hS.row 3 (by omega)
  obtain ⟨c4, t4, r4⟩ := hS.row 4 (by omega)
  have n0 := hS.apart 4 0 (by omega) (by omega) (by omega)
  have n1 := hS.apart 4 1 (by omega) (by omega) (by omega)
  have n2 := hS.apart 4 2 (by omega) (by omega) (by omega)
  have n3 := hS.apart 4 3 (by omega) (by omega) (by omega)
  clear hS
  generalize A 0 = a0 at *
  generalize A 1 = a1 at *
  generalize A 2 = a2 at *
  generalize A 3 = a3 at *
  generalize A 4 = a4 at *
  go_enter Tryz.func46, Tryz.ntmps46
  go_wp2_with fail
  refine (er_other pb 0 a0 a4 c4 c0 t4 t0 _ h1 n0 r4 r0).mono ?_
  rintro x w' ⟨rfl, rfl⟩
  go_wp2_with fail
  refine (er_other pb 0 a1 a4 c4 c1 t4 t1 _ h1 n1 r4 r1).mono ?_
  rintro x w' ⟨rfl, rfl⟩
  go_wp2_with fail
  refine (er_other pb 0 a2 a4 c4 c2 t4 t2 _ h1 n2 r4 r2).mono ?_
  rintro x w' ⟨rfl, rfl⟩
  go_wp2_with fail
  refine (er_other pb 0 a3 a4 c4 c3 t4 t3 _ h1 n3 r4 r3).mono ?_
  rintro x w' ⟨rfl, rfl⟩
  go_wp2_with fail
  refine (er_same pb 0 a4 _ h1).mono ?_
  rintro x w' ⟨rfl, rfl⟩
  go_wp2_with fail
  go_ret
  exact ⟨rfl, rfl⟩
set_option maxRecDepth 100000 in
theorem codeOf_nil (A : Nat → Addr) (w : World) (hS : Sent w A) :
    Calls Tryz.prog 46 #[.nilIface] w fun e w' => e = .returned (.int .i64 0) ∧ w' = w := by
  have g0 := hS.cell 0 (by omega)
  have g1 := hS.cell 1 (by omega)
  have g2 := hS.cell 2 (by omega)
  have g3 := hS.cell 3 (by omega)
  have g4 := hS.cell 4 (by omega)
  clear hS
  generalize A 0 = a0 at *
  generalize A 1 = a1 at *
  generalize A 2 = a2 at *
  generalize A 3 = a3 at *
  generalize A 4 = a4 at *
  go_enter Tryz.func46, Tryz.ntmps46
  go_wp2_with fail
  refine (er_nil a0 _).mono ?_
  rintro x w' ⟨rfl, rfl⟩
  go_wp2_with fail
  refine (er_nil a1 _).mono ?_
  rintro x w' ⟨rfl, rfl⟩
  go_wp2_with fail
  refine (er_nil a2 _).mono ?_
  rintro x w' ⟨rfl, rfl⟩
  go_wp2_with fail
  refine (er_nil a3 _).mono ?_
  rintro x w' ⟨rfl, rfl⟩
  go_wp2_with fail
  refine (er_nil a4 _).mono ?_
  rintro x w' ⟨rfl, rfl⟩
  go_wp2_with fail
  go_ret
  exact ⟨rfl, rfl⟩
end Go.Proofs.YtjkjjfbcakbmnaaGreatDoor.Q
namespace Go.Proofs.YtjkjjfbcakbmnaaGreatDoor.Q
open Go.RowKit Go.Proofs.YtjkjjfbcakbmnaaGreatDoorW.PrintWords Go.Proofs.YtjkjjfbcakbmnaaGreatDoorW.PrintLast Go.Proofs.YtjkjjfbcakbmnaaGreatDoorW.PrintMore
attribute [local go_sem] max2_int min2_int max_two min_two max_three min_three max_four min_four   -- for this text's walks alone
set_option linter.unusedVariables false
set_option linter.unusedSimpArgs false
end Go.Proofs.YtjkjjfbcakbmnaaGreatDoor.Q
namespace Go.Proofs.YtjkjjfbcakbmnaaGreatDoor.Q
open Go.RowKit Go.Proofs.YtjkjjfbcakbmnaaGreatDoorW.PrintWords Go.Proofs.YtjkjjfbcakbmnaaGreatDoorW.PrintLast Go.Proofs.YtjkjjfbcakbmnaaGreatDoorW.PrintMore
set_option linter.unusedVariables false
set_option linter.unusedSimpArgs false
end Go.Proofs.YtjkjjfbcakbmnaaGreatDoor.Q
namespace Go.Proofs.YtjkjjfbcakbmnaaGreatDoor.Q
open Go.RowKit Go.Proofs.YtjkjjfbcakbmnaaGreatDoorW.PrintWords Go.Proofs.YtjkjjfbcakbmnaaGreatDoorW.PrintLast Go.Proofs.YtjkjjfbcakbmnaaGreatDoorW.PrintMore
attribute [local go_sem] max2_int min2_int max_two min_two max_three min_three max_four min_four   -- for this text's walks alone
set_option linter.unusedVariables false
set_option linter.unusedSimpArgs false
abbrev Per := S84
def perOk (ps : List Per) (i : Int) : Prop := (0 ≤ (rd_T84 ps i).f0 ∧ (rd_T84 ps i).f0 ≤ 40000) ∧ (0 ≤ (rd_T84 ps i).f1 ∧ (rd_T84 ps i).f1 ≤ 40000) ∧ (rd_T84 ps i).f0 ≤ (rd_T84 ps i).f1 ∧ (0 < i → (rd_T84 ps i).f0 = (rd_T84 ps (i - 1)).f1 + 1)
def yearP (ps : List Per) : Prop := (1 ≤ ps.length ∧ ps.length ≤ 60) ∧ ∀ i : Int, 0 ≤ i → i < (ps.length : Int) → perOk ps i
open Classical in
noncomputable def yearB (ps : List Per) : Bool := decide (yearP ps)
open Classical in
theorem yearB_true {ps : List Per} : yearB ps = true ↔ yearP ps := by unfold yearB; rw [decide_eq_true_eq]
theorem yearB_not {ps : List Per} (h : ¬ yearP ps) : false = yearB ps := by
  cases hb : yearB ps with
  | false => rfl
  | true => exact absurd (yearB_true.1 hb) h
theorem per_step {ps : List Per} {i : Int} (h : ∀ j : Int, 0 ≤ j → j < i → perOk ps j) (hi : perOk ps i) : ∀ j : Int, 0 ≤ j → j < i + 1 → perOk ps j := by
  intro j h0 h1
  by_cases e : j = i
  · subst e; exact hi
  · exact h j h0 (by omega)
set_option maxHeartbeats 16000000 in
set_option maxRecDepth 100000 in
theorem spec_l6Year.to (A0 : Option Addr) (c0 : Nat) (l0 : List Per) (w : World) (hr0 : Kd.C k84 w A0 l0.length l0) :
    Calls Tryz.prog 33 #[.slice A0 l0.length c0] w fun x w' => x = .returned (.bool (yearB l0)) ∧ Below w.heap.size w w' := by
  have hl0 := hr0.2.1
  have H0 := Aside0.mk hr0
  clear hr0
  go_enter Tryz.func33, Tryz.ntmps33
  go_wp2_with fail
  go_loopw [3] (fun v wr => ∃ i : Int, 0 ≤ i ∧ i ≤ (l0.length : Int) ∧ v = .int .i64 i ∧ Aside0 (Below w.heap.size w wr) ∧ Aside0 (∀ j : Int, 0 ≤ j → j < i → perOk l0 j)) (fun v _ => (l0.length - (intOf v).toNat))
  case atStart => exact ⟨0, by omega, by omega, rfl, ⟨Below.refl _ _⟩, ⟨fun j h0 h1 => by omega⟩⟩
  case round =>
    obtain ⟨i, hi0, hi1, rfl, HB, HO⟩ := hrel
    by_cases hlt : i < (l0.length : Int)
    · obtain ⟨ad, e0, x0, x1⟩ := at_T84 (Kd.C_below H0.out HB.out) i hi0 hlt
      cases e0
      have HNO := Aside0.mk (fun (q : ¬ perOk l0 i) => yearB_not (ps := l0) (fun y => q (y.2 i hi0 hlt)))
      generalize hp0 : (rd_T84 l0 i).f0 = p0 at *
      generalize hp1 : (rd_T84 l0 i).f1 = p1 at *
      have HP0 := Aside0.mk hp0
      have HP1 := Aside0.mk hp1
      clear hp0 hp1
      cases h1 : inB p0 0 40000 with
      | false =>
        have C1 := Aside0.mk (fun W => (h1 ▸ spec_l2Day.to p0 W : Calls Tryz.prog 42 #[.int .i64 p0] W fun e w' => e = .returned (.bool false) ∧ w' = W))
        have HN := Aside0.mk (HNO.out (fun q => inB_false.1 h1 (HP0.out ▸ q.1)))
        clear h1
        go_wp2_with fail
        go_quiet ((go_at_call 42; exact Calls.quiet_of_same (C1.out _)))
        go_wp2_with fail
        go_ret
        exact ⟨ret_bool HN.out, y02 HB.out _⟩
      | true =>
        have C1 := Aside0.mk (fun W => (h1 ▸ spec_l2Day.to p0 W : Calls Tryz.prog 42 #[.int .i64 p0] W fun e w' => e = .returned (.bool true) ∧ w' = W))
        obtain ⟨a0, a1⟩ := inB_true.1 h1
        clear h1
        cases h2 : inB p1 0 40000 with
        | false =>
          have C2 := Aside0.mk (fun W => (h2 ▸ spec_l2Day.to p1 W : Calls Tryz.prog 42 #[.int .i64 p1] W fun e w' => e = .returned (.bool false) ∧ w' = W))
          have HN := Aside0.mk (HNO.out (fun q => inB_false.1 h2 (HP1.out ▸ q.2.1)))
          clear h2
          go_wp2_with fail
          go_quiet ((go_at_call 42; first | exact Calls.quiet_of_same (C1.out _) | exact Calls.quiet_of_same (C2.out _)))
          go_wp2_with fail
          go_ret
          exact ⟨ret_bool HN.out, y02 HB.out _⟩
        | true =>
          have C2 := Aside0.mk (fun W => (h2 ▸ spec_l2Day.to p1 W : Calls Tryz.prog 42 #[.int .i64 p1] W fun e w' => e = .returned (.bool true) ∧ w' = W))
          obtain ⟨b0, b1⟩ := inB_true.1 h2
          clear h2
          by_cases h3 : p1 < p0
          · have HN := Aside0.mk (HNO.out (fun q => by have := q.2.2.1; rw [HP0.out, HP1.out] at this; omega))
            have h3b : decide (p1 < p0) = true := decide_eq_true h3
            go_wp2_with fail
            go_quiet ((go_at_call 42; first | exact Calls.quiet_of_same (C1.out _) | exact Calls.quiet_of_same (C2.out _)))
            go_wp2_with fail
            go_ret
            exact ⟨ret_bool HN.out, y02 HB.out _⟩
          · have h3b : decide (p1 < p0) = false := decide_eq_false h3
            by_cases h4 : 0 < i
            · obtain ⟨j, hj⟩ : ∃ j : Int, j = i - 1 := ⟨_, rfl⟩
              have hj0 : 0 ≤ j := by omega
              have hj1 : j < (l0.length : Int) := by omega
              have hwr : IntKind.i64.wrap (i - 1) = j := by unfold IntKind.wrap; simp [IntKind.bits]; omega
              obtain ⟨bd, e1, y0, y1⟩ := at_T84 (Kd.C_below H0.out HB.out) j hj0 hj1
              obtain rfl : ad = bd := by injection e1
              obtain ⟨m0, m1⟩ := (HO.out j hj0 (by omega)).2.1
              have HJ := Aside0.mk hj
              clear hj
              generalize hq1 : (rd_T84 l0 j).f1 = q1 at *
              have HQ1 := Aside0.mk hq1
              clear hq1
              have hwr2 : IntKind.i64.wrap (q1 + 1) = q1 + 1 := by unfold IntKind.wrap; simp [IntKind.bits]; omega
              have h4b : decide (0 < i) = true := decide_eq_true h4
              by_cases h7 : p0 = q1 + 1
              · have h7b : (p0 != q1 + 1) = false := by rw [h7]; exact bne_self_eq_false' _
                have HO2 := Aside0.mk (per_step HO.out (show perOk l0 i from ⟨by rw [HP0.out]; exact ⟨a0, a1⟩, by rw [HP1.out]; exact ⟨b0, b1⟩, by rw [HP0.out, HP1.out]; omega, fun q => by rw [HP0.out, ← HJ.out, HQ1.out]; exact h7⟩))
                clear h7
                go_wp2_with fail
                go_quiet ((go_at_call 42; first | exact Calls.quiet_of_same (C1.out _) | exact Calls.quiet_of_same (C2.out _)))
                clear hwr hwr2
                go_wp2_with fail
                go_roundw
                case rel => exact ⟨i + 1, by omega, by omega, rfl, ⟨y02 HB.out _⟩, HO2⟩
                case measure => simp [intOf]; omega
              · have h7b : (p0 != q1 + 1) = true := bne_iff_ne.2 h7
                have HN := Aside0.mk (HNO.out (fun q => by have := q.2.2.2 h4; rw [HP0.out, ← HJ.out, HQ1.out] at this; exact h7 this))
                clear h7
                go_wp2_with fail
                go_quiet ((go_at_call 42; first | exact Calls.quiet_of_same (C1.out _) | exact Calls.quiet_of_same (C2.out _)))
                clear hwr hwr2
                go_wp2_with fail
                go_ret
                exact ⟨ret_bool HN.out, y02 HB.out _⟩
            · have h4b : decide (0 < i) = false := decide_eq_false h4
              have HO2 := Aside0.mk (per_step HO.out (show perOk l0 i from ⟨by rw [HP0.out]; exact ⟨a0, a1⟩, by rw [HP1.out]; exact ⟨b0, b1⟩, by rw [HP0.out, HP1.out]; omega, fun q => absurd q h4⟩))
              go_wp2_with fail
              go_quiet ((go_at_call 42; first | exact Calls.quiet_of_same (C1.out _) | exact Calls.quiet_of_same (C2.out _)))
              go_wp2_with fail
              go_roundw
              case rel => exact ⟨i + 1, by omega, by omega, rfl, ⟨y02 HB.out _⟩, HO2⟩
              case measure => simp [intOf]; omega
    · go_wp2_with fail
      refine (spec_l1In.to _ _ _ _).mono ?_
      rintro x w' ⟨rfl, rfl⟩
      cases h5 : inB (l0.length : Int) 1 60 with
      | false =>
        have HN := Aside0.mk (yearB_not (fun q => inB_false.1 h5 (by have := q.1; omega)) : false = yearB l0)
        clear h5
        go_wp2_with fail
        go_ret
        exact ⟨ret_bool HN.out, HB.out⟩
      | true =>
        have h6 := inB_true.1 h5
        have HY := Aside0.mk (yearB_true.2 (show yearP l0 from ⟨by omega, fun j h0 h1 => HO.out j h0 (by omega)⟩))
        clear h5 h6
        go_wp2_with fail
        go_ret
        exact ⟨ret_bool HY.out.symm, HB.out⟩
end Go.Proofs.YtjkjjfbcakbmnaaGreatDoor.Q
