/- Parts of the proof: what functions of the program and of the reference answer.
   No condition. -/
import Derived.Test.YtphmnkcfjgallaaZMJoined1
import Derived.Test.YtphmnkcfjgallaaZMJoined6
import Derived.Test.YtphmnkcfjgallaaZMJoined14
import Derived.Test.YtphmnkcfjgallaaZMJoined12
import Derived.Test.YtphmnkcfjgallaaZMJoined15
import Derived.Test.YtphmnkcfjgallaaZMJoined7
import Derived.Test.YtphmnkcfjgallaaZMJoined4
import Derived.BigRegion
namespace Go.Proofs.Ytphmnkcfjgallaa.Q
open Go.RowKit Go.Proofs.YtphmnkcfjgallaaW.PrintWords Go.Proofs.YtphmnkcfjgallaaW.PrintLast Go.Proofs.YtphmnkcfjgallaaW.PrintMore
attribute [local go_sem] max2_int min2_int max_two min_two max_three min_three max_four min_four   -- for this text's walks alone
set_option linter.unusedVariables false
set_option linter.unusedSimpArgs false
def IvM (a b : Nat) (k : Nat) : Prop := a ≤ k ∧ k < b
def mvX (chart : List Acc) (es : List Ent) (f0 tt : Int) (a : Nat) : Int := if knd chart a = 4 ∨ knd chart a = 5 then basV a (-1) (-1) f0 tt es else basV a (-1) (-1) (-4611686018427387904) tt es
open Classical in
noncomputable def movesR (chart : List Acc) (dims curs : Int) (es : List Ent) (h : Int) (ps : List Per) (closed kept at_ : Int) : List Int × List Int × List Int :=
  if booksB chart dims curs es h ps closed kept = true ∧ 0 ≤ at_ ∧ at_ < (ps.length : Int) then
    (mapN chart.length (mvX chart es (rd_T133 ps 0).f0 ((rd_T133 ps at_).f0 - 1)), mapN chart.length (fun a => basV a (-1) (-1) (rd_T133 ps at_).f0 (rd_T133 ps at_).f1 es),
      mapN chart.length (fun a => mvX chart es (rd_T133 ps 0).f0 ((rd_T133 ps at_).f0 - 1) a + basV a (-1) (-1) (rd_T133 ps at_).f0 (rd_T133 ps at_).f1 es))
  else ([], [], [])
def Three (w w' : World) (v0 v1 v2 : Value) (r : List Int × List Int × List Int) : Prop :=
  ∃ a0 b0 a1 b1 a2 b2, w.heap.size ≤ a0 ∧ a0 ≤ b0 ∧ b0 ≤ a1 ∧ a1 ≤ b1 ∧ b1 ≤ a2 ∧ a2 ≤ b2 ∧ b2 ≤ w'.heap.size ∧ Kd.R (Kd.int .i64) 3 w' w.heap.size (IvM a0 b0) v0 r.1 ∧ Kd.R (Kd.int .i64) 3 w' w.heap.size (IvM a1 b1) v1 r.2.1 ∧ Kd.R (Kd.int .i64) 3 w' w.heap.size (IvM a2 b2) v2 r.2.2
theorem R_iv0 {α : Type} {d : Kd α} {e : Nat} {w w0 w1 : World} {v : Value} {l : List α} (h : d.R e w1 w.heap.size (fun _ => True) v l) (hle : w0.heap.size ≤ w.heap.size) : d.R e w1 w0.heap.size (IvM w.heap.size w1.heap.size) v l := Kd.R_lower (Kd.R_mono (Kd.R_bound h) (fun _ hk => ⟨hk.2.1, hk.2.2.1⟩)) hle
theorem books_fine {chart : List Acc} {dims curs : Int} {es : List Ent} {h : Int} {ps : List Per} {closed kept : Int} (q : booksB chart dims curs es h ps closed kept = true) : basesP chart.length es ∧ (1 ≤ ps.length ∧ ps.length ≤ 60) ∧ (∀ i : Int, 0 ≤ i → i < (ps.length : Int) → perOk ps i) ∧ (∀ e ∈ es, 0 ≤ e.f0 ∧ e.f0 ≤ 40000) ∧ (∀ i : Int, 0 ≤ i → i < (chart.length : Int) → 1 ≤ knd chart i ∧ knd chart i ≤ 5) := by
  obtain ⟨h1, h2, _⟩ := booksB_true.1 q
  obtain ⟨hf, hl, he, _⟩ := h1
  obtain ⟨hc, _, _⟩ := frame_parts hf
  obtain ⟨n1, n2, hr⟩ := chartOk_iff.1 hc
  refine ⟨⟨n1, by omega, hl, fun e q => ⟨(he e q).2.2.2.1.2, fun x hx => ?_⟩, fun e q x hx => ?_⟩, h2.1, h2.2, fun e q => (he e q).1, fun i i0 i1 => (hr i i0 i1).2.2.1⟩
  · have := (he e q).2.2.2.2.2.1 x hx
    exact ⟨this.2.2.2.1, this.2.2.2.2.1⟩
  · have := (he e q).2.2.2.2.2.1 x hx
    exact ⟨this.1.1, this.1.2.1⟩
set_option maxHeartbeats 32000000 in
set_option maxRecDepth 100000 in
theorem impl_Moves.to (A0 : Option Addr) (c0 : Nat) (l0 : List Acc) (dims curs : Int) (A1 : Option Addr) (c1 : Nat) (l1 : List Ent) (h : Int) (A2 : Option Addr) (c2 : Nat) (l2 : List Per) (closed kept at_ : Int) (w : World) (hr0 : Kd.C k131 w A0 l0.length l0) (hs : ∀ x ∈ l0, x.f0.size ≤ maxLen) (hr1 : Kd.C k34 w A1 l1.length l1) (hm : ∀ e ∈ l1, e.f2.size ≤ maxLen) (hr2 : Kd.C k133 w A2 l2.length l2) :
    Calls Try.prog 28 #[.agg #[.slice A0 l0.length c0, .int .i64 dims, .int .i64 curs, .slice A1 l1.length c1, .int .i64 h, .slice A2 l2.length c2, .int .i64 closed, .int .i64 kept], .int .i64 at_] w fun e w' => ∃ v0 v1 v2 : Value, e = .returned (.tuple #[v0, v1, v2]) ∧ Three w w' v0 v1 v2 (movesR l0 dims curs l1 h l2 closed kept at_) ∧ Below w.heap.size w w' := by
  have H0 := Aside0.mk hr0
  have H1 := Aside0.mk hr1
  have H2 := Aside0.mk hr2
  have HS := Aside0.mk hs
  have HM := Aside0.mk hm
  have HB0 := Aside0.mk (below_alloc (Below.refl w.heap.size w) (.cells #[.slice A0 l0.length c0, .int .i64 dims, .int .i64 curs, .slice A1 l1.length c1, .int .i64 h, .slice A2 l2.length c2, .int .i64 closed, .int .i64 kept] 50))
  clear hr0 hr1 hr2 hs hm
  go_enter Try.func28, Try.ntmps28
  go_wp2_with fail
  refine (impl_BooksOk.to A0 c0 l0 dims curs A1 c1 l1 h A2 c2 l2 closed kept _ (Kd.C_below H0.out HB0.out) HS.out (Kd.C_below H1.out HB0.out) HM.out (Kd.C_below H2.out HB0.out)).mono ?_
  rintro x w1 ⟨rfl, hb⟩
  have HB := Aside0.mk (below_into (w := w) hb HB0.out)
  have f0 : w1.cell? ⟨w.heap.size, 0, none⟩ = some (.slice A0 l0.length c0) := pw_cell_below hb (by go_simp)
  have f3 : w1.cell? ⟨w.heap.size, 3, none⟩ = some (.slice A1 l1.length c1) := pw_cell_below hb (by go_simp)
  have f4 : w1.cell? ⟨w.heap.size, 4, none⟩ = some (.int .i64 h) := pw_cell_below hb (by go_simp)
  have f5 : w1.cell? ⟨w.heap.size, 5, none⟩ = some (.slice A2 l2.length c2) := pw_cell_below hb (by go_simp)
  clear hb HB0
  have HNO := Aside0.mk (show (¬ (booksB l0 dims curs l1 h l2 closed kept = true ∧ 0 ≤ at_ ∧ at_ < (l2.length : Int))) → ∀ W, Below w.heap.size w W → Three w W (.slice none 0 0) (.slice none 0 0) (.slice none 0 0) (movesR l0 dims curs l1 h l2 closed kept at_) from fun hn W hW => by
    unfold movesR
    rw [if_neg hn]
    exact ⟨w.heap.size, w.heap.size, w.heap.size, w.heap.size, w.heap.size, w.heap.size, Nat.le_refl _, Nat.le_refl _, Nat.le_refl _, Nat.le_refl _, Nat.le_refl _, Nat.le_refl _, hW.size, Kd.R_nil _ _ _ _ _, Kd.R_nil _ _ _ _ _, Kd.R_nil _ _ _ _ _⟩)
  cases q1 : booksB l0 dims curs l1 h l2 closed kept with
  | false =>
    have HN := Aside0.mk (HNO.out (fun q => by rw [q1] at q; cases q.1))
    clear q1
    go_wp2_with fail
    exact bodyPost_ret (v := .tuple #[.slice none 0 0, .slice none 0 0, .slice none 0 0]) (by simp [results, Try.results28, go_sem]) rfl ⟨_, _, _, rfl, HN.out _ HB.out, HB.out⟩
  | true =>
    have HQ := Aside0.mk q1
    clear q1
    by_cases h1 : at_ < 0
    case pos =>
      have h1b : decide (at_ < 0) = true := decide_eq_true h1
      have HN := Aside0.mk (HNO.out (fun q => by have := q.2.1; omega))
      go_wp2_with fail
      exact bodyPost_ret (v := .tuple #[.slice none 0 0, .slice none 0 0, .slice none 0 0]) (by simp [results, Try.results28, go_sem]) rfl ⟨_, _, _, rfl, HN.out _ HB.out, HB.out⟩
    by_cases h2 : at_ < (l2.length : Int)
    case neg =>
      have h2b : decide ((l2.length : Int) ≤ at_) = true := decide_eq_true (by omega)
      have h1b : decide (at_ < 0) = false := decide_eq_false h1
      have HN := Aside0.mk (HNO.out (fun q => by have := q.2.2; omega))
      go_wp2_with fail
      exact bodyPost_ret (v := .tuple #[.slice none 0 0, .slice none 0 0, .slice none 0 0]) (by simp [results, Try.results28, go_sem]) rfl ⟨_, _, _, rfl, HN.out _ HB.out, HB.out⟩
    have h1b : decide (at_ < 0) = false := decide_eq_false h1
    have h2b : decide ((l2.length : Int) ≤ at_) = false := decide_eq_false (by omega)
    have h1c : 0 ≤ at_ := by omega
    have h2c : 0 < l2.length := by omega
    obtain ⟨hbp, hpl, hper, hday, hkn⟩ := books_fine HQ.out
    have hp := hper at_ (by omega) h2
    have hp00 := hper 0 (by omega) (by omega)
    have HBP := Aside0.mk hbp
    have HDY := Aside0.mk hday
    have HKN := Aside0.mk hkn
    have NL := hbp.1
    have NL2 := hbp.2.1
    obtain ⟨⟨u0, u1⟩, ⟨u2, u3⟩, _⟩ := hp
    obtain ⟨⟨u4, u5⟩, _⟩ := hp00
    have HRV := Aside0.mk (show movesR l0 dims curs l1 h l2 closed kept at_ = _ from if_pos ⟨HQ.out, by omega, h2⟩)
    obtain ⟨ad, e0, x0, x1⟩ := at_T133 (Kd.C_below H2.out HB.out) at_ (by omega) h2
    obtain ⟨bd, e1, z0, z1⟩ := at_T133 (Kd.C_below H2.out HB.out) 0 (by omega) (by omega)
    cases e0
    obtain rfl : ad = bd := by injection e1
    rw [show (0 : Int).toNat * 2 = 0 from rfl, Addr.add_zero'] at z0
    generalize (rd_T133 l2 at_).f0 = p0 at *
    generalize (rd_T133 l2 at_).f1 = p1 at *
    generalize (rd_T133 l2 0).f0 = s0 at *
    clear hbp hper hday hkn e1 HNO h1
    have zz0 := World.block_lt_of_cell? _ _ f0
    have zz1 := World.block_lt_of_cell? _ _ z0
    go_wp2_with fail
    have y0 : (w1.alloc (.cells #[.int .i64 p0, .int .i64 p1] 133)).cell? ⟨w1.heap.size, 0, none⟩ = some (.int .i64 p0) := by go_simp
    have y1 : (w1.alloc (.cells #[.int .i64 p0, .int .i64 p1] 133)).cell? ⟨w1.heap.size, 1, none⟩ = some (.int .i64 p1) := by go_simp
    have hb := below_alloc (Below.refl w1.heap.size w1) (.cells #[.int .i64 p0, .int .i64 p1] 133)
    replace f0 := pw_cell_below hb f0
    replace f3 := pw_cell_below hb f3
    replace f4 := pw_cell_below hb f4
    replace f5 := pw_cell_below hb f5
    replace z0 := pw_cell_below hb z0
    replace HB := Aside0.mk (below_into (w := w) hb HB.out)
    clear hb x0 x1 z1
    generalize w1.alloc (.cells #[.int .i64 p0, .int .i64 p1] 133) = wp at *
    refine (impl_bases.to l0.length A1 c1 l1 h (-1) (-4611686018427387904) (p0 - 1) _ (Kd.C_below H1.out HB.out) HBP.out).mono ?_
    rintro x w2 ⟨v9, rfl, hR, hb⟩
    obtain ⟨g9, k9, e9, _⟩ := Kd.R_form hR (by rw [mapN_len]; omega)
    subst e9
    rw [mapN_len] at hR
    have sA := hb.size
    have RA := Aside0.mk (R_iv0 hR HB.out.size)
    replace f0 := pw_cell_below hb f0
    replace f3 := pw_cell_below hb f3
    replace f4 := pw_cell_below hb f4
    replace f5 := pw_cell_below hb f5
    replace y0 := pw_cell_below hb y0
    replace y1 := pw_cell_below hb y1
    replace z0 := pw_cell_below hb z0
    have HBA := HB
    replace HB := Aside0.mk (below_into (w := w) hb HB.out)
    clear hb hR
    have hwr : IntKind.i64.wrap (p0 - 1) = p0 - 1 := by rw [IntKind.wrap_i64]; omega
    rw [mapN_len]
    go_wp2_with fail
    have HV := Aside0.mk (Below.refl w2.heap.size w2)
    go_region_held3 (fun w' => w'.cell? ⟨w.heap.size, 3, none⟩ = some (.slice A1 l1.length c1) ∧ w'.cell? ⟨w.heap.size, 4, none⟩ = some (.int .i64 h) ∧ w'.cell? ⟨w.heap.size, 5, none⟩ = some (.slice (some ad) l2.length c2) ∧ w'.cell? ⟨w1.heap.size, 0, none⟩ = some (.int .i64 p0) ∧ w'.cell? ad = some (.int .i64 s0)) ((first | go_keep | exact ⟨pw_cell_below hb (by assumption), pw_cell_below hb (by assumption), pw_cell_below hb (by assumption), pw_cell_below hb (by assumption), pw_cell_below hb (by assumption)⟩))
      ((go_at_call 95; refine (impl_bases.to l0.length A1 c1 l1 h (-1) s0 (p0 - 1) _ (Kd.C_below H1.out (by repeat (first | exact HB.out | refine below_drew1 ?_ | refine pw_below_drewN ?_ _))) HBP.out).mono ?_; rintro x w3 ⟨v10, rfl, hR, hb⟩; have RY := Aside0.mk (R_iv0 (w0 := w) hR (by repeat (first | exact HB.out.size | refine Below.size ?_))); have HVY := Aside0.mk (below_into (w := w2) hb (by repeat (first | exact HV.out | refine below_drew1 ?_ | refine pw_below_drewN ?_ _)))))
    have hH := ‹_ ∧ _›
    have hb := HVY.out
    obtain ⟨g10, k10, e10, _⟩ := Kd.R_form RY.out (by rw [mapN_len]; omega)
    subst e10
    replace RY := RY.out
    rw [mapN_len] at RY ⊢
    replace f3 := hH.1
    replace f4 := hH.2.1
    replace f0 := pw_cell_below hb f0
    replace y0 := pw_cell_below hb y0
    replace y1 := pw_cell_below hb y1
    replace RA := Aside0.mk (Kd.R_below RA.out hb)
    have HBY := HB
    replace HB := Aside0.mk (below_into (w := w) hb HB.out)
    have sY := hb.size
    clear hb hH hwr f5 z0
    have RY' := Aside0.mk (show Kd.R (Kd.int .i64) 3 w3 w.heap.size (IvM w2.heap.size w3.heap.size) (.slice (some ⟨g10, 0, none⟩) l0.length k10) _ from RY)
    clear RY
    go_wp2_with fail
    refine (impl_bases.to l0.length A1 c1 l1 h (-1) p0 p1 _ (Kd.C_below H1.out HB.out) HBP.out).mono ?_
    rintro x w4 ⟨v11, rfl, hR, hb⟩
    obtain ⟨g11, k11, e11, _⟩ := Kd.R_form hR (by rw [mapN_len]; omega)
    subst e11
    rw [mapN_len] at hR ⊢
    have RM := Aside0.mk (R_iv0 hR HB.out.size)
    replace f0 := pw_cell_below hb f0
    replace RA := Aside0.mk (Kd.R_below RA.out hb)
    replace RY' := Aside0.mk (Kd.R_below RY'.out hb)
    replace HB := Aside0.mk (below_into (w := w) hb HB.out)
    have sM := hb.size
    clear hb hR f3 f4 y0 y1
    go_wp2_with ((with_reducible refine gate_dst (N := 66) rfl ?_); refine Kd.R_make (Kd.int .i64) _ 3 rfl (N := 66) rfl 46 _ _ rfl (l0.length : Int) rfl rfl Try.underlying46 (.int .i64 0) 8 info3 rfl (by decide) (by omega) 0 (ok := fun _ => True) (okp := fun _ => True) rfl (fun _ hk => hk) trivial (by omega) (by simp; omega) (Below.refl _ _) (Nat.le_refl _) ?_; intro v12 w5 ho hb hg hnew; replace f0 := pw_cell_below hb f0; replace RA := Aside0.mk (Kd.R_below RA.out hb); replace RY' := Aside0.mk (Kd.R_below RY'.out hb); replace RM := Aside0.mk (Kd.R_below RM.out hb); have RB := Aside0.mk (R_iv0 ho HB.out.size); replace HB := Aside0.mk (below_into (w := w) hb HB.out); have sB := hb.size; obtain ⟨g12, k12, e12, _⟩ := Kd.R_form RB.out (by simp; omega); subst e12; clear ho hb hg hnew)
    rw [show (List.replicate ((l0.length : Int)).toNat (0 : Int)) = mapN l0.length (fun _ => 0) from (by rw [Int.toNat_natCast]; exact mapN_zero _)] at RB
    rw [mapN_len] at RB
    obtain ⟨Y, hY⟩ : ∃ Y : Nat → Int, Y = fun (a : Nat) => basV (a : Int) (-1) (-1) (-4611686018427387904) (p0 - 1) l1 := ⟨_, rfl⟩
    obtain ⟨Z, hZ⟩ : ∃ Y : Nat → Int, Y = fun (a : Nat) => basV (a : Int) (-1) (-1) s0 (p0 - 1) l1 := ⟨_, rfl⟩
    obtain ⟨M, hM⟩ : ∃ Y : Nat → Int, Y = fun (a : Nat) => basV (a : Int) (-1) (-1) p0 p1 l1 := ⟨_, rfl⟩
    rw [← hY] at RA
    rw [← hZ] at RY'
    rw [← hM] at RM
    have bY : ∀ a, -6000000000000000 ≤ Y a ∧ Y a ≤ 6000000000000000 := fun a => by have := basV_b (a : Int) (-1) (-1) (-4611686018427387904) (p0 - 1) l1 HBP.out.2.2.2.1; have := HBP.out.2.2.1; rw [hY]; simp only; constructor <;> omega
    have bZ : ∀ a, -6000000000000000 ≤ Z a ∧ Z a ≤ 6000000000000000 := fun a => by have := basV_b (a : Int) (-1) (-1) s0 (p0 - 1) l1 HBP.out.2.2.2.1; have := HBP.out.2.2.1; rw [hZ]; simp only; constructor <;> omega
    have bM : ∀ a, -6000000000000000 ≤ M a ∧ M a ≤ 6000000000000000 := fun a => by have := basV_b (a : Int) (-1) (-1) p0 p1 l1 HBP.out.2.2.2.1; have := HBP.out.2.2.1; rw [hM]; simp only; constructor <;> omega
    have BY := Aside0.mk bY
    have BZ := Aside0.mk bZ
    have BM := Aside0.mk bM
    have HXX := Aside0.mk (show ∀ a : Nat, mvX l0 l1 s0 (p0 - 1) a = if knd l0 a = 4 ∨ knd l0 a = 5 then Z a else Y a from fun a => by rw [hY, hZ]; rfl)
    have HMM := Aside0.mk hM
    clear bY bZ bM hY hZ hM
    have o9 := RA.out.1 g9 rfl
    have o10 := RY'.out.1 g10 rfl
    have o11 := RM.out.1 g11 rfl
    have o12 := RB.out.1 g12 rfl
    have OO := Aside0.mk (show g9 ≠ g10 ∧ g9 ≠ g11 ∧ g9 ≠ g12 ∧ g10 ≠ g12 ∧ g11 ≠ g12 ∧ w.heap.size ≤ g9 ∧ w.heap.size ≤ g12 from by
      have t9 := o9.1; have u9 := o9.2; have t10 := o10.1; have u10 := o10.2; have t11 := o11.1; have u11 := o11.2; have t12 := o12.1; have u12 := o12.2
      have := HBA.out.size
      refine ⟨?_, ?_, ?_, ?_, ?_, ?_, ?_⟩ <;> omega)
    have OR := Aside0.mk (show (∀ k, IvM wp.heap.size w2.heap.size k → k ≠ g12) ∧ (∀ k, IvM w2.heap.size w3.heap.size k → k ≠ g9 ∧ k ≠ g12) ∧ (∀ k, IvM w3.heap.size w4.heap.size k → k ≠ g9 ∧ k ≠ g12) ∧ (∀ k, IvM w4.heap.size w5.heap.size k → k ≠ g9) from by
      have t9 := o9.1; have u9 := o9.2; have t12 := o12.1; have u12 := o12.2
      refine ⟨fun k hk => ?_, fun k hk => ⟨?_, ?_⟩, fun k hk => ⟨?_, ?_⟩, fun k hk => ?_⟩ <;> (have := hk.1; have := hk.2; omega))
    have HB5 := HB
    clear o9 o10 o11 o12
    go_loopw [71] (fun v wr => ∃ i : Int, 0 ≤ i ∧ i ≤ (l0.length : Int) ∧ v = .int .i64 i ∧ Aside0 (Below w.heap.size w wr) ∧ Aside0 (w5.heap.size ≤ wr.heap.size) ∧ Aside0 (Kd.R (Kd.int .i64) 3 wr w.heap.size (IvM w2.heap.size w3.heap.size) (.slice (some ⟨g10, 0, none⟩) l0.length k10) (mapN l0.length Z)) ∧ Aside0 (Kd.R (Kd.int .i64) 3 wr w.heap.size (IvM w3.heap.size w4.heap.size) (.slice (some ⟨g11, 0, none⟩) l0.length k11) (mapN l0.length M)) ∧ Aside0 (∃ G H : Nat → Int, Kd.R (Kd.int .i64) 3 wr w.heap.size (IvM wp.heap.size w2.heap.size) (.slice (some ⟨g9, 0, none⟩) l0.length k9) (mapN l0.length G) ∧ Kd.R (Kd.int .i64) 3 wr w.heap.size (IvM w4.heap.size w5.heap.size) (.slice (some ⟨g12, 0, none⟩) l0.length k12) (mapN l0.length H) ∧ ∀ a : Nat, (a < i.toNat → G a = mvX l0 l1 s0 (p0 - 1) a ∧ H a = mvX l0 l1 s0 (p0 - 1) a + M a) ∧ (i.toNat ≤ a → G a = Y a))) (fun v _ => (l0.length - (intOf v).toNat))
    case atStart => exact ⟨0, by omega, by omega, rfl, HB, ⟨Nat.le_refl _⟩, RY', RM, ⟨Y, fun _ => 0, RA.out, RB.out, fun a => ⟨fun h => by simp at h, fun _ => rfl⟩⟩⟩
    case round =>
      clear HB RY' RM RA RB f0
      obtain ⟨i, hi0, hi1, rfl, HB, HSZ, RY', RM, HGH⟩ := hrel
      by_cases hlt : i < (l0.length : Int)
      · obtain ⟨ae, e0, x0, x1, x2⟩ := at_T131 (Kd.C_below H0.out HB.out) i hi0 hlt
        cases e0
        obtain ⟨G, H, ga, gb, gc⟩ := HGH.out
        have RA := Aside0.mk ga
        have RB := Aside0.mk gb
        have GC := Aside0.mk gc
        have hkn := HKN.out i hi0 hlt
        have hgi : G i.toNat = Y i.toNat := (gc i.toNat).2 (Nat.le_refl _)
        have by1 := BY.out i.toNat
        have bz1 := BZ.out i.toNat
        have bm1 := BM.out i.toNat
        have hX := HXX.out i.toNat
        rw [show ((i.toNat : Nat) : Int) = i by omega] at hX
        have hks : knd l0 i = (rd_T131 l0 i).f2 := rfl
        rw [hks] at hkn hX
        have HBX := Aside0.mk (below_alloc HB.out (.cells #[.string (rd_T131 l0 i).f0, .int .i64 (rd_T131 l0 i).f1, .int .i64 (rd_T131 l0 i).f2] 131))
        generalize hkd : (rd_T131 l0 i).f2 = kd at *
        have HKD := Aside0.mk hkd
        clear ga gb gc hkd hks HGH
        have hb := below_alloc (Below.refl wr.heap.size wr) (.cells #[.string (rd_T131 l0 i).f0, .int .i64 (rd_T131 l0 i).f1, .int .i64 kd] 131)
        have u2 : (wr.alloc (.cells #[.string (rd_T131 l0 i).f0, .int .i64 (rd_T131 l0 i).f1, .int .i64 kd] 131)).cell? ⟨wr.heap.size, 2, none⟩ = some (.int .i64 kd) := by go_simp
        replace RA := Aside0.mk (Kd.R_below RA.out hb)
        replace RB := Aside0.mk (Kd.R_below RB.out hb)
        replace RY' := Aside0.mk (Kd.R_below RY'.out hb)
        replace RM := Aside0.mk (Kd.R_below RM.out hb)
        have hsz := hb.size
        obtain ⟨q9, r9⟩ := int_get RA.out i hi0 hlt
        obtain ⟨q10, _⟩ := int_get RY'.out i hi0 hlt
        obtain ⟨q11, _⟩ := int_get RM.out i hi0 hlt
        obtain ⟨q12, r12⟩ := int_get RB.out i hi0 hlt
        rw [mapN_rd hi0 hlt] at q9 q10 q11 q12
        rw [hgi] at q9
        have HGI := Aside0.mk hgi
        have HXI := Aside0.mk hX
        have HSZ2 := Aside0.mk (Nat.le_trans HSZ.out hsz)
        generalize hgh : H i.toNat = hh at *
        generalize hgy : Y i.toNat = yy at *
        generalize hgz : Z i.toNat = zz at *
        generalize hgm : M i.toNat = mm at *
        have EQ := Aside0.mk (And.intro hgh (And.intro hgy (And.intro hgz hgm)))
        clear hb hsz hgh hgy hgz hgm hgi hX
        by_cases hk4 : kd = 4
        · have hk4b : (kd == 4) = true := by rw [hk4]; rfl
          have HK4 := Aside0.mk hk4
          clear hk4
          go_wp2_with fail
          replace RM := Aside0.mk (Kd.R_far (p := ⟨g9, i.toNat, none⟩) RM.out (fun k hk => (OR.out.2.2.1 k hk).1) (.int .i64 zz))
          replace RY' := Aside0.mk (Kd.R_far (p := ⟨g9, i.toNat, none⟩) RY'.out (fun k hk => (OR.out.2.1 k hk).1) (.int .i64 zz))
          replace RB := Aside0.mk (Kd.R_far (p := ⟨g9, i.toNat, none⟩) RB.out (fun k hk => OR.out.2.2.2 k hk) (.int .i64 zz))
          have hra := int_seg RA.out i hi0 hlt zz
          rw [mapN_set] at hra
          replace RA := Aside0.mk hra
          replace HBX := Aside0.mk (below_set (j := i.toNat) (v := .int .i64 zz) HBX.out OO.out.2.2.2.2.2.1)
          replace HSZ2 := Aside0.mk (show w5.heap.size ≤ ((wr.alloc (.cells #[.string (rd_T131 l0 i).f0, .int .i64 (rd_T131 l0 i).f1, .int .i64 kd] 131)).setCell ⟨g9, i.toNat, none⟩ (.int .i64 zz)).heap.size by have := HSZ2.out; simpa [World.setCell] using this)
          clear hra q9 q10 q11 q12 r9 r12 u2
          obtain ⟨G2, hG2⟩ : ∃ G2 : Nat → Int, G2 = fun j => if j = i.toNat then zz else G j := ⟨_, rfl⟩
          rw [← hG2] at RA
          have HG2 := Aside0.mk (show G2 i.toNat = zz ∧ ∀ a, a ≠ i.toNat → G2 a = G a from ⟨by rw [hG2]; simp, fun a ha => by rw [hG2]; simp [ha]⟩)
          obtain ⟨q9, r9⟩ := int_get RA.out i hi0 hlt
          obtain ⟨q11, _⟩ := int_get RM.out i hi0 hlt
          obtain ⟨q12, r12⟩ := int_get RB.out i hi0 hlt
          rw [mapN_rd hi0 hlt] at q9 q11 q12
          rw [HG2.out.1] at q9
          rw [EQ.out.2.2.2] at q11
          rw [EQ.out.1] at q12
          clear hG2
          generalize ((wr.alloc (.cells #[.string (rd_T131 l0 i).f0, .int .i64 (rd_T131 l0 i).f1, .int .i64 kd] 131)).setCell ⟨g9, i.toNat, none⟩ (.int .i64 zz)) = wq at *
          go_region
          go_wp2_with fail
          go_roundw
          case rel =>
            exact ⟨i + 1, by omega, by omega, rfl, ⟨pw_below_drewN (below_set HBX.out OO.out.2.2.2.2.2.2) 1⟩, ⟨by have := HSZ2.out; simpa [World.setCell] using this⟩, ⟨Kd.R_drew (Kd.R_far (p := ⟨g12, i.toNat, none⟩) RY'.out (fun k hk => (OR.out.2.1 k hk).2) _)⟩, ⟨Kd.R_drew (Kd.R_far (p := ⟨g12, i.toNat, none⟩) RM.out (fun k hk => (OR.out.2.2.1 k hk).2) _)⟩,
              ⟨G2, fun j => if j = i.toNat then zz + mm else H j, Kd.R_drew (Kd.R_far (p := ⟨g12, i.toNat, none⟩) RA.out (fun k hk => OR.out.1 k hk) _), by have := int_seg RB.out i hi0 hlt (zz + mm); rw [mapN_set] at this; exact Kd.R_drew this, fun a => ⟨fun ha => by
                show G2 a = mvX l0 l1 s0 (p0 - 1) a ∧ (if a = i.toNat then _ else H a) = mvX l0 l1 s0 (p0 - 1) a + M a
                by_cases e : a = i.toNat
                · rw [if_pos e, e, HG2.out.1, EQ.out.2.2.2, HXI.out, if_pos (.inl HK4.out)]
                  exact ⟨rfl, rfl⟩
                · rw [if_neg e, HG2.out.2 a e]
                  exact (GC.out a).1 (by omega), fun ha => by rw [HG2.out.2 a (by omega)]; exact (GC.out a).2 (by omega)⟩⟩⟩
          case measure => simp [intOf]; omega
        · have hk4b : (kd == 4) = false := beq_eq_false_iff_ne.2 hk4
          have HK4 := Aside0.mk hk4
          clear hk4
          by_cases hk5 : kd = 5
          · have hk5b : (kd == 5) = true := by rw [hk5]; rfl
            have HK5 := Aside0.mk hk5
            clear hk5
            go_wp2_with fail
            replace RM := Aside0.mk (Kd.R_far (p := ⟨g9, i.toNat, none⟩) RM.out (fun k hk => (OR.out.2.2.1 k hk).1) (.int .i64 zz))
            replace RY' := Aside0.mk (Kd.R_far (p := ⟨g9, i.toNat, none⟩) RY'.out (fun k hk => (OR.out.2.1 k hk).1) (.int .i64 zz))
            replace RB := Aside0.mk (Kd.R_far (p := ⟨g9, i.toNat, none⟩) RB.out (fun k hk => OR.out.2.2.2 k hk) (.int .i64 zz))
            have hra := int_seg RA.out i hi0 hlt zz
            rw [mapN_set] at hra
            replace RA := Aside0.mk hra
            replace HBX := Aside0.mk (below_set (j := i.toNat) (v := .int .i64 zz) HBX.out OO.out.2.2.2.2.2.1)
            replace HSZ2 := Aside0.mk (show w5.heap.size ≤ ((wr.alloc (.cells #[.string (rd_T131 l0 i).f0, .int .i64 (rd_T131 l0 i).f1, .int .i64 kd] 131)).setCell ⟨g9, i.toNat, none⟩ (.int .i64 zz)).heap.size by have := HSZ2.out; simpa [World.setCell] using this)
            clear hra q9 q10 q11 q12 r9 r12 u2
            obtain ⟨G2, hG2⟩ : ∃ G2 : Nat → Int, G2 = fun j => if j = i.toNat then zz else G j := ⟨_, rfl⟩
            rw [← hG2] at RA
            have HG2 := Aside0.mk (show G2 i.toNat = zz ∧ ∀ a, a ≠ i.toNat → G2 a = G a from ⟨by rw [hG2]; simp, fun a ha => by rw [hG2]; simp [ha]⟩)
            obtain ⟨q9, r9⟩ := int_get RA.out i hi0 hlt
            obtain ⟨q11, _⟩ := int_get RM.out i hi0 hlt
            obtain ⟨q12, r12⟩ := int_get RB.out i hi0 hlt
            rw [mapN_rd hi0 hlt] at q9 q11 q12
            rw [HG2.out.1] at q9
            rw [EQ.out.2.2.2] at q11
            rw [EQ.out.1] at q12
            clear hG2
            generalize ((wr.alloc (.cells #[.string (rd_T131 l0 i).f0, .int .i64 (rd_T131 l0 i).f1, .int .i64 kd] 131)).setCell ⟨g9, i.toNat, none⟩ (.int .i64 zz)) = wq at *
            go_region
            go_wp2_with fail
            go_roundw
            case rel =>
              exact ⟨i + 1, by omega, by omega, rfl, ⟨pw_below_drewN (below_set HBX.out OO.out.2.2.2.2.2.2) 1⟩, ⟨by have := HSZ2.out; simpa [World.setCell] using this⟩, ⟨Kd.R_drew (Kd.R_far (p := ⟨g12, i.toNat, none⟩) RY'.out (fun k hk => (OR.out.2.1 k hk).2) _)⟩, ⟨Kd.R_drew (Kd.R_far (p := ⟨g12, i.toNat, none⟩) RM.out (fun k hk => (OR.out.2.2.1 k hk).2) _)⟩,
                ⟨G2, fun j => if j = i.toNat then zz + mm else H j, Kd.R_drew (Kd.R_far (p := ⟨g12, i.toNat, none⟩) RA.out (fun k hk => OR.out.1 k hk) _), by have := int_seg RB.out i hi0 hlt (zz + mm); rw [mapN_set] at this; exact Kd.R_drew this, fun a => ⟨fun ha => by
                  show G2 a = mvX l0 l1 s0 (p0 - 1) a ∧ (if a = i.toNat then _ else H a) = mvX l0 l1 s0 (p0 - 1) a + M a
                  by_cases e : a = i.toNat
                  · rw [if_pos e, e, HG2.out.1, EQ.out.2.2.2, HXI.out, if_pos (.inr HK5.out)]
                    exact ⟨rfl, rfl⟩
                  · rw [if_neg e, HG2.out.2 a e]
                    exact (GC.out a).1 (by omega), fun ha => by rw [HG2.out.2 a (by omega)]; exact (GC.out a).2 (by omega)⟩⟩⟩
            case measure => simp [intOf]; omega
          · have hk5b : (kd == 5) = false := beq_eq_false_iff_ne.2 hk5
            have HK5 := Aside0.mk hk5
            clear hk5
            go_wp2_with fail
            obtain ⟨G2, hG2⟩ : ∃ G2 : Nat → Int, G2 = G := ⟨_, rfl⟩
            rw [← hG2] at RA
            have HG2 := Aside0.mk (show G2 i.toNat = yy ∧ ∀ a, a ≠ i.toNat → G2 a = G a from ⟨by rw [hG2]; exact HGI.out, fun a ha => by rw [hG2]⟩)
            clear hG2 u2
            generalize wr.alloc (.cells #[.string (rd_T131 l0 i).f0, .int .i64 (rd_T131 l0 i).f1, .int .i64 kd] 131) = wq at *
            go_region
            go_wp2_with fail
            go_roundw
            case rel =>
              exact ⟨i + 1, by omega, by omega, rfl, ⟨pw_below_drewN (below_set HBX.out OO.out.2.2.2.2.2.2) 1⟩, ⟨by have := HSZ2.out; simpa [World.setCell] using this⟩, ⟨Kd.R_drew (Kd.R_far (p := ⟨g12, i.toNat, none⟩) RY'.out (fun k hk => (OR.out.2.1 k hk).2) _)⟩, ⟨Kd.R_drew (Kd.R_far (p := ⟨g12, i.toNat, none⟩) RM.out (fun k hk => (OR.out.2.2.1 k hk).2) _)⟩,
                ⟨G2, fun j => if j = i.toNat then yy + mm else H j, Kd.R_drew (Kd.R_far (p := ⟨g12, i.toNat, none⟩) RA.out (fun k hk => OR.out.1 k hk) _), by have := int_seg RB.out i hi0 hlt (yy + mm); rw [mapN_set] at this; exact Kd.R_drew this, fun a => ⟨fun ha => by
                  show G2 a = mvX l0 l1 s0 (p0 - 1) a ∧ (if a = i.toNat then _ else H a) = mvX l0 l1 s0 (p0 - 1) a + M a
                  by_cases e : a = i.toNat
                  · rw [if_pos e, e, HG2.out.1, EQ.out.2.2.2, HXI.out, if_neg (fun q => q.elim HK4.out HK5.out)]
                    exact ⟨rfl, rfl⟩
                  · rw [if_neg e, HG2.out.2 a e]
                    exact (GC.out a).1 (by omega), fun ha => by rw [HG2.out.2 a (by omega)]; exact (GC.out a).2 (by omega)⟩⟩⟩
            case measure => simp [intOf]; omega
      · go_wp2_with fail
        obtain ⟨G, H, ga, gb, gc⟩ := HGH.out
        refine bodyPost_ret (v := .tuple #[(.slice (some ⟨g9, 0, none⟩) l0.length k9), (.slice (some ⟨g11, 0, none⟩) l0.length k11), (.slice (some ⟨g12, 0, none⟩) l0.length k12)]) (by simp [results, Try.results28, go_sem]) rfl ⟨_, _, _, rfl, ?_, HB.out⟩
        rw [HRV.out]
        have e1 : mapN l0.length G = mapN l0.length (mvX l0 l1 s0 (p0 - 1)) := mapN_congr (fun a ha => ((gc a).1 (by omega)).1)
        have e2 : mapN l0.length H = mapN l0.length (fun a => mvX l0 l1 s0 (p0 - 1) a + basV a (-1) (-1) p0 p1 l1) := mapN_congr (fun a ha => by rw [((gc a).1 (by omega)).2, HMM.out])
        rw [e1] at ga
        rw [e2] at gb
        have gm := RM.out
        rw [HMM.out] at gm
        exact ⟨wp.heap.size, w2.heap.size, w3.heap.size, w4.heap.size, w4.heap.size, w5.heap.size, HBA.out.size, sA, sY, sM, Nat.le_refl _, sB, HSZ.out, ga, gm, gb⟩
end Go.Proofs.Ytphmnkcfjgallaa.Q
