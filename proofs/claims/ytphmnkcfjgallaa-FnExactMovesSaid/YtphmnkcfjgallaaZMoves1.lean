/- Parts of the proof: what functions of the program and of the reference answer.
   No condition. -/
import Derived.Test.YtphmnkcfjgallaaWRepsOne
import Derived.Test.YtphmnkcfjgallaaZC1
import Derived.BigRegion
namespace Go.Proofs.Ytphmnkcfjgallaa.Q
open Go.RowKit Go.Proofs.YtphmnkcfjgallaaW.PrintWords Go.Proofs.YtphmnkcfjgallaaW.PrintLast Go.Proofs.YtphmnkcfjgallaaW.PrintMore
attribute [local go_sem] max2_int min2_int max_two min_two max_three min_three max_four min_four   -- for this text's walks alone
set_option linter.unusedVariables false
set_option linter.unusedSimpArgs false

/-! ### hand text 01_zbal.lean -/
/-! #### balances, told plainly -/
def selL (a d c : Int) (x : Lin) : Bool := (decide (a = -1) || decide (a = x.f0)) && (decide (d = -1) || decide (d = x.f1)) && (decide (c = -1) || decide (c = x.f2))
def amtL (a d c : Int) : List Lin → Int
  | [] => 0
  | x :: l => (if selL a d c x = true then x.f3 else 0) + amtL a d c l
def basL (a d c : Int) : List Lin → Int
  | [] => 0
  | x :: l => (if selL a d c x = true then x.f4 else 0) + basL a d c l
def amtV (a d c fr tt : Int) : List Ent → Int
  | [] => 0
  | e :: l => (if inB e.f0 fr tt = true then amtL a d c e.f3 else 0) + amtV a d c fr tt l
def basV (a d c fr tt : Int) : List Ent → Int
  | [] => 0
  | e :: l => (if inB e.f0 fr tt = true then basL a d c e.f3 else 0) + basV a d c fr tt l
theorem sel_ifs {β : Type} (a d c : Int) (x : Lin) (Y N : β) :
    (if a = -1 then (if d = -1 then (if c = -1 then Y else if c = x.f2 then Y else N) else (if d = x.f1 then (if c = -1 then Y else if c = x.f2 then Y else N) else N))
      else (if a = x.f0 then (if d = -1 then (if c = -1 then Y else if c = x.f2 then Y else N) else (if d = x.f1 then (if c = -1 then Y else if c = x.f2 then Y else N) else N)) else N)) = if selL a d c x = true then Y else N := by
  unfold selL
  by_cases h1 : a = -1 <;> by_cases h2 : d = -1 <;> by_cases h3 : c = -1 <;> by_cases h4 : a = x.f0 <;> by_cases h5 : d = x.f1 <;> by_cases h6 : c = x.f2 <;> simp only [if_pos, if_neg, h1, h2, h3, h4, h5, h6, decide_true, decide_false, Bool.true_or, Bool.or_true, Bool.false_or, Bool.or_false, Bool.and_true, Bool.true_and, Bool.and_false, Bool.false_and, if_true, if_false, reduceCtorEq, eq_self_iff_true, if_false] <;> first | rfl | simp_all
def lineFine (x : Lin) : Prop := (-100000000000 ≤ x.f3 ∧ x.f3 ≤ 100000000000) ∧ (-100000000000 ≤ x.f4 ∧ x.f4 ≤ 100000000000)
def entFine (e : Ent) : Prop := e.f3.length ≤ 60 ∧ ∀ x ∈ e.f3, lineFine x
theorem amtL_b (a d c : Int) (l : List Lin) (h : ∀ x ∈ l, lineFine x) : -100000000000 * (l.length : Int) ≤ amtL a d c l ∧ amtL a d c l ≤ 100000000000 * (l.length : Int) := by
  induction l with
  | nil => simp [amtL]
  | cons x l ih =>
    have h1 := ih (fun y hy => h y (List.mem_cons_of_mem _ hy))
    have h2 := (h x List.mem_cons_self).1
    simp only [amtL, List.length_cons]
    split <;> (push_cast; omega)
theorem basL_b (a d c : Int) (l : List Lin) (h : ∀ x ∈ l, lineFine x) : -100000000000 * (l.length : Int) ≤ basL a d c l ∧ basL a d c l ≤ 100000000000 * (l.length : Int) := by
  induction l with
  | nil => simp [basL]
  | cons x l ih =>
    have h1 := ih (fun y hy => h y (List.mem_cons_of_mem _ hy))
    have h2 := (h x List.mem_cons_self).2
    simp only [basL, List.length_cons]
    split <;> (push_cast; omega)
theorem basV_b (a d c fr tt : Int) (l : List Ent) (h : ∀ e ∈ l, entFine e) : -6000000000000 * (l.length : Int) ≤ basV a d c fr tt l ∧ basV a d c fr tt l ≤ 6000000000000 * (l.length : Int) := by
  induction l with
  | nil => simp [basV]
  | cons x l ih =>
    have h1 := ih (fun y hy => h y (List.mem_cons_of_mem _ hy))
    have h2 := h x List.mem_cons_self
    have h3 := basL_b a d c x.f3 h2.2
    have h4 := h2.1
    simp only [basV, List.length_cons]
    split <;> (push_cast; omega)
theorem drop_at {α : Type} {l : List α} {z : α} {i : Int} (h0 : 0 ≤ i) (h1 : i < (l.length : Int)) : l.drop i.toNat = l.getD i.toNat z :: l.drop (i + 1).toNat := by
  rw [show (i + 1).toNat = i.toNat + 1 by omega, List.drop_eq_getElem_cons (by omega), List.getD_eq_getElem?_getD, List.getElem?_eq_getElem (by omega)]
  rfl
theorem mem_at {α : Type} {l : List α} {z : α} {i : Int} (h0 : 0 ≤ i) (h1 : i < (l.length : Int)) : l.getD i.toNat z ∈ l := by
  rw [List.getD_eq_getElem?_getD, List.getElem?_eq_getElem (by omega)]
  exact List.getElem_mem _
theorem wrin {p : Int} (h0 : -4611686018427387904 ≤ p) (h1 : p ≤ 4611686018427387904) : wrap64 p = p := by unfold wrap64; omega
def mapN (N : Nat) (g : Nat → Int) : List Int := (List.range N).map g
theorem mapN_len (N : Nat) (g : Nat → Int) : (mapN N g).length = N := by unfold mapN; simp
theorem mapN_rd {N : Nat} {g : Nat → Int} {a : Int} (h0 : 0 ≤ a) (h1 : a < (N : Int)) : rd (mapN N g) a = g a.toNat := by
  unfold rd mapN
  rw [List.getD_eq_getElem?_getD, List.getElem?_map, List.getElem?_range (by omega)]
  rfl
theorem mapN_set {N : Nat} {g : Nat → Int} {a : Nat} {v : Int} : (mapN N g).set a v = mapN N (fun j => if j = a then v else g j) := by
  apply List.ext_getElem?
  intro j
  unfold mapN
  rw [List.getElem?_set]
  by_cases hj : j < N
  · rw [List.getElem?_map, List.getElem?_map, List.getElem?_range hj]
    by_cases e : a = j
    · subst e
      simp [hj]
    · rw [if_neg e]
      simp [Ne.symm e]
  · rw [List.getElem?_eq_none (l := List.map _ _) (by simp; omega)]
    split
    · rename_i e
      subst e
      simp [hj]
    · rw [List.getElem?_eq_none (by simp; omega)]
theorem mapN_congr {N : Nat} {f g : Nat → Int} (h : ∀ a, a < N → f a = g a) : mapN N f = mapN N g := by
  unfold mapN
  exact List.map_congr_left (fun a ha => h a (List.mem_range.1 ha))
theorem mapN_zero (N : Nat) : List.replicate N 0 = mapN N (fun _ => 0) := by
  apply List.ext_getElem?
  intro j
  unfold mapN
  rw [List.getElem?_replicate, List.getElem?_map]
  by_cases hj : j < N
  · rw [List.getElem?_range hj, if_pos hj]; rfl
  · rw [List.getElem?_eq_none (by simp; omega), if_neg hj]; rfl
theorem selL_acc {a : Nat} {d : Int} {x : Lin} (h0 : 0 ≤ x.f0) : selL (a : Int) d (-1) x = (decide (a = x.f0.toNat) && (decide (d = -1) || decide (x.f1 = d))) := by
  unfold selL
  have h1 : ¬ ((a : Int) = -1) := by omega
  have h2 : ((a : Int) = x.f0) = (a = x.f0.toNat) := by apply propext; omega
  have h3 : (d = x.f1) = (x.f1 = d) := propext ⟨Eq.symm, Eq.symm⟩
  simp [h1, h2, h3]
def basesP (N : Nat) (es : List Ent) : Prop := 1 ≤ N ∧ N ≤ 1000 ∧ es.length ≤ 1000 ∧ (∀ e ∈ es, entFine e) ∧ (∀ e ∈ es, ∀ x ∈ e.f3, 0 ≤ x.f0 ∧ x.f0 < (N : Int))


end Go.Proofs.Ytphmnkcfjgallaa.Q
namespace Go.Proofs.Ytphmnkcfjgallaa.Q
open Go.RowKit Go.Proofs.YtphmnkcfjgallaaW.PrintWords Go.Proofs.YtphmnkcfjgallaaW.PrintLast Go.Proofs.YtphmnkcfjgallaaW.PrintMore
attribute [local go_sem] max2_int min2_int max_two min_two max_three min_three max_four min_four   -- for this text's walks alone
set_option linter.unusedVariables false
set_option linter.unusedSimpArgs false

/-! ### hand text g0_bases.lean -/
-- IMPORT Derived.BigRegion
theorem int_seg {W : World} {base g n cap : Nat} {ok : Nat → Prop} {xs : List Int} (h : (Kd.int .i64).R 3 W base ok (.slice (some ⟨g, 0, none⟩) n cap) xs) (i : Int) (h0 : 0 ≤ i) (h1 : i < n) (v : Int) :
    (Kd.int .i64).R 3 (W.setCell ⟨g, i.toNat, none⟩ (.int .i64 v)) base ok (.slice (some ⟨g, 0, none⟩) n cap) (xs.set i.toNat v) := by
  obtain ⟨c, hcl, hM, hcc, _⟩ := Kd.R_elem h 0 i h0 h1
  have := (Kd.R_seg h i h0 h1 (c := c) (seg := [.int .i64 v]) (j := 0) (x' := v) (okp := fun _ => False) hcl hcc (Nat.le_refl _) (by
    have hl : c.length = 1 := hcl
    match c, hl with
    | [u], _ => rfl) (fun _ hk => hk.elim)).1
  rw [show (Kd.int .i64).sz = 1 from rfl, Nat.mul_one, Nat.add_zero] at this
  exact this
theorem int_get {W : World} {base g n cap : Nat} {ok : Nat → Prop} {xs : List Int} (h : (Kd.int .i64).R 3 W base ok (.slice (some ⟨g, 0, none⟩) n cap) xs) (i : Int) (h0 : 0 ≤ i) (h1 : i < n) :
    W.cell? ⟨g, i.toNat, none⟩ = some (.int .i64 (rd xs i)) ∧ W.frozen? ⟨g, i.toNat, none⟩ = false := by
  obtain ⟨c, hcl, hM, hcc, hfr⟩ := Kd.R_elem h 0 i h0 h1
  have e : c = [.int .i64 (xs.getD i.toNat 0)] := hM
  subst e
  have a := hcc 0 _ rfl
  have b := hfr 0
  rw [show (Kd.int .i64).sz = 1 from rfl, Nat.mul_one, Nat.add_zero] at a b
  exact ⟨a, b⟩
set_option maxHeartbeats 16000000 in
set_option maxRecDepth 100000 in
theorem impl_bases.to (N : Nat) (A : Option Addr) (c : Nat) (es : List Ent) (h d fr tt : Int) (w : World) (hr : Kd.C k34 w A es.length es) (q : basesP N es) :
    Calls Try.prog 95 #[.int .i64 N, .agg #[.slice A es.length c, .int .i64 h], .int .i64 d, .int .i64 fr, .int .i64 tt] w fun e w' => ∃ v0_ : Value, e = .returned v0_ ∧ Kd.R (Kd.int .i64) 3 w' w.heap.size (fun _ => True) v0_ (mapN N (fun a => basV a d (-1) fr tt es)) ∧ Below w.heap.size w w' := by
  obtain ⟨q0, q1, q2, q3, q4⟩ := q
  have HR := Aside0.mk hr
  have Q3 := Aside0.mk q3
  have Q4 := Aside0.mk q4
  have hT : ∃ T : Nat → Int, T = fun (a : Nat) => basV (a : Int) d (-1) fr tt es := ⟨_, rfl⟩
  obtain ⟨T, hT⟩ := hT
  rw [← hT]
  have HTT := Aside0.mk hT
  clear hr q3 q4 hT
  go_enter Try.func95, Try.ntmps95
  go_wp2_with ((with_reducible refine gate_dst (N := 17) rfl ?_); refine Kd.R_make (Kd.int .i64) _ 3 rfl (N := 17) rfl 46 _ _ rfl (N : Int) rfl rfl Try.underlying46 (.int .i64 0) 8 info3 rfl (by decide) (by omega) 0 (ok := fun _ => True) (okp := fun _ => True) rfl (fun _ hk => hk) trivial (by omega) (by simp; omega) (Below.refl _ _) (Nat.le_refl _) ?_; intro v1 w1 ho hb hg hnew; have f0 : w1.cell? ⟨w.heap.size, 0, none⟩ = some (.slice A es.length c) := pw_cell_below hb (by go_simp); have HB := Aside0.mk (below_into (w := w) hb (below_alloc (Below.refl _ _) _)); have HO := Aside0.mk (Kd.R_lower ho (base' := w.heap.size) (by simp)); obtain ⟨g, cap, e1, hg0, hg1, _⟩ := Kd.R_form HO.out (by simp; omega); subst e1; clear ho hb hg hnew hg1)
  rw [show (List.replicate ((N : Int)).toNat (0 : Int)) = mapN N (fun _ => 0) from (by rw [Int.toNat_natCast]; exact mapN_zero N)] at HO
  rw [mapN_len] at HO
  go_loopw [21] (fun v wr => ∃ i : Int, 0 ≤ i ∧ i ≤ (es.length : Int) ∧ v = .int .i64 i ∧ Aside0 (Below w.heap.size w wr) ∧ Aside0 (∃ G : Nat → Int, (∀ a, G a + basV (a : Int) d (-1) fr tt (es.drop i.toNat) = T a) ∧ Kd.R (Kd.int .i64) 3 wr w.heap.size (fun _ => True) (.slice (some ⟨g, 0, none⟩) N cap) (mapN N G))) (fun v _ => (es.length - (intOf v).toNat))
  case atStart => exact ⟨0, by omega, by omega, rfl, HB, ⟨fun _ => 0, fun a => by rw [HTT.out]; simp, HO.out⟩⟩
  case round =>
    clear HB HO f0
    obtain ⟨i, hi0, hi1, rfl, HB, HG⟩ := hrel
    by_cases hlt : i < (es.length : Int)
    · obtain ⟨ad, A3, c3, e0, x0, x1, x2, x3, x4, x5⟩ := at_T34 HR.out i hi0 hlt
      cases e0
      replace x0 := pw_cell_below HB.out x0
      replace x1 := pw_cell_below HB.out x1
      replace x2 := pw_cell_below HB.out x2
      replace x3 := pw_cell_below HB.out x3
      have X5 := Aside0.mk x5
      have XL := Aside0.mk x4
      have hl3 : (rd_T34 es i).f3.length ≤ 60 := (all_at (z := z34) (p := entFine) hi0 hlt Q3.out).1
      have HF := Aside0.mk (show ∀ x ∈ (rd_T34 es i).f3, lineFine x from (all_at (z := z34) (p := entFine) hi0 hlt Q3.out).2)
      have HA := Aside0.mk (show ∀ x ∈ (rd_T34 es i).f3, 0 ≤ x.f0 ∧ x.f0 < (N : Int) from all_at (z := z34) (p := fun e => ∀ x ∈ e.f3, 0 ≤ x.f0 ∧ x.f0 < (N : Int)) hi0 hlt Q4.out)
      have HD := Aside0.mk (drop_at (l := es) (z := z34) hi0 hlt)
      clear x5 x4
      generalize hy0 : (rd_T34 es i).f0 = day at *
      generalize hy3 : (rd_T34 es i).f3 = ls at *
      have HY0 := Aside0.mk hy0
      have HY3 := Aside0.mk hy3
      clear hy0 hy3
      have HBX := Aside0.mk (below_alloc HB.out (.cells #[.int .i64 day, .int .i64 (rd_T34 es i).f1, .string (rd_T34 es i).f2, .slice A3 ls.length c3] 34))
      have HSK := Aside0.mk (show inB day fr tt = false → ∀ G : Nat → Int, (∀ a, G a + basV (a : Int) d (-1) fr tt (es.drop i.toNat) = T a) → ∀ a, G a + basV (a : Int) d (-1) fr tt (es.drop (i + 1).toNat) = T a from fun hn G hG a => by
        rw [← hG a, HD.out]
        show _ = G a + ((if inB (rd_T34 es i).f0 fr tt = true then basL a d (-1) (rd_T34 es i).f3 else 0) + basV (a : Int) d (-1) fr tt (es.drop (i + 1).toNat))
        rw [HY0.out, hn]
        simp)
      have HGO := Aside0.mk (show inB day fr tt = true → ∀ G : Nat → Int, (∀ a, G a + basV (a : Int) d (-1) fr tt (es.drop i.toNat) = T a) → ∀ a, G a + basL (a : Int) d (-1) ls + basV (a : Int) d (-1) fr tt (es.drop (i + 1).toNat) = T a from fun hn G hG a => by
        rw [← hG a, HD.out]
        show _ = G a + ((if inB (rd_T34 es i).f0 fr tt = true then basL a d (-1) (rd_T34 es i).f3 else 0) + basV (a : Int) d (-1) fr tt (es.drop (i + 1).toNat))
        rw [HY0.out, hn, HY3.out]
        simp
        omega)
      have HBD := Aside0.mk (show ∀ (G : Nat → Int) (m : List Lin), (∀ x ∈ m, lineFine x) → m.length ≤ 60 → (∀ a, G a + basL (a : Int) d (-1) m + basV (a : Int) d (-1) fr tt (es.drop (i + 1).toNat) = T a) → ∀ a, -100000000000000000 ≤ G a ∧ G a ≤ 100000000000000000 from fun G m hm hml hG a => by
        have t1 := basV_b (a : Int) d (-1) fr tt es Q3.out
        have t2 := basV_b (a : Int) d (-1) fr tt (es.drop (i + 1).toNat) (fun e he => Q3.out e (List.mem_of_mem_drop he))
        have t3 := basL_b (a : Int) d (-1) m hm
        have t4 := hG a
        rw [HTT.out] at t4
        have t5 : (es.drop (i + 1).toNat).length ≤ 1000 := by rw [List.length_drop]; omega
        simp only at t4
        constructor <;> omega)
      by_cases h1 : day < fr
      · have h1b : decide (day < fr) = true := decide_eq_true h1
        go_wp2_with fail
        go_roundw
        case rel =>
          obtain ⟨G, g1, g2⟩ := HG.out
          exact ⟨i + 1, by omega, by omega, rfl, HBX, ⟨G, HSK.out (inB_not (by omega)) G g1, Kd.R_alloc g2 _⟩⟩
        case measure => simp [intOf]; omega
      · have h1b : decide (day < fr) = false := decide_eq_false h1
        by_cases h2 : tt < day
        · have h2b : decide (tt < day) = true := decide_eq_true h2
          go_wp2_with fail
          go_roundw
          case rel =>
            obtain ⟨G, g1, g2⟩ := HG.out
            exact ⟨i + 1, by omega, by omega, rfl, HBX, ⟨G, HSK.out (inB_not (by omega)) G g1, Kd.R_alloc g2 _⟩⟩
          case measure => simp [intOf]; omega
        · have h2b : decide (tt < day) = false := decide_eq_false h2
          obtain ⟨G, g1, g2⟩ := HG.out
          have HG1 := Aside0.mk (HGO.out (inB_of ⟨by omega, by omega⟩) G g1)
          have HR1 := Aside0.mk (Kd.R_alloc g2 (.cells #[.int .i64 day, .int .i64 (rd_T34 es i).f1, .string (rd_T34 es i).f2, .slice A3 ls.length c3] 34))
          clear HG g1 g2 HSK HGO
          go_wp2_with fail
          go_loopw [38] (fun v wq => ∃ j : Int, 0 ≤ j ∧ j ≤ (ls.length : Int) ∧ v = .int .i64 j ∧ Aside0 (Below w.heap.size w wq) ∧ Aside0 (∃ G : Nat → Int, (∀ a, G a + basL (a : Int) d (-1) (ls.drop j.toNat) + basV (a : Int) d (-1) fr tt (es.drop (i + 1).toNat) = T a) ∧ Kd.R (Kd.int .i64) 3 wq w.heap.size (fun _ => True) (.slice (some ⟨g, 0, none⟩) N cap) (mapN N G))) (fun v _ => (ls.length - (intOf v).toNat))
          case atStart => exact ⟨0, by omega, by omega, rfl, HBX, ⟨G, fun a => by simpa using HG1.out a, HR1.out⟩⟩
          case round =>
            clear HB HBX HR1 HG1
            obtain ⟨j, hj0, hj1, rfl, HB, HG⟩ := hrel
            by_cases hlj : j < (ls.length : Int)
            · obtain ⟨ad, e0, y0, y1, y2, y3, y4⟩ := at_T112 (Kd.C_below X5.out HB.out) j hj0 hlj
              cases e0
              have HLF := Aside0.mk (all_at (z := z112) (p := lineFine) hj0 hlj HF.out)
              have HLA := all_at (z := z112) (p := fun x => 0 ≤ x.f0 ∧ x.f0 < (N : Int)) hj0 hlj HA.out
              have z0 : 0 ≤ (rd_T112 ls j).f0 := HLA.1
              have z1 : (rd_T112 ls j).f0 < (N : Int) := HLA.2
              have HLD := Aside0.mk (drop_at (l := ls) (z := z112) hj0 hlj)
              have HPB := Aside0.mk (show -100000000000 ≤ (rd_T112 ls j).f4 ∧ (rd_T112 ls j).f4 ≤ 100000000000 from HLF.out.2)
              obtain ⟨G, g1, g2⟩ := HG.out
              have HGB := Aside0.mk (HBD.out G (ls.drop j.toNat) (fun x hx => HF.out x (List.mem_of_mem_drop hx)) (by rw [List.length_drop]; omega) g1)
              have HSL := Aside0.mk (show ∀ s : Bool, (∀ b : Nat, selL (b : Int) d (-1) (rd_T112 ls j) = (decide (b = (rd_T112 ls j).f0.toNat) && s)) → ∀ a : Nat, (if s = true then (if a = (rd_T112 ls j).f0.toNat then G (rd_T112 ls j).f0.toNat + (rd_T112 ls j).f4 else G a) else G a) + basL (a : Int) d (-1) (ls.drop (j + 1).toNat) + basV (a : Int) d (-1) fr tt (es.drop (i + 1).toNat) = T a from fun s hs a => by
                rw [← g1 a, HLD.out]
                show _ = G a + ((if selL (a : Int) d (-1) (rd_T112 ls j) = true then (rd_T112 ls j).f4 else 0) + basL (a : Int) d (-1) (ls.drop (j + 1).toNat)) + basV (a : Int) d (-1) fr tt (es.drop (i + 1).toNat)
                rw [hs a]
                cases s <;> by_cases e : a = (rd_T112 ls j).f0.toNat <;> simp [e] <;> omega)
              obtain ⟨k0, k1⟩ := int_get g2 _ z0 z1
              rw [mapN_rd z0 z1] at k0
              have HR2 := Aside0.mk g2
              have HSE := Aside0.mk (fun b : Nat => selL_acc (a := b) (d := d) (x := rd_T112 ls j) z0)
              clear HG g1 g2
              have HBX := Aside0.mk (below_alloc HB.out (.cells #[.int .i64 (rd_T112 ls j).f0, .int .i64 (rd_T112 ls j).f1, .int .i64 (rd_T112 ls j).f2, .int .i64 (rd_T112 ls j).f3, .int .i64 (rd_T112 ls j).f4] 112))
              have b0 := (HGB.out (rd_T112 ls j).f0.toNat).1
              have b1 := (HGB.out (rd_T112 ls j).f0.toNat).2
              have b2 := HPB.out.1
              have b3 := HPB.out.2
              generalize hp0 : (rd_T112 ls j).f0 = p0 at *
              generalize hp1 : (rd_T112 ls j).f1 = p1 at *
              generalize hp4 : (rd_T112 ls j).f4 = p4 at *
              generalize hgv : G p0.toNat = gv at *
              have PP := Aside0.mk (And.intro hp0 (And.intro hp1 (And.intro hp4 hgv)))
              clear hp0 hp1 hp4 hgv
              by_cases hd : d = -1
              · have hdb : (d == -1) = true := by rw [hd]; rfl
                have HD1 := Aside0.mk hd
                clear hd
                go_wp2_with fail
                have u0 : (wr.alloc (.cells #[.int .i64 p0, .int .i64 p1, .int .i64 (rd_T112 ls j).f2, .int .i64 (rd_T112 ls j).f3, .int .i64 p4] 112)).cell? ⟨wr.heap.size, 0, none⟩ = some (.int .i64 p0) := by go_simp
                have u4 : (wr.alloc (.cells #[.int .i64 p0, .int .i64 p1, .int .i64 (rd_T112 ls j).f2, .int .i64 (rd_T112 ls j).f3, .int .i64 p4] 112)).cell? ⟨wr.heap.size, 4, none⟩ = some (.int .i64 p4) := by go_simp
                have hbl := below_alloc (Below.refl wr.heap.size wr) (.cells #[.int .i64 p0, .int .i64 p1, .int .i64 (rd_T112 ls j).f2, .int .i64 (rd_T112 ls j).f3, .int .i64 p4] 112)
                replace k0 := pw_cell_below hbl k0
                replace HR2 := Aside0.mk (Kd.R_below HR2.out hbl)
                clear hbl
                replace k1 := (int_get HR2.out _ z0 z1).2
                generalize wr.alloc (.cells #[.int .i64 p0, .int .i64 p1, .int .i64 (rd_T112 ls j).f2, .int .i64 (rd_T112 ls j).f3, .int .i64 p4] 112) = wq at *
                generalize wr.heap.size = gx at *
                go_region
                go_wp2_with fail
                go_roundw
                case rel => exact ⟨j + 1, by omega, by omega, rfl, ⟨pw_below_drewN (below_set HBX.out hg0) 1⟩, ⟨_, by have := HSL.out true (fun b => by rw [HSE.out b]; simp [HD1.out]); simpa using this, by have := int_seg HR2.out _ z0 z1 (gv + p4); rw [mapN_set] at this; exact Kd.R_drew this⟩⟩
                case measure => simp [intOf]; omega
              · have hdb : (d == -1) = false := beq_eq_false_iff_ne.2 hd
                have HD1 := Aside0.mk hd
                clear hd
                by_cases hq : p1 = d
                · have hqb : (p1 == d) = true := by rw [hq]; exact beq_self_eq_true' _
                  have HD2 := Aside0.mk hq
                  clear hq
                  go_wp2_with fail
                  have u0 : (wr.alloc (.cells #[.int .i64 p0, .int .i64 p1, .int .i64 (rd_T112 ls j).f2, .int .i64 (rd_T112 ls j).f3, .int .i64 p4] 112)).cell? ⟨wr.heap.size, 0, none⟩ = some (.int .i64 p0) := by go_simp
                  have u4 : (wr.alloc (.cells #[.int .i64 p0, .int .i64 p1, .int .i64 (rd_T112 ls j).f2, .int .i64 (rd_T112 ls j).f3, .int .i64 p4] 112)).cell? ⟨wr.heap.size, 4, none⟩ = some (.int .i64 p4) := by go_simp
                  have hbl := below_alloc (Below.refl wr.heap.size wr) (.cells #[.int .i64 p0, .int .i64 p1, .int .i64 (rd_T112 ls j).f2, .int .i64 (rd_T112 ls j).f3, .int .i64 p4] 112)
                  replace k0 := pw_cell_below hbl k0
                  replace HR2 := Aside0.mk (Kd.R_below HR2.out hbl)
                  clear hbl
                  replace k1 := (int_get HR2.out _ z0 z1).2
                  generalize wr.alloc (.cells #[.int .i64 p0, .int .i64 p1, .int .i64 (rd_T112 ls j).f2, .int .i64 (rd_T112 ls j).f3, .int .i64 p4] 112) = wq at *
                  generalize wr.heap.size = gx at *
                  go_region
                  go_wp2_with fail
                  go_roundw
                  case rel => exact ⟨j + 1, by omega, by omega, rfl, ⟨pw_below_drewN (below_set HBX.out hg0) 1⟩, ⟨_, by have := HSL.out true (fun b => by rw [HSE.out b]; simp [HD2.out]); simpa using this, by have := int_seg HR2.out _ z0 z1 (gv + p4); rw [mapN_set] at this; exact Kd.R_drew this⟩⟩
                  case measure => simp [intOf]; omega
                · have hqb : (p1 == d) = false := beq_eq_false_iff_ne.2 hq
                  have HD2 := Aside0.mk hq
                  clear hq
                  go_wp2_with fail
                  go_roundw
                  case rel => exact ⟨j + 1, by omega, by omega, rfl, HBX, ⟨G, by have := HSL.out false (fun b => by rw [HSE.out b]; simp [HD1.out, HD2.out]); simpa using this, Kd.R_alloc HR2.out _⟩⟩
                  case measure => simp [intOf]; omega
            · go_wp2_with fail
              go_roundw
              case rel =>
                obtain ⟨G, g1, g2⟩ := HG.out
                exact ⟨i + 1, by omega, by omega, rfl, HB, ⟨G, fun a => by have := g1 a; rw [List.drop_of_length_le (by omega)] at this; simpa [basL] using this, g2⟩⟩
              case measure => simp [intOf]; omega
    · go_wp2_with fail
      go_ret
      obtain ⟨G, g1, g2⟩ := HG.out
      rw [show mapN N G = mapN N T from mapN_congr (fun a _ => by have := g1 a; rw [List.drop_of_length_le (by omega)] at this; simpa [basV] using this)] at g2
      exact ⟨_, rfl, g2, HB.out⟩
open Classical in
noncomputable def impl_bases.f (a0 : Int) (l1_0 : List Ent) (a1_1 : Int) (a2 : Int) (a3 : Int) (a4 : Int) : Option (List Int) := if 0 ≤ a0 ∧ basesP a0.toNat l1_0 then some (mapN a0.toNat (fun a => basV a a2 (-1) a3 a4 l1_0)) else none
theorem impl_bases.calls (a0 : Int) (A1_0 : Option Addr) (c1_0 : Nat) (l1_0 : List Ent) (a1_1 : Int) (a2 : Int) (a3 : Int) (a4 : Int) (r : List Int) (w : World) (hr1_0 : Kd.C k34 w A1_0 l1_0.length l1_0) (hc1_0 : l1_0.length ≤ c1_0) (hf : impl_bases.f a0 l1_0 a1_1 a2 a3 a4 = some r) :
    Calls Try.prog 95 #[.int .i64 a0, .agg #[.slice A1_0 l1_0.length c1_0, .int .i64 a1_1], .int .i64 a2, .int .i64 a3, .int .i64 a4] w fun e w' => ∃ v0_ : Value, e = .returned (v0_) ∧ Kd.R (Kd.int .i64) 3 w' w.heap.size (fun _ => True) v0_ r ∧ Below w.heap.size w w' := by
  unfold impl_bases.f at hf
  split at hf
  · rename_i q
    cases hf
    obtain ⟨n, rfl⟩ := Int.eq_ofNat_of_zero_le q.1
    exact impl_bases.to n A1_0 c1_0 l1_0 a1_1 a2 a3 a4 w hr1_0 q.2
  · cases hf


end Go.Proofs.Ytphmnkcfjgallaa.Q
