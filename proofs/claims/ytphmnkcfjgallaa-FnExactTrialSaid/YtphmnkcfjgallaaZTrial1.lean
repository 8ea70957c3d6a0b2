/- Parts of the proof: what functions of the program and of the reference answer.
   No condition. -/
import Derived.Test.YtphmnkcfjgallaaZC1
import Derived.BigRegion
import Derived.Test.YtphmnkcfjgallaaZC3
import Derived.Test.YtphmnkcfjgallaaZC2
namespace Go.Proofs.Ytphmnkcfjgallaa.Q
open Go.RowKit Go.Proofs.YtphmnkcfjgallaaW.PrintWords Go.Proofs.YtphmnkcfjgallaaW.PrintLast Go.Proofs.YtphmnkcfjgallaaW.PrintMore
attribute [local go_sem] max2_int min2_int max_two min_two max_three min_three max_four min_four   -- for this text's walks alone
set_option linter.unusedVariables false
set_option linter.unusedSimpArgs false

/-! ### hand text 01_zbal.lean -/
/-! #### balances, told plainly -/
def selL (a d c : Int) (x : Lin) : Bool := (decide (a = -1) || decide (a = x.f0)) && (decide (d = -1) || decide (d = x.f1)) && (decide (c = -1) || decide (c = x.f2))
def amtL (a d c : Int) : List Lin → Int
  | [] => 0
  | x :: l => (if selL a d c x = true then x.f3 else 0) + amtL a d c l
def basL (a d c : Int) : List Lin → Int
  | [] => 0
  | x :: l => (if selL a d c x = true then x.f4 else 0) + basL a d c l
def amtV (a d c fr tt : Int) : List Ent → Int
  | [] => 0
  | e :: l => (if inB e.f0 fr tt = true then amtL a d c e.f3 else 0) + amtV a d c fr tt l
def basV (a d c fr tt : Int) : List Ent → Int
  | [] => 0
  | e :: l => (if inB e.f0 fr tt = true then basL a d c e.f3 else 0) + basV a d c fr tt l
theorem sel_ifs {β : Type} (a d c : Int) (x : Lin) (Y N : β) :
    (if a = -1 then (if d = -1 then (if c = -1 then Y else if c = x.f2 then Y else N) else (if d = x.f1 then (if c = -1 then Y else if c = x.f2 then Y else N) else N))
      else (if a = x.f0 then (if d = -1 then (if c = -1 then Y else if c = x.f2 then Y else N) else (if d = x.f1 then (if c = -1 then Y else if c = x.f2 then Y else N) else N)) else N)) = if selL a d c x = true then Y else N := by
  unfold selL
  by_cases h1 : a = -1 <;> by_cases h2 : d = -1 <;> by_cases h3 : c = -1 <;> by_cases h4 : a = x.f0 <;> by_cases h5 : d = x.f1 <;> by_cases h6 : c = x.f2 <;> simp only [if_pos, if_neg, h1, h2, h3, h4, h5, h6, decide_true, decide_false, Bool.true_or, Bool.or_true, Bool.false_or, Bool.or_false, Bool.and_true, Bool.true_and, Bool.and_false, Bool.false_and, if_true, if_false, reduceCtorEq, eq_self_iff_true, if_false] <;> first | rfl | simp_all
def lineFine (x : Lin) : Prop := (-100000000000 ≤ x.f3 ∧ x.f3 ≤ 100000000000) ∧ (-100000000000 ≤ x.f4 ∧ x.f4 ≤ 100000000000)
def entFine (e : Ent) : Prop := e.f3.length ≤ 60 ∧ ∀ x ∈ e.f3, lineFine x
theorem amtL_b (a d c : Int) (l : List Lin) (h : ∀ x ∈ l, lineFine x) : -100000000000 * (l.length : Int) ≤ amtL a d c l ∧ amtL a d c l ≤ 100000000000 * (l.length : Int) := by
  induction l with
  | nil => simp [amtL]
  | cons x l ih =>
    have h1 := ih (fun y hy => h y (List.mem_cons_of_mem _ hy))
    have h2 := (h x List.mem_cons_self).1
    simp only [amtL, List.length_cons]
    split <;> (push_cast; omega)
theorem basL_b (a d c : Int) (l : List Lin) (h : ∀ x ∈ l, lineFine x) : -100000000000 * (l.length : Int) ≤ basL a d c l ∧ basL a d c l ≤ 100000000000 * (l.length : Int) := by
  induction l with
  | nil => simp [basL]
  | cons x l ih =>
    have h1 := ih (fun y hy => h y (List.mem_cons_of_mem _ hy))
    have h2 := (h x List.mem_cons_self).2
    simp only [basL, List.length_cons]
    split <;> (push_cast; omega)
theorem basV_b (a d c fr tt : Int) (l : List Ent) (h : ∀ e ∈ l, entFine e) : -6000000000000 * (l.length : Int) ≤ basV a d c fr tt l ∧ basV a d c fr tt l ≤ 6000000000000 * (l.length : Int) := by
  induction l with
  | nil => simp [basV]
  | cons x l ih =>
    have h1 := ih (fun y hy => h y (List.mem_cons_of_mem _ hy))
    have h2 := h x List.mem_cons_self
    have h3 := basL_b a d c x.f3 h2.2
    have h4 := h2.1
    simp only [basV, List.length_cons]
    split <;> (push_cast; omega)
theorem drop_at {α : Type} {l : List α} {z : α} {i : Int} (h0 : 0 ≤ i) (h1 : i < (l.length : Int)) : l.drop i.toNat = l.getD i.toNat z :: l.drop (i + 1).toNat := by
  rw [show (i + 1).toNat = i.toNat + 1 by omega, List.drop_eq_getElem_cons (by omega), List.getD_eq_getElem?_getD, List.getElem?_eq_getElem (by omega)]
  rfl
theorem mem_at {α : Type} {l : List α} {z : α} {i : Int} (h0 : 0 ≤ i) (h1 : i < (l.length : Int)) : l.getD i.toNat z ∈ l := by
  rw [List.getD_eq_getElem?_getD, List.getElem?_eq_getElem (by omega)]
  exact List.getElem_mem _
theorem wrin {p : Int} (h0 : -4611686018427387904 ≤ p) (h1 : p ≤ 4611686018427387904) : wrap64 p = p := by unfold wrap64; omega
def mapN (N : Nat) (g : Nat → Int) : List Int := (List.range N).map g
theorem mapN_len (N : Nat) (g : Nat → Int) : (mapN N g).length = N := by unfold mapN; simp
theorem mapN_rd {N : Nat} {g : Nat → Int} {a : Int} (h0 : 0 ≤ a) (h1 : a < (N : Int)) : rd (mapN N g) a = g a.toNat := by
  unfold rd mapN
  rw [List.getD_eq_getElem?_getD, List.getElem?_map, List.getElem?_range (by omega)]
  rfl
theorem mapN_set {N : Nat} {g : Nat → Int} {a : Nat} {v : Int} : (mapN N g).set a v = mapN N (fun j => if j = a then v else g j) := by
  apply List.ext_getElem?
  intro j
  unfold mapN
  rw [List.getElem?_set]
  by_cases hj : j < N
  · rw [List.getElem?_map, List.getElem?_map, List.getElem?_range hj]
    by_cases e : a = j
    · subst e
      simp [hj]
    · rw [if_neg e]
      simp [Ne.symm e]
  · rw [List.getElem?_eq_none (l := List.map _ _) (by simp; omega)]
    split
    · rename_i e
      subst e
      simp [hj]
    · rw [List.getElem?_eq_none (by simp; omega)]
theorem mapN_congr {N : Nat} {f g : Nat → Int} (h : ∀ a, a < N → f a = g a) : mapN N f = mapN N g := by
  unfold mapN
  exact List.map_congr_left (fun a ha => h a (List.mem_range.1 ha))
theorem mapN_zero (N : Nat) : List.replicate N 0 = mapN N (fun _ => 0) := by
  apply List.ext_getElem?
  intro j
  unfold mapN
  rw [List.getElem?_replicate, List.getElem?_map]
  by_cases hj : j < N
  · rw [List.getElem?_range hj, if_pos hj]; rfl
  · rw [List.getElem?_eq_none (by simp; omega), if_neg hj]; rfl
theorem selL_acc {a : Nat} {d : Int} {x : Lin} (h0 : 0 ≤ x.f0) : selL (a : Int) d (-1) x = (decide (a = x.f0.toNat) && (decide (d = -1) || decide (x.f1 = d))) := by
  unfold selL
  have h1 : ¬ ((a : Int) = -1) := by omega
  have h2 : ((a : Int) = x.f0) = (a = x.f0.toNat) := by apply propext; omega
  have h3 : (d = x.f1) = (x.f1 = d) := propext ⟨Eq.symm, Eq.symm⟩
  simp [h1, h2, h3]
def basesP (N : Nat) (es : List Ent) : Prop := 1 ≤ N ∧ N ≤ 1000 ∧ es.length ≤ 1000 ∧ (∀ e ∈ es, entFine e) ∧ (∀ e ∈ es, ∀ x ∈ e.f3, 0 ≤ x.f0 ∧ x.f0 < (N : Int))


end Go.Proofs.Ytphmnkcfjgallaa.Q
namespace Go.Proofs.Ytphmnkcfjgallaa.Q
open Go.RowKit Go.Proofs.YtphmnkcfjgallaaW.PrintWords Go.Proofs.YtphmnkcfjgallaaW.PrintLast Go.Proofs.YtphmnkcfjgallaaW.PrintMore
attribute [local go_sem] max2_int min2_int max_two min_two max_three min_three max_four min_four   -- for this text's walks alone
set_option linter.unusedVariables false
set_option linter.unusedSimpArgs false

/-! ### hand text g0_bases.lean -/
-- IMPORT Derived.BigRegion
theorem int_seg {W : World} {base g n cap : Nat} {ok : Nat → Prop} {xs : List Int} (h : (Kd.int .i64).R 3 W base ok (.slice (some ⟨g, 0, none⟩) n cap) xs) (i : Int) (h0 : 0 ≤ i) (h1 : i < n) (v : Int) :
    (Kd.int .i64).R 3 (W.setCell ⟨g, i.toNat, none⟩ (.int .i64 v)) base ok (.slice (some ⟨g, 0, none⟩) n cap) (xs.set i.toNat v) := by
  obtain ⟨c, hcl, hM, hcc, _⟩ := Kd.R_elem h 0 i h0 h1
  have := (Kd.R_seg h i h0 h1 (c := c) (seg := [.int .i64 v]) (j := 0) (x' := v) (okp := fun _ => False) hcl hcc (Nat.le_refl _) (by
    have hl : c.length = 1 := hcl
    match c, hl with
    | [u], _ => rfl) (fun _ hk => hk.elim)).1
  rw [show (Kd.int .i64).sz = 1 from rfl, Nat.mul_one, Nat.add_zero] at this
  exact this
theorem int_get {W : World} {base g n cap : Nat} {ok : Nat → Prop} {xs : List Int} (h : (Kd.int .i64).R 3 W base ok (.slice (some ⟨g, 0, none⟩) n cap) xs) (i : Int) (h0 : 0 ≤ i) (h1 : i < n) :
    W.cell? ⟨g, i.toNat, none⟩ = some (.int .i64 (rd xs i)) ∧ W.frozen? ⟨g, i.toNat, none⟩ = false := by
  obtain ⟨c, hcl, hM, hcc, hfr⟩ := Kd.R_elem h 0 i h0 h1
  have e : c = [.int .i64 (xs.getD i.toNat 0)] := hM
  subst e
  have a := hcc 0 _ rfl
  have b := hfr 0
  rw [show (Kd.int .i64).sz = 1 from rfl, Nat.mul_one, Nat.add_zero] at a b
  exact ⟨a, b⟩
set_option maxHeartbeats 16000000 in
set_option maxRecDepth 100000 in
theorem impl_bases.to (N : Nat) (A : Option Addr) (c : Nat) (es : List Ent) (h d fr tt : Int) (w : World) (hr : Kd.C k34 w A es.length es) (q : basesP N es) :
    Calls Try.prog 95 #[.int .i64 N, .agg #[.slice A es.length c, .int .i64 h], .int .i64 d, .int .i64 fr, .int .i64 tt] w fun e w' => ∃ v0_ : Value, e = .returned v0_ ∧ Kd.R (Kd.int .i64) 3 w' w.heap.size (fun _ => True) v0_ (mapN N (fun a => basV a d (-1) fr tt es)) ∧ Below w.heap.size w w' := by
  obtain ⟨q0, q1, q2, q3, q4⟩ := q
  have HR := Aside0.mk hr
  have Q3 := Aside0.mk q3
  have Q4 := Aside0.mk q4
  have hT : ∃ T : Nat → Int, T = fun (a : Nat) => basV (a : Int) d (-1) fr tt es := ⟨_, rfl⟩
  obtain ⟨T, hT⟩ := hT
  rw [← hT]
  have HTT := Aside0.mk hT
  clear hr q3 q4 hT
  go_enter Try.func95, Try.ntmps95
  go_wp2_with ((with_reducible refine gate_dst (N := 17) rfl ?_); refine Kd.R_make (Kd.int .i64) _ 3 rfl (N := 17) rfl 46 _ _ rfl (N : Int) rfl rfl Try.underlying46 (.int .i64 0) 8 info3 rfl (by decide) (by omega) 0 (ok := fun _ => True) (okp := fun _ => True) rfl (fun _ hk => hk) trivial (by omega) (by simp; omega) (Below.refl _ _) (Nat.le_refl _) ?_; intro v1 w1 ho hb hg hnew; have f0 : w1.cell? ⟨w.heap.size, 0, none⟩ = some (.slice A es.length c) := pw_cell_below hb (by go_simp); have HB := Aside0.mk (below_into (w := w) hb (below_alloc (Below.refl _ _) _)); have HO := Aside0.mk (Kd.R_lower ho (base' := w.heap.size) (by simp)); obtain ⟨g, cap, e1, hg0, hg1, _⟩ := Kd.R_form HO.out (by simp; omega); subst e1; clear ho hb hg hnew hg1)
  rw [show (List.replicate ((N : Int)).toNat (0 : Int)) = mapN N (fun _ => 0) from (by rw [Int.toNat_natCast]; exact mapN_zero N)] at HO
  rw [mapN_len] at HO
  go_loopw [21] (fun v wr => ∃ i : Int, 0 ≤ i ∧ i ≤ (es.length : Int) ∧ v = .int .i64 i ∧ Aside0 (Below w.heap.size w wr) ∧ Aside0 (∃ G : Nat → Int, (∀ a, G a + basV (a : Int) d (-1) fr tt (es.drop i.toNat) = T a) ∧ Kd.R (Kd.int .i64) 3 wr w.heap.size (fun _ => True) (.slice (some ⟨g, 0, none⟩) N cap) (mapN N G))) (fun v _ => (es.length - (intOf v).toNat))
  case atStart => exact ⟨0, by omega, by omega, rfl, HB, ⟨fun _ => 0, fun a => by rw [HTT.out]; simp, HO.out⟩⟩
  case round =>
    clear HB HO f0
    obtain ⟨i, hi0, hi1, rfl, HB, HG⟩ := hrel
    by_cases hlt : i < (es.length : Int)
    · obtain ⟨ad, A3, c3, e0, x0, x1, x2, x3, x4, x5⟩ := at_T34 HR.out i hi0 hlt
      cases e0
      replace x0 := pw_cell_below HB.out x0
      replace x1 := pw_cell_below HB.out x1
      replace x2 := pw_cell_below HB.out x2
      replace x3 := pw_cell_below HB.out x3
      have X5 := Aside0.mk x5
      have XL := Aside0.mk x4
      have hl3 : (rd_T34 es i).f3.length ≤ 60 := (all_at (z := z34) (p := entFine) hi0 hlt Q3.out).1
      have HF := Aside0.mk (show ∀ x ∈ (rd_T34 es i).f3, lineFine x from (all_at (z := z34) (p := entFine) hi0 hlt Q3.out).2)
      have HA := Aside0.mk (show ∀ x ∈ (rd_T34 es i).f3, 0 ≤ x.f0 ∧ x.f0 < (N : Int) from all_at (z := z34) (p := fun e => ∀ x ∈ e.f3, 0 ≤ x.f0 ∧ x.f0 < (N : Int)) hi0 hlt Q4.out)
      have HD := Aside0.mk (drop_at (l := es) (z := z34) hi0 hlt)
      clear x5 x4
      generalize hy0 : (rd_T34 es i).f0 = day at *
      generalize hy3 : (rd_T34 es i).f3 = ls at *
      have HY0 := Aside0.mk hy0
      have HY3 := Aside0.mk hy3
      clear hy0 hy3
      have HBX := Aside0.mk (below_alloc HB.out (.cells #[.int .i64 day, .int .i64 (rd_T34 es i).f1, .string (rd_T34 es i).f2, .slice A3 ls.length c3] 34))
      have HSK := Aside0.mk (show inB day fr tt = false → ∀ G : Nat → Int, (∀ a, G a + basV (a : Int) d (-1) fr tt (es.drop i.toNat) = T a) → ∀ a, G a + basV (a : Int) d (-1) fr tt (es.drop (i + 1).toNat) = T a from fun hn G hG a => by
        rw [← hG a, HD.out]
        show _ = G a + ((if inB (rd_T34 es i).f0 fr tt = true then basL a d (-1) (rd_T34 es i).f3 else 0) + basV (a : Int) d (-1) fr tt (es.drop (i + 1).toNat))
        rw [HY0.out, hn]
        simp)
      have HGO := Aside0.mk (show inB day fr tt = true → ∀ G : Nat → Int, (∀ a, G a + basV (a : Int) d (-1) fr tt (es.drop i.toNat) = T a) → ∀ a, G a + basL (a : Int) d (-1) ls + basV (a : Int) d (-1) fr tt (es.drop (i + 1).toNat) = T a from fun hn G hG a => by
        rw [← hG a, HD.out]
        show _ = G a + ((if inB (rd_T34 es i).f0 fr tt = true then basL a d (-1) (rd_T34 es i).f3 else 0) + basV (a : Int) d (-1) fr tt (es.drop (i + 1).toNat))
        rw [HY0.out, hn, HY3.out]
        simp
        omega)
      have HBD := Aside0.mk (show ∀ (G : Nat → Int) (m : List Lin), (∀ x ∈ m, lineFine x) → m.length ≤ 60 → (∀ a, G a + basL (a : Int) d (-1) m + basV (a : Int) d (-1) fr tt (es.drop (i + 1).toNat) = T a) → ∀ a, -100000000000000000 ≤ G a ∧ G a ≤ 100000000000000000 from fun G m hm hml hG a => by
        have t1 := basV_b (a : Int) d (-1) fr tt es Q3.out
        have t2 := basV_b (a : Int) d (-1) fr tt (es.drop (i + 1).toNat) (fun e he => Q3.out e (List.mem_of_mem_drop he))
        have t3 := basL_b (a : Int) d (-1) m hm
        have t4 := hG a
        rw [HTT.out] at t4
        have t5 : (es.drop (i + 1).toNat).length ≤ 1000 := by rw [List.length_drop]; omega
        simp only at t4
        constructor <;> omega)
      by_cases h1 : day < fr
      · have h1b : decide (day < fr) = true := decide_eq_true h1
        go_wp2_with fail
        go_roundw
        case rel =>
          obtain ⟨G, g1, g2⟩ := HG.out
          exact ⟨i + 1, by omega, by omega, rfl, HBX, ⟨G, HSK.out (inB_not (by omega)) G g1, Kd.R_alloc g2 _⟩⟩
        case measure => simp [intOf]; omega
      · have h1b : decide (day < fr) = false := decide_eq_false h1
        by_cases h2 : tt < day
        · have h2b : decide (tt < day) = true := decide_eq_true h2
          go_wp2_with fail
          go_roundw
          case rel =>
            obtain ⟨G, g1, g2⟩ := HG.out
            exact ⟨i + 1, by omega, by omega, rfl, HBX, ⟨G, HSK.out (inB_not (by omega)) G g1, Kd.R_alloc g2 _⟩⟩
          case measure => simp [intOf]; omega
        · have h2b : decide (tt < day) = false := decide_eq_false h2
          obtain ⟨G, g1, g2⟩ := HG.out
          have HG1 := Aside0.mk (HGO.out (inB_of ⟨by omega, by omega⟩) G g1)
          have HR1 := Aside0.mk (Kd.R_alloc g2 (.cells #[.int .i64 day, .int .i64 (rd_T34 es i).f1, .string (rd_T34 es i).f2, .slice A3 ls.length c3] 34))
          clear HG g1 g2 HSK HGO
          go_wp2_with fail
          go_loopw [38] (fun v wq => ∃ j : Int, 0 ≤ j ∧ j ≤ (ls.length : Int) ∧ v = .int .i64 j ∧ Aside0 (Below w.heap.size w wq) ∧ Aside0 (∃ G : Nat → Int, (∀ a, G a + basL (a : Int) d (-1) (ls.drop j.toNat) + basV (a : Int) d (-1) fr tt (es.drop (i + 1).toNat) = T a) ∧ Kd.R (Kd.int .i64) 3 wq w.heap.size (fun _ => True) (.slice (some ⟨g, 0, none⟩) N cap) (mapN N G))) (fun v _ => (ls.length - (intOf v).toNat))
          case atStart => exact ⟨0, by omega, by omega, rfl, HBX, ⟨G, fun a => by simpa using HG1.out a, HR1.out⟩⟩
          case round =>
            clear HB HBX HR1 HG1
            obtain ⟨j, hj0, hj1, rfl, HB, HG⟩ := hrel
            by_cases hlj : j < (ls.length : Int)
            · obtain ⟨ad, e0, y0, y1, y2, y3, y4⟩ := at_T112 (Kd.C_below X5.out HB.out) j hj0 hlj
              cases e0
              have HLF := Aside0.mk (all_at (z := z112) (p := lineFine) hj0 hlj HF.out)
              have HLA := all_at (z := z112) (p := fun x => 0 ≤ x.f0 ∧ x.f0 < (N : Int)) hj0 hlj HA.out
              have z0 : 0 ≤ (rd_T112 ls j).f0 := HLA.1
              have z1 : (rd_T112 ls j).f0 < (N : Int) := HLA.2
              have HLD := Aside0.mk (drop_at (l := ls) (z := z112) hj0 hlj)
              have HPB := Aside0.mk (show -100000000000 ≤ (rd_T112 ls j).f4 ∧ (rd_T112 ls j).f4 ≤ 100000000000 from HLF.out.2)
              obtain ⟨G, g1, g2⟩ := HG.out
              have HGB := Aside0.mk (HBD.out G (ls.drop j.toNat) (fun x hx => HF.out x (List.mem_of_mem_drop hx)) (by rw [List.length_drop]; omega) g1)
              have HSL := Aside0.mk (show ∀ s : Bool, (∀ b : Nat, selL (b : Int) d (-1) (rd_T112 ls j) = (decide (b = (rd_T112 ls j).f0.toNat) && s)) → ∀ a : Nat, (if s = true then (if a = (rd_T112 ls j).f0.toNat then G (rd_T112 ls j).f0.toNat + (rd_T112 ls j).f4 else G a) else G a) + basL (a : Int) d (-1) (ls.drop (j + 1).toNat) + basV (a : Int) d (-1) fr tt (es.drop (i + 1).toNat) = T a from fun s hs a => by
                rw [← g1 a, HLD.out]
                show _ = G a + ((if selL (a : Int) d (-1) (rd_T112 ls j) = true then (rd_T112 ls j).f4 else 0) + basL (a : Int) d (-1) (ls.drop (j + 1).toNat)) + basV (a : Int) d (-1) fr tt (es.drop (i + 1).toNat)
                rw [hs a]
                cases s <;> by_cases e : a = (rd_T112 ls j).f0.toNat <;> simp [e] <;> omega)
              obtain ⟨k0, k1⟩ := int_get g2 _ z0 z1
              rw [mapN_rd z0 z1] at k0
              have HR2 := Aside0.mk g2
              have HSE := Aside0.mk (fun b : Nat => selL_acc (a := b) (d := d) (x := rd_T112 ls j) z0)
              clear HG g1 g2
              have HBX := Aside0.mk (below_alloc HB.out (.cells #[.int .i64 (rd_T112 ls j).f0, .int .i64 (rd_T112 ls j).f1, .int .i64 (rd_T112 ls j).f2, .int .i64 (rd_T112 ls j).f3, .int .i64 (rd_T112 ls j).f4] 112))
              have b0 := (HGB.out (rd_T112 ls j).f0.toNat).1
              have b1 := (HGB.out (rd_T112 ls j).f0.toNat).2
              have b2 := HPB.out.1
              have b3 := HPB.out.2
              generalize hp0 : (rd_T112 ls j).f0 = p0 at *
              generalize hp1 : (rd_T112 ls j).f1 = p1 at *
              generalize hp4 : (rd_T112 ls j).f4 = p4 at *
              generalize hgv : G p0.toNat = gv at *
              have PP := Aside0.mk (And.intro hp0 (And.intro hp1 (And.intro hp4 hgv)))
              clear hp0 hp1 hp4 hgv
              by_cases hd : d = -1
              · have hdb : (d == -1) = true := by rw [hd]; rfl
                have HD1 := Aside0.mk hd
                clear hd
                go_wp2_with fail
                have u0 : (wr.alloc (.cells #[.int .i64 p0, .int .i64 p1, .int .i64 (rd_T112 ls j).f2, .int .i64 (rd_T112 ls j).f3, .int .i64 p4] 112)).cell? ⟨wr.heap.size, 0, none⟩ = some (.int .i64 p0) := by go_simp
                have u4 : (wr.alloc (.cells #[.int .i64 p0, .int .i64 p1, .int .i64 (rd_T112 ls j).f2, .int .i64 (rd_T112 ls j).f3, .int .i64 p4] 112)).cell? ⟨wr.heap.size, 4, none⟩ = some (.int .i64 p4) := by go_simp
                have hbl := below_alloc (Below.refl wr.heap.size wr) (.cells #[.int .i64 p0, .int .i64 p1, .int .i64 (rd_T112 ls j).f2, .int .i64 (rd_T112 ls j).f3, .int .i64 p4] 112)
                replace k0 := pw_cell_below hbl k0
                replace HR2 := Aside0.mk (Kd.R_below HR2.out hbl)
                clear hbl
                replace k1 := (int_get HR2.out _ z0 z1).2
                generalize wr.alloc (.cells #[.int .i64 p0, .int .i64 p1, .int .i64 (rd_T112 ls j).f2, .int .i64 (rd_T112 ls j).f3, .int .i64 p4] 112) = wq at *
                generalize wr.heap.size = gx at *
                go_region
                go_wp2_with fail
                go_roundw
                case rel => exact ⟨j + 1, by omega, by omega, rfl, ⟨pw_below_drewN (below_set HBX.out hg0) 1⟩, ⟨_, by have := HSL.out true (fun b => by rw [HSE.out b]; simp [HD1.out]); simpa using this, by have := int_seg HR2.out _ z0 z1 (gv + p4); rw [mapN_set] at this; exact Kd.R_drew this⟩⟩
                case measure => simp [intOf]; omega
              · have hdb : (d == -1) = false := beq_eq_false_iff_ne.2 hd
                have HD1 := Aside0.mk hd
                clear hd
                by_cases hq : p1 = d
                · have hqb : (p1 == d) = true := by rw [hq]; exact beq_self_eq_true' _
                  have HD2 := Aside0.mk hq
                  clear hq
                  go_wp2_with fail
                  have u0 : (wr.alloc (.cells #[.int .i64 p0, .int .i64 p1, .int .i64 (rd_T112 ls j).f2, .int .i64 (rd_T112 ls j).f3, .int .i64 p4] 112)).cell? ⟨wr.heap.size, 0, none⟩ = some (.int .i64 p0) := by go_simp
                  have u4 : (wr.alloc (.cells #[.int .i64 p0, .int .i64 p1, .int .i64 (rd_T112 ls j).f2, .int .i64 (rd_T112 ls j).f3, .int .i64 p4] 112)).cell? ⟨wr.heap.size, 4, none⟩ = some (.int .i64 p4) := by go_simp
                  have hbl := below_alloc (Below.refl wr.heap.size wr) (.cells #[.int .i64 p0, .int .i64 p1, .int .i64 (rd_T112 ls j).f2, .int .i64 (rd_T112 ls j).f3, .int .i64 p4] 112)
                  replace k0 := pw_cell_below hbl k0
                  replace HR2 := Aside0.mk (Kd.R_below HR2.out hbl)
                  clear hbl
                  replace k1 := (int_get HR2.out _ z0 z1).2
                  generalize wr.alloc (.cells #[.int .i64 p0, .int .i64 p1, .int .i64 (rd_T112 ls j).f2, .int .i64 (rd_T112 ls j).f3, .int .i64 p4] 112) = wq at *
                  generalize wr.heap.size = gx at *
                  go_region
                  go_wp2_with fail
                  go_roundw
                  case rel => exact ⟨j + 1, by omega, by omega, rfl, ⟨pw_below_drewN (below_set HBX.out hg0) 1⟩, ⟨_, by have := HSL.out true (fun b => by rw [HSE.out b]; simp [HD2.out]); simpa using this, by have := int_seg HR2.out _ z0 z1 (gv + p4); rw [mapN_set] at this; exact Kd.R_drew this⟩⟩
                  case measure => simp [intOf]; omega
                · have hqb : (p1 == d) = false := beq_eq_false_iff_ne.2 hq
                  have HD2 := Aside0.mk hq
                  clear hq
                  go_wp2_with fail
                  go_roundw
                  case rel => exact ⟨j + 1, by omega, by omega, rfl, HBX, ⟨G, by have := HSL.out false (fun b => by rw [HSE.out b]; simp [HD1.out, HD2.out]); simpa using this, Kd.R_alloc HR2.out _⟩⟩
                  case measure => simp [intOf]; omega
            · go_wp2_with fail
              go_roundw
              case rel =>
                obtain ⟨G, g1, g2⟩ := HG.out
                exact ⟨i + 1, by omega, by omega, rfl, HB, ⟨G, fun a => by have := g1 a; rw [List.drop_of_length_le (by omega)] at this; simpa [basL] using this, g2⟩⟩
              case measure => simp [intOf]; omega
    · go_wp2_with fail
      go_ret
      obtain ⟨G, g1, g2⟩ := HG.out
      rw [show mapN N G = mapN N T from mapN_congr (fun a _ => by have := g1 a; rw [List.drop_of_length_le (by omega)] at this; simpa [basV] using this)] at g2
      exact ⟨_, rfl, g2, HB.out⟩
open Classical in
noncomputable def impl_bases.f (a0 : Int) (l1_0 : List Ent) (a1_1 : Int) (a2 : Int) (a3 : Int) (a4 : Int) : Option (List Int) := if 0 ≤ a0 ∧ basesP a0.toNat l1_0 then some (mapN a0.toNat (fun a => basV a a2 (-1) a3 a4 l1_0)) else none
theorem impl_bases.calls (a0 : Int) (A1_0 : Option Addr) (c1_0 : Nat) (l1_0 : List Ent) (a1_1 : Int) (a2 : Int) (a3 : Int) (a4 : Int) (r : List Int) (w : World) (hr1_0 : Kd.C k34 w A1_0 l1_0.length l1_0) (hc1_0 : l1_0.length ≤ c1_0) (hf : impl_bases.f a0 l1_0 a1_1 a2 a3 a4 = some r) :
    Calls Try.prog 95 #[.int .i64 a0, .agg #[.slice A1_0 l1_0.length c1_0, .int .i64 a1_1], .int .i64 a2, .int .i64 a3, .int .i64 a4] w fun e w' => ∃ v0_ : Value, e = .returned (v0_) ∧ Kd.R (Kd.int .i64) 3 w' w.heap.size (fun _ => True) v0_ r ∧ Below w.heap.size w w' := by
  unfold impl_bases.f at hf
  split at hf
  · rename_i q
    cases hf
    obtain ⟨n, rfl⟩ := Int.eq_ofNat_of_zero_le q.1
    exact impl_bases.to n A1_0 c1_0 l1_0 a1_1 a2 a3 a4 w hr1_0 q.2
  · cases hf


end Go.Proofs.Ytphmnkcfjgallaa.Q
namespace Go.Proofs.Ytphmnkcfjgallaa.Q
open Go.RowKit Go.Proofs.YtphmnkcfjgallaaW.PrintWords Go.Proofs.YtphmnkcfjgallaaW.PrintLast Go.Proofs.YtphmnkcfjgallaaW.PrintMore
attribute [local go_sem] max2_int min2_int max_two min_two max_three min_three max_four min_four   -- for this text's walks alone
set_option linter.unusedVariables false
set_option linter.unusedSimpArgs false

/-! ### impl_Trial: function 25 -/
noncomputable def impl_Trial.f (l0_0 : List (S131)) (a0_1 : Int) (a0_2 : Int) (l1_0 : List (S34)) (a1_1 : Int) (a2 : Int) : Option (List Int) := (impl_LedgerOk.f l0_0 a0_1 a0_2 l1_0 a1_1).bind fun t198 => (if t198 = true then ((impl_bases.f (l0_0.length : Int) l1_0 a1_1 (-1) (-4611686018427387904) a2).bind fun t199 => (some t199)) else (some ([] : List Int)))
set_option maxHeartbeats 8000000 in
set_option maxRecDepth 100000 in
theorem impl_Trial.calls (A0_0 : Option Addr) (c0_0 : Nat) (l0_0 : List (S131)) (a0_1 : Int) (a0_2 : Int) (A1_0 : Option Addr) (c1_0 : Nat) (l1_0 : List (S34)) (a1_1 : Int) (a2 : Int) (r : List Int) (w : World) (hr0_0 : Kd.C k131 w A0_0 l0_0.length l0_0) (hc0_0 : l0_0.length ≤ c0_0) (hr1_0 : Kd.C k34 w A1_0 l1_0.length l1_0) (hc1_0 : l1_0.length ≤ c1_0) (h : impl_Trial.f l0_0 a0_1 a0_2 l1_0 a1_1 a2 = some r) :
    Calls Try.prog 25 #[.agg #[.slice A0_0 l0_0.length c0_0, .int .i64 a0_1, .int .i64 a0_2], .agg #[.slice A1_0 l1_0.length c1_0, .int .i64 a1_1], .int .i64 a2] w fun e w' => ∃ v0_ : Value, e = .returned (v0_) ∧ Kd.R (Kd.int .i64) 3 w' w.heap.size (fun _ => True) v0_ r ∧ Below w.heap.size w w' := by
  have hu26 := Try.underlying26
  have hu29 := Try.underlying29
  have HR0_0 := Aside0.mk hr0_0
  have HC0_0 := Aside0.mk hc0_0
  clear hr0_0 hc0_0
  have HR1_0 := Aside0.mk hr1_0
  have HC1_0 := Aside0.mk hc1_0
  clear hr1_0 hc1_0
  have HB := Aside0.mk (Below.refl w.heap.size w)
  have H : ((impl_LedgerOk.f l0_0 a0_1 a0_2 l1_0 a1_1).bind fun t198 => (if t198 = true then ((impl_bases.f (l0_0.length : Int) l1_0 a1_1 (-1) (-4611686018427387904) a2).bind fun t199 => (some t199)) else (some ([] : List Int)))) = some r := h
  clear h
  replace H := Option.bind_eq_some_iff.mp H
  obtain ⟨t198, A40, H⟩ := H
  replace H : (if t198 = true then ((impl_bases.f (l0_0.length : Int) l1_0 a1_1 (-1) (-4611686018427387904) a2).bind fun t199 => (some t199)) else (some ([] : List Int))) = some r := H
  have A4 := Aside0.mk A40
  clear A40
  by_cases c5 : t198 = true
  · subst c5
    have H1 : ((impl_bases.f (l0_0.length : Int) l1_0 a1_1 (-1) (-4611686018427387904) a2).bind fun t199 => (some t199)) = some r := by rw [if_pos rfl] at H; exact H
    clear H
    have H := H1
    clear H1
    replace H := Option.bind_eq_some_iff.mp H
    obtain ⟨t199, A60, H⟩ := H
    replace H : (some t199) = some r := H
    have A6 := Aside0.mk A60
    clear A60
    obtain rfl := Option.some.inj H
    go_enter Try.func25, Try.ntmps25
    go_wp2_with (first | ((with_reducible refine gate_dst (N := 3) rfl ?_); refine box_event ?hg (N := 3) ?hd (cs := #[.slice A0_0 l0_0.length c0_0, .int .i64 a0_1, .int .i64 a0_2]) (t := 26) ?hr ?_; (case hd => rfl); (case hg => rfl); (case hr => first | (go_simp; done) | (go_simp; rfl)); intro gb196 hg w7 hbox hb; have n0_ := Aside0.mk (below_step (by repeat (first | (with_reducible first | exact HB.out | apply below_alloc | apply pw_below_drewN | apply below_drew1) | exact HB.out)) hb); have n1_ := Aside0.mk (hbox); have n2_ := Aside0.mk ((by rw [hg]; exact (below_size (by repeat (first | (with_reducible first | exact HB.out | apply below_alloc | apply pw_below_drewN | apply below_drew1) | exact HB.out))) : w.heap.size ≤ gb196)); have n3_ := Aside0.mk ((by rw [hg]; exact (below_size (by repeat (first | (with_reducible first | exact HB.out | apply below_alloc | apply pw_below_drewN | apply below_drew1) | exact HB.out))) : w.heap.size ≤ gb196)); clear HB; have HB := n0_; have BK196 := n1_; have GW196 := n2_; have GE196 := n3_; clear n0_ n1_ n2_ n3_; clear hb hbox hg) | ((with_reducible refine gate_dst (N := 4) rfl ?_); refine box_event ?hg (N := 4) ?hd (cs := #[.slice A1_0 l1_0.length c1_0, .int .i64 a1_1]) (t := 29) ?hr ?_; (case hd => rfl); (case hg => rfl); (case hr => first | (go_simp; done) | (go_simp; rfl)); intro gb197 hg w8 hbox hb; have n0_ := Aside0.mk (blk_below (g := gb196) (o := .cells #[.slice A0_0 l0_0.length c0_0, .int .i64 a0_1, .int .i64 a0_2] 26 (0, 0)) (by (with_reducible repeat (first | refine blk_drewN ?_ _ | refine blk_drew ?_ | refine blk_alloc ?_ _)); exact BK196.out) hb); have n1_ := Aside0.mk (below_step (by repeat (first | (with_reducible first | exact HB.out | apply below_alloc | apply pw_below_drewN | apply below_drew1 | refine below_set ?_ GE196.out) | exact HB.out)) hb); have n2_ := Aside0.mk (hbox); have n3_ := Aside0.mk ((by rw [hg]; exact (below_size (by repeat (first | (with_reducible first | exact HB.out | apply below_alloc | apply pw_below_drewN | apply below_drew1 | refine below_set ?_ GE196.out) | exact HB.out))) : w.heap.size ≤ gb197)); have n4_ := Aside0.mk ((by rw [hg]; exact (below_size (by repeat (first | (with_reducible first | exact HB.out | apply below_alloc | apply pw_below_drewN | apply below_drew1 | refine below_set ?_ GE196.out) | exact HB.out))) : w.heap.size ≤ gb197)); have n5_ := Aside0.mk ((by rw [hg]; exact Nat.ne_of_lt (blk_lt (g := gb196) (o := .cells #[.slice A0_0 l0_0.length c0_0, .int .i64 a0_1, .int .i64 a0_2] 26 (0, 0)) (by (with_reducible repeat (first | refine blk_drewN ?_ _ | refine blk_drew ?_ | refine blk_alloc ?_ _)); exact BK196.out)) : gb196 ≠ gb197)); have n6_ := Aside0.mk ((by rw [hg]; exact Nat.ne_of_gt (blk_lt (g := gb196) (o := .cells #[.slice A0_0 l0_0.length c0_0, .int .i64 a0_1, .int .i64 a0_2] 26 (0, 0)) (by (with_reducible repeat (first | refine blk_drewN ?_ _ | refine blk_drew ?_ | refine blk_alloc ?_ _)); exact BK196.out)) : gb197 ≠ gb196)); clear BK196; clear HB; have BK196 := n0_; have HB := n1_; have BK197 := n2_; have GW197 := n3_; have GE197 := n4_; have NB196_197 := n5_; have NB197_196 := n6_; clear n0_ n1_ n2_ n3_ n4_ n5_ n6_; clear hb hbox hg; have hnb9 := NB196_197.out; have hnc9 := NB197_196.out; have hcz10_0 : w8.cell? ⟨gb196, 0, none⟩ = some (.slice A0_0 l0_0.length c0_0) := (blk_cell BK196.out 0).trans rfl; have hcz10_1 : w8.cell? ⟨gb196, 1, none⟩ = some (.int .i64 a0_1) := (blk_cell BK196.out 1).trans rfl; have hcz10_2 : w8.cell? ⟨gb196, 2, none⟩ = some (.int .i64 a0_2) := (blk_cell BK196.out 2).trans rfl; have hfz10_0 := blk_frozen BK196.out 0; have hfz10_1 := blk_frozen BK196.out 1; have hfz10_2 := blk_frozen BK196.out 2; have hcz11_0 : w8.cell? ⟨gb197, 0, none⟩ = some (.slice A1_0 l1_0.length c1_0) := (blk_cell BK197.out 0).trans rfl; have hcz11_1 : w8.cell? ⟨gb197, 1, none⟩ = some (.int .i64 a1_1) := (blk_cell BK197.out 1).trans rfl; have hfz11_0 := blk_frozen BK197.out 0; have hfz11_1 := blk_frozen BK197.out 1) | ((with_reducible refine gate_callee (f := 22) rfl ?_); refine goesL_ (some 9) rfl rfl Try.func22 (by kernel_rfl) rfl #[.agg #[.slice A0_0 l0_0.length c0_0, .int .i64 a0_1, .int .i64 a0_2], .agg #[.slice A1_0 l1_0.length c1_0, .int .i64 a1_1]] rfl (by (try simp only [List.map_toArray, List.map_cons, List.map_nil]); first | done | rfl | (simp only [List.length_drop, List.length_take]; rfl)) ?_; (with_reducible refine (impl_LedgerOk.calls _ _ l0_0 a0_1 a0_2 _ _ l1_0 a1_1 true _ ?side1 ?side2 ?side3 ?side4 A4.out).mono ?_); (case side1 => repeat (first | exact (Kd.C_below HR0_0.out HB.out) | (with_reducible refine Kd.C_alloc ?_ _) | (with_reducible refine Kd.C_drewN ?_ _) | (with_reducible refine Kd.C_drew ?_))); (case side2 => exact HC0_0.out); (case side3 => repeat (first | exact (Kd.C_below HR1_0.out HB.out) | (with_reducible refine Kd.C_alloc ?_ _) | (with_reducible refine Kd.C_drewN ?_ _) | (with_reducible refine Kd.C_drew ?_))); (case side4 => exact HC1_0.out); rintro e w12 ⟨rfl, hb⟩; refine ⟨_, rfl, ?_⟩; have n0_ := Aside0.mk (blk_below (g := gb196) (o := .cells #[.slice A0_0 l0_0.length c0_0, .int .i64 a0_1, .int .i64 a0_2] 26 (0, 0)) (by (with_reducible repeat (first | refine blk_drewN ?_ _ | refine blk_drew ?_ | refine blk_alloc ?_ _)); exact BK196.out) hb); have n1_ := Aside0.mk (blk_below (g := gb197) (o := .cells #[.slice A1_0 l1_0.length c1_0, .int .i64 a1_1] 29 (0, 0)) (by (with_reducible repeat (first | refine blk_drewN ?_ _ | refine blk_drew ?_ | refine blk_alloc ?_ _)); exact BK197.out) hb); have n2_ := Aside0.mk (below_step (by repeat (first | (with_reducible first | exact HB.out | apply below_alloc | apply pw_below_drewN | apply below_drew1 | refine below_set ?_ GE196.out | refine below_set ?_ GE197.out) | exact HB.out)) hb); clear BK196; clear BK197; clear HB; have BK196 := n0_; have BK197 := n1_; have HB := n2_; clear n0_ n1_ n2_; (try clear hb); (try clear hb2); (try clear hk); (try clear hi); have hcz13_0 : w12.cell? ⟨gb196, 0, none⟩ = some (.slice A0_0 l0_0.length c0_0) := (blk_cell BK196.out 0).trans rfl; have hcz13_1 : w12.cell? ⟨gb196, 1, none⟩ = some (.int .i64 a0_1) := (blk_cell BK196.out 1).trans rfl; have hcz13_2 : w12.cell? ⟨gb196, 2, none⟩ = some (.int .i64 a0_2) := (blk_cell BK196.out 2).trans rfl; have hfz13_0 := blk_frozen BK196.out 0; have hfz13_1 := blk_frozen BK196.out 1; have hfz13_2 := blk_frozen BK196.out 2; have hcz14_0 : w12.cell? ⟨gb197, 0, none⟩ = some (.slice A1_0 l1_0.length c1_0) := (blk_cell BK197.out 0).trans rfl; have hcz14_1 : w12.cell? ⟨gb197, 1, none⟩ = some (.int .i64 a1_1) := (blk_cell BK197.out 1).trans rfl; have hfz14_0 := blk_frozen BK197.out 0; have hfz14_1 := blk_frozen BK197.out 1) | ((with_reducible refine gate_callee (f := 95) rfl ?_); refine goesL_ (some 16) rfl rfl Try.func95 (by kernel_rfl) rfl #[.int .i64 (l0_0.length : Int), .agg #[.slice A1_0 l1_0.length c1_0, .int .i64 a1_1], .int .i64 (-1), .int .i64 (-4611686018427387904), .int .i64 a2] rfl (by (try simp only [List.map_toArray, List.map_cons, List.map_nil]); first | done | rfl | (simp only [List.length_drop, List.length_take]; rfl)) ?_; (with_reducible refine (impl_bases.calls (l0_0.length : Int) _ _ l1_0 a1_1 (-1) (-4611686018427387904) a2 t199 _ ?side1 ?side2 A6.out).mono ?_); (case side1 => repeat (first | exact (Kd.C_below HR1_0.out HB.out) | (with_reducible refine Kd.C_alloc ?_ _) | (with_reducible refine Kd.C_drewN ?_ _) | (with_reducible refine Kd.C_drew ?_))); (case side2 => exact HC1_0.out); rintro e w15 ⟨v200, rfl, ho0, hb⟩; refine ⟨_, rfl, ?_⟩; have n0_ := Aside0.mk (Kd.R_lower ho0 (below_size (by repeat (first | (with_reducible first | exact HB.out | apply below_alloc | apply pw_below_drewN | apply below_drew1 | refine below_set ?_ GE196.out | refine below_set ?_ GE197.out) | exact HB.out)))); have n1_ := Aside0.mk (blk_below (g := gb196) (o := .cells #[.slice A0_0 l0_0.length c0_0, .int .i64 a0_1, .int .i64 a0_2] 26 (0, 0)) (by (with_reducible repeat (first | refine blk_drewN ?_ _ | refine blk_drew ?_ | refine blk_alloc ?_ _)); exact BK196.out) hb); have n2_ := Aside0.mk (blk_below (g := gb197) (o := .cells #[.slice A1_0 l1_0.length c1_0, .int .i64 a1_1] 29 (0, 0)) (by (with_reducible repeat (first | refine blk_drewN ?_ _ | refine blk_drew ?_ | refine blk_alloc ?_ _)); exact BK197.out) hb); have n3_ := Aside0.mk (below_step (by repeat (first | (with_reducible first | exact HB.out | apply below_alloc | apply pw_below_drewN | apply below_drew1 | refine below_set ?_ GE196.out | refine below_set ?_ GE197.out) | exact HB.out)) hb); clear BK196; clear BK197; clear HB; have HO201 := n0_; have BK196 := n1_; have BK197 := n2_; have HB := n3_; clear n0_ n1_ n2_ n3_; (try clear hb); (try clear hb2); (try clear hk); (try clear hi); (try clear ho0)))
    go_ret
    exact ⟨_, by first | rfl | (simp [errW_none, errW_some] <;> rfl) | (simp [*, errW_none, errW_some] <;> rfl), by (with_reducible repeat (first | apply Kd.R_alloc | apply Kd.R_drewN | apply Kd.R_drew)); exact HO201.out, by repeat (first | (with_reducible first | exact HB.out | apply below_alloc | apply pw_below_drewN | apply below_drew1 | refine below_set ?_ GE196.out | refine below_set ?_ GE197.out) | exact HB.out)⟩
  · replace c5 := Bool.eq_false_iff.mpr c5
    subst c5
    have H1 : (some ([] : List Int)) = some r := by rw [if_neg (show ¬ (false = true) by decide)] at H; exact H
    clear H
    have H := H1
    clear H1
    obtain rfl := Option.some.inj H
    go_enter Try.func25, Try.ntmps25
    go_wp2_with (first | ((with_reducible refine gate_dst (N := 3) rfl ?_); refine box_event ?hg (N := 3) ?hd (cs := #[.slice A0_0 l0_0.length c0_0, .int .i64 a0_1, .int .i64 a0_2]) (t := 26) ?hr ?_; (case hd => rfl); (case hg => rfl); (case hr => first | (go_simp; done) | (go_simp; rfl)); intro gb196 hg w16 hbox hb; have n0_ := Aside0.mk (below_step (by repeat (first | (with_reducible first | exact HB.out | apply below_alloc | apply pw_below_drewN | apply below_drew1) | exact HB.out)) hb); have n1_ := Aside0.mk (hbox); have n2_ := Aside0.mk ((by rw [hg]; exact (below_size (by repeat (first | (with_reducible first | exact HB.out | apply below_alloc | apply pw_below_drewN | apply below_drew1) | exact HB.out))) : w.heap.size ≤ gb196)); have n3_ := Aside0.mk ((by rw [hg]; exact (below_size (by repeat (first | (with_reducible first | exact HB.out | apply below_alloc | apply pw_below_drewN | apply below_drew1) | exact HB.out))) : w.heap.size ≤ gb196)); clear HB; have HB := n0_; have BK196 := n1_; have GW196 := n2_; have GE196 := n3_; clear n0_ n1_ n2_ n3_; clear hb hbox hg) | ((with_reducible refine gate_dst (N := 4) rfl ?_); refine box_event ?hg (N := 4) ?hd (cs := #[.slice A1_0 l1_0.length c1_0, .int .i64 a1_1]) (t := 29) ?hr ?_; (case hd => rfl); (case hg => rfl); (case hr => first | (go_simp; done) | (go_simp; rfl)); intro gb197 hg w17 hbox hb; have n0_ := Aside0.mk (blk_below (g := gb196) (o := .cells #[.slice A0_0 l0_0.length c0_0, .int .i64 a0_1, .int .i64 a0_2] 26 (0, 0)) (by (with_reducible repeat (first | refine blk_drewN ?_ _ | refine blk_drew ?_ | refine blk_alloc ?_ _)); exact BK196.out) hb); have n1_ := Aside0.mk (below_step (by repeat (first | (with_reducible first | exact HB.out | apply below_alloc | apply pw_below_drewN | apply below_drew1 | refine below_set ?_ GE196.out) | exact HB.out)) hb); have n2_ := Aside0.mk (hbox); have n3_ := Aside0.mk ((by rw [hg]; exact (below_size (by repeat (first | (with_reducible first | exact HB.out | apply below_alloc | apply pw_below_drewN | apply below_drew1 | refine below_set ?_ GE196.out) | exact HB.out))) : w.heap.size ≤ gb197)); have n4_ := Aside0.mk ((by rw [hg]; exact (below_size (by repeat (first | (with_reducible first | exact HB.out | apply below_alloc | apply pw_below_drewN | apply below_drew1 | refine below_set ?_ GE196.out) | exact HB.out))) : w.heap.size ≤ gb197)); have n5_ := Aside0.mk ((by rw [hg]; exact Nat.ne_of_lt (blk_lt (g := gb196) (o := .cells #[.slice A0_0 l0_0.length c0_0, .int .i64 a0_1, .int .i64 a0_2] 26 (0, 0)) (by (with_reducible repeat (first | refine blk_drewN ?_ _ | refine blk_drew ?_ | refine blk_alloc ?_ _)); exact BK196.out)) : gb196 ≠ gb197)); have n6_ := Aside0.mk ((by rw [hg]; exact Nat.ne_of_gt (blk_lt (g := gb196) (o := .cells #[.slice A0_0 l0_0.length c0_0, .int .i64 a0_1, .int .i64 a0_2] 26 (0, 0)) (by (with_reducible repeat (first | refine blk_drewN ?_ _ | refine blk_drew ?_ | refine blk_alloc ?_ _)); exact BK196.out)) : gb197 ≠ gb196)); clear BK196; clear HB; have BK196 := n0_; have HB := n1_; have BK197 := n2_; have GW197 := n3_; have GE197 := n4_; have NB196_197 := n5_; have NB197_196 := n6_; clear n0_ n1_ n2_ n3_ n4_ n5_ n6_; clear hb hbox hg; have hnb18 := NB196_197.out; have hnc18 := NB197_196.out; have hcz19_0 : w17.cell? ⟨gb196, 0, none⟩ = some (.slice A0_0 l0_0.length c0_0) := (blk_cell BK196.out 0).trans rfl; have hcz19_1 : w17.cell? ⟨gb196, 1, none⟩ = some (.int .i64 a0_1) := (blk_cell BK196.out 1).trans rfl; have hcz19_2 : w17.cell? ⟨gb196, 2, none⟩ = some (.int .i64 a0_2) := (blk_cell BK196.out 2).trans rfl; have hfz19_0 := blk_frozen BK196.out 0; have hfz19_1 := blk_frozen BK196.out 1; have hfz19_2 := blk_frozen BK196.out 2; have hcz20_0 : w17.cell? ⟨gb197, 0, none⟩ = some (.slice A1_0 l1_0.length c1_0) := (blk_cell BK197.out 0).trans rfl; have hcz20_1 : w17.cell? ⟨gb197, 1, none⟩ = some (.int .i64 a1_1) := (blk_cell BK197.out 1).trans rfl; have hfz20_0 := blk_frozen BK197.out 0; have hfz20_1 := blk_frozen BK197.out 1) | ((with_reducible refine gate_callee (f := 22) rfl ?_); refine goesL_ (some 9) rfl rfl Try.func22 (by kernel_rfl) rfl #[.agg #[.slice A0_0 l0_0.length c0_0, .int .i64 a0_1, .int .i64 a0_2], .agg #[.slice A1_0 l1_0.length c1_0, .int .i64 a1_1]] rfl (by (try simp only [List.map_toArray, List.map_cons, List.map_nil]); first | done | rfl | (simp only [List.length_drop, List.length_take]; rfl)) ?_; (with_reducible refine (impl_LedgerOk.calls _ _ l0_0 a0_1 a0_2 _ _ l1_0 a1_1 false _ ?side1 ?side2 ?side3 ?side4 A4.out).mono ?_); (case side1 => repeat (first | exact (Kd.C_below HR0_0.out HB.out) | (with_reducible refine Kd.C_alloc ?_ _) | (with_reducible refine Kd.C_drewN ?_ _) | (with_reducible refine Kd.C_drew ?_))); (case side2 => exact HC0_0.out); (case side3 => repeat (first | exact (Kd.C_below HR1_0.out HB.out) | (with_reducible refine Kd.C_alloc ?_ _) | (with_reducible refine Kd.C_drewN ?_ _) | (with_reducible refine Kd.C_drew ?_))); (case side4 => exact HC1_0.out); rintro e w21 ⟨rfl, hb⟩; refine ⟨_, rfl, ?_⟩; have n0_ := Aside0.mk (blk_below (g := gb196) (o := .cells #[.slice A0_0 l0_0.length c0_0, .int .i64 a0_1, .int .i64 a0_2] 26 (0, 0)) (by (with_reducible repeat (first | refine blk_drewN ?_ _ | refine blk_drew ?_ | refine blk_alloc ?_ _)); exact BK196.out) hb); have n1_ := Aside0.mk (blk_below (g := gb197) (o := .cells #[.slice A1_0 l1_0.length c1_0, .int .i64 a1_1] 29 (0, 0)) (by (with_reducible repeat (first | refine blk_drewN ?_ _ | refine blk_drew ?_ | refine blk_alloc ?_ _)); exact BK197.out) hb); have n2_ := Aside0.mk (below_step (by repeat (first | (with_reducible first | exact HB.out | apply below_alloc | apply pw_below_drewN | apply below_drew1 | refine below_set ?_ GE196.out | refine below_set ?_ GE197.out) | exact HB.out)) hb); clear BK196; clear BK197; clear HB; have BK196 := n0_; have BK197 := n1_; have HB := n2_; clear n0_ n1_ n2_; (try clear hb); (try clear hb2); (try clear hk); (try clear hi)))
    go_ret
    exact ⟨_, by first | rfl | (simp [errW_none, errW_some] <;> rfl) | (simp [*, errW_none, errW_some] <;> rfl), by first | exact Kd.R_nil _ _ _ _ _ | exact Kd.N_nil _ _ _ _ _ | exact Kd.V_nil _ _ _ _ _ | exact Kd.Q_nil _ _ _ _ _ | exact Kd.S_nil _ _ _ _ _, by repeat (first | (with_reducible first | exact HB.out | apply below_alloc | apply pw_below_drewN | apply below_drew1 | refine below_set ?_ GE196.out | refine below_set ?_ GE197.out) | exact HB.out)⟩

end Go.Proofs.Ytphmnkcfjgallaa.Q
namespace Go.Proofs.Ytphmnkcfjgallaa.Q
open Go.RowKit Go.Proofs.YtphmnkcfjgallaaW.PrintWords Go.Proofs.YtphmnkcfjgallaaW.PrintLast Go.Proofs.YtphmnkcfjgallaaW.PrintMore
attribute [local go_sem] max2_int min2_int max_two min_two max_three min_three max_four min_four   -- for this text's walks alone
set_option linter.unusedVariables false
set_option linter.unusedSimpArgs false

/-! ### hand text g1_balance.lean -/
theorem ret_ii {a b a' b' : Int} (h : a = a') (h' : b = b') : Ending.returned (Value.tuple #[Value.int .i64 a, Value.int .i64 b]) = Ending.returned (Value.tuple #[Value.int .i64 a', Value.int .i64 b']) := by rw [h, h']
theorem amtV_b (a d c fr tt : Int) (l : List Ent) (h : ∀ e ∈ l, entFine e) : -6000000000000 * (l.length : Int) ≤ amtV a d c fr tt l ∧ amtV a d c fr tt l ≤ 6000000000000 * (l.length : Int) := by
  induction l with
  | nil => simp [amtV]
  | cons x l ih =>
    have h1 := ih (fun y hy => h y (List.mem_cons_of_mem _ hy))
    have h2 := h x List.mem_cons_self
    have h3 := amtL_b a d c x.f3 h2.2
    have h4 := h2.1
    simp only [amtV, List.length_cons]
    split <;> (push_cast; omega)
set_option maxHeartbeats 32000000 in
set_option maxRecDepth 100000 in
theorem spec_Balance.to (A : Option Addr) (cc : Nat) (es : List Ent) (h a d c fr tt : Int) (w : World) (hr : Kd.C k34 w A es.length es) (hn : es.length ≤ 1000) (hf : ∀ e ∈ es, entFine e) :
    Calls Try.prog 115 #[.agg #[.slice A es.length cc, .int .i64 h], .int .i64 a, .int .i64 d, .int .i64 c, .int .i64 fr, .int .i64 tt] w fun e w' => e = .returned (.tuple #[.int .i64 (amtV a d c fr tt es), .int .i64 (basV a d c fr tt es)]) ∧ Below w.heap.size w w' := by
  have HR := Aside0.mk hr
  have HF := Aside0.mk hf
  obtain ⟨PT, hPT⟩ : ∃ t, t = amtV a d c fr tt es := ⟨_, rfl⟩
  obtain ⟨QT, hQT⟩ : ∃ t, t = basV a d c fr tt es := ⟨_, rfl⟩
  rw [← hPT, ← hQT]
  have HB := Aside0.mk (below_alloc (Below.refl w.heap.size w) (.cells #[.slice A es.length cc, .int .i64 h] 29))
  have HPQ := Aside0.mk (And.intro hPT hQT)
  have BPT := amtV_b a d c fr tt es hf
  have BQT := basV_b a d c fr tt es hf
  rw [← hPT] at BPT
  rw [← hQT] at BQT
  clear hr hf hPT hQT
  go_enter Try.func115, Try.ntmps115
  go_wp2_with fail
  go_loopw [16, 14, 15] (fun v vp vq wr => ∃ i p q : Int, 0 ≤ i ∧ i ≤ (es.length : Int) ∧ v = .int .i64 i ∧ vp = .int .i64 p ∧ vq = .int .i64 q ∧ Aside0 (Below w.heap.size w wr) ∧ Aside0 (p + amtV a d c fr tt (es.drop i.toNat) = PT ∧ q + basV a d c fr tt (es.drop i.toNat) = QT) ∧ Aside0 (wr.cell? ⟨w.heap.size, 0, none⟩ = some (.slice A es.length cc))) (fun v _ _ _ => (es.length - (intOf v).toNat))
  case atStart => exact ⟨0, 0, 0, by omega, by omega, rfl, rfl, rfl, HB, ⟨by rw [HPQ.out.1, HPQ.out.2]; simp⟩, ⟨by go_simp⟩⟩
  case round =>
    clear HB
    obtain ⟨i, p, q, hi0, hi1, rfl, rfl, rfl, HB, HI, HF0⟩ := hrel
    have f0 := HF0.out
    have zz := World.block_lt_of_cell? _ _ f0
    by_cases hlt : i < (es.length : Int)
    case neg =>
      go_wp2_with fail
      go_ret2
      exact ⟨ret_ii (by have := HI.out.1; rw [List.drop_of_length_le (by omega)] at this; simpa [amtV] using this) (by have := HI.out.2; rw [List.drop_of_length_le (by omega)] at this; simpa [basV] using this), HB.out⟩
    obtain ⟨ad, A3, c3, e0, x0, x1, x2, x3, x4, x5⟩ := at_T34 HR.out i hi0 hlt
    cases e0
    replace x0 := pw_cell_below HB.out x0
    replace x1 := pw_cell_below HB.out x1
    replace x2 := pw_cell_below HB.out x2
    replace x3 := pw_cell_below HB.out x3
    have X5 := Aside0.mk x5
    have hfe : entFine (rd_T34 es i) := all_at (z := z34) (p := entFine) hi0 hlt HF.out
    have hl3 : (rd_T34 es i).f3.length ≤ 60 := hfe.1
    have HLF := Aside0.mk (show ∀ x ∈ (rd_T34 es i).f3, lineFine x from hfe.2)
    have HD := Aside0.mk (drop_at (l := es) (z := z34) hi0 hlt)
    have HFD := Aside0.mk (show ∀ e ∈ es.drop (i + 1).toNat, entFine e from fun e he => HF.out e (List.mem_of_mem_drop he))
    have hdl : (es.drop (i + 1).toNat).length ≤ 1000 := by rw [List.length_drop]; omega
    have BP := Aside0.mk (And.intro (amtV_b a d c fr tt (es.drop (i + 1).toNat) HFD.out) (basV_b a d c fr tt (es.drop (i + 1).toNat) HFD.out))
    have HE := Aside0.mk (show amtV a d c fr tt (es.drop i.toNat) = (if inB (rd_T34 es i).f0 fr tt = true then amtL a d c (rd_T34 es i).f3 else 0) + amtV a d c fr tt (es.drop (i + 1).toNat) ∧ basV a d c fr tt (es.drop i.toNat) = (if inB (rd_T34 es i).f0 fr tt = true then basL a d c (rd_T34 es i).f3 else 0) + basV a d c fr tt (es.drop (i + 1).toNat) from by rw [HD.out]; exact ⟨rfl, rfl⟩)
    clear x4 x5 hfe
    generalize (rd_T34 es i).f0 = day at *
    generalize (rd_T34 es i).f3 = ls at *
    have hb := below_alloc (Below.refl wr.heap.size wr) (.cells #[.int .i64 day, .int .i64 (rd_T34 es i).f1, .string (rd_T34 es i).f2, .slice A3 ls.length c3] 34)
    have HBX := Aside0.mk (below_into (w := w) hb HB.out)
    have y0 : (wr.alloc (.cells #[.int .i64 day, .int .i64 (rd_T34 es i).f1, .string (rd_T34 es i).f2, .slice A3 ls.length c3] 34)).cell? ⟨wr.heap.size, 0, none⟩ = some (.int .i64 day) := by go_simp
    have y3 : (wr.alloc (.cells #[.int .i64 day, .int .i64 (rd_T34 es i).f1, .string (rd_T34 es i).f2, .slice A3 ls.length c3] 34)).cell? ⟨wr.heap.size, 3, none⟩ = some (.slice A3 ls.length c3) := by go_simp
    have F0 := Aside0.mk (pw_cell_below hb f0)
    have Y0 := Aside0.mk y0
    have Y3 := Aside0.mk y3
    clear hb y0 y3
    go_wp2_with fail
    go_loopw [18, 14, 15] (fun v vp vq wq => ∃ j p q : Int, 0 ≤ j ∧ j ≤ (ls.length : Int) ∧ v = .int .i64 j ∧ vp = .int .i64 p ∧ vq = .int .i64 q ∧ Aside0 (Below w.heap.size w wq) ∧ Aside0 (p + (if inB day fr tt = true then amtL a d c (ls.drop j.toNat) else 0) + amtV a d c fr tt (es.drop (i + 1).toNat) = PT ∧ q + (if inB day fr tt = true then basL a d c (ls.drop j.toNat) else 0) + basV a d c fr tt (es.drop (i + 1).toNat) = QT) ∧ Aside0 (wq.cell? ⟨w.heap.size, 0, none⟩ = some (.slice (some ad) es.length cc) ∧ wq.cell? ⟨wr.heap.size, 0, none⟩ = some (.int .i64 day) ∧ wq.cell? ⟨wr.heap.size, 3, none⟩ = some (.slice A3 ls.length c3))) (fun v _ _ _ => (ls.length - (intOf v).toNat))
    case atStart => exact ⟨0, p, q, by omega, by omega, rfl, rfl, rfl, HBX, ⟨by have h1 := HI.out.1; have h2 := HI.out.2; rw [HE.out.1] at h1; rw [HE.out.2] at h2; simp only [show (0 : Int).toNat = 0 from rfl, List.drop_zero]; exact ⟨by omega, by omega⟩⟩, ⟨F0.out, Y0.out, Y3.out⟩⟩
    case round =>
      clear HB HBX F0 Y0 Y3 f0 x0 x1 x2 x3 zz HI HF0
      obtain ⟨j, p, q, hj0, hj1, rfl, rfl, rfl, HB, HI, HC⟩ := hrel
      have f0 := HC.out.1
      have y0 := HC.out.2.1
      have y3 := HC.out.2.2
      have zz := World.block_lt_of_cell? _ _ f0
      have zy := World.block_lt_of_cell? _ _ y0
      by_cases hlj : j < (ls.length : Int)
      case neg =>
        go_wp2_with fail
        go_roundw
        case rel => exact ⟨i + 1, p, q, by omega, by omega, rfl, rfl, rfl, HB, ⟨by have h1 := HI.out.1; have h2 := HI.out.2; rw [List.drop_of_length_le (by omega)] at h1 h2; simp [amtL, basL] at h1 h2; exact ⟨by omega, by omega⟩⟩, ⟨HC.out.1⟩⟩
        case measure => simp [intOf]; omega
      obtain ⟨ae, e0, u0, u1, u2, u3, u4⟩ := at_T112 (Kd.C_below X5.out HB.out) j hj0 hlj
      cases e0
      have hfl : lineFine (rd_T112 ls j) := all_at (z := z112) (p := lineFine) hj0 hlj HLF.out
      have HLD := Aside0.mk (drop_at (l := ls) (z := z112) hj0 hlj)
      have HLE := Aside0.mk (show amtL a d c (ls.drop j.toNat) = (if selL a d c (rd_T112 ls j) = true then (rd_T112 ls j).f3 else 0) + amtL a d c (ls.drop (j + 1).toNat) ∧ basL a d c (ls.drop j.toNat) = (if selL a d c (rd_T112 ls j) = true then (rd_T112 ls j).f4 else 0) + basL a d c (ls.drop (j + 1).toNat) from by rw [HLD.out]; exact ⟨rfl, rfl⟩)
      have HLL := Aside0.mk (show ∀ x ∈ ls.drop j.toNat, lineFine x from fun x hx => HLF.out x (List.mem_of_mem_drop hx))
      have hll : (ls.drop j.toNat).length ≤ 60 := by rw [List.length_drop]; omega
      have hpb : (-100000000000000000 ≤ p ∧ p ≤ 100000000000000000) ∧ (-100000000000000000 ≤ q ∧ q ≤ 100000000000000000) := by
        have t1 := amtL_b a d c _ HLL.out
        have t2 := basL_b a d c _ HLL.out
        have t3 := BP.out.1
        have t4 := BP.out.2
        have t5 := HI.out.1
        have t6 := HI.out.2
        refine ⟨⟨?_, ?_⟩, ⟨?_, ?_⟩⟩ <;> (split at t5 <;> omega)
      obtain ⟨⟨pb0, pb1⟩, ⟨qb0, qb1⟩⟩ := hpb
      have ca : inB (rd_T112 ls j).f3 (-100000000000) 100000000000 = true := inB_of hfl.1
      have cb : inB (rd_T112 ls j).f4 (-100000000000) 100000000000 = true := inB_of hfl.2
      have CA := Aside0.mk (fun W => (ca ▸ spec_l1Amount.to (rd_T112 ls j).f3 W : Calls Try.prog 142 #[.int .i64 (rd_T112 ls j).f3] W fun e w' => e = .returned (.bool true) ∧ w' = W))
      have CB := Aside0.mk (fun W => (cb ▸ spec_l1Amount.to (rd_T112 ls j).f4 W : Calls Try.prog 142 #[.int .i64 (rd_T112 ls j).f4] W fun e w' => e = .returned (.bool true) ∧ w' = W))
      obtain ⟨⟨b0, b1⟩, ⟨b2, b3⟩⟩ := hfl
      have HSEL := Aside0.mk (show selL a d c (rd_T112 ls j) = ((decide (a = -1) || decide (a = (rd_T112 ls j).f0)) && (decide (d = -1) || decide (d = (rd_T112 ls j).f1)) && (decide (c = -1) || decide (c = (rd_T112 ls j).f2))) from rfl)
      have o := below_alloc HB.out (.cells #[.int .i64 (rd_T112 ls j).f0, .int .i64 (rd_T112 ls j).f1, .int .i64 (rd_T112 ls j).f2, .int .i64 (rd_T112 ls j).f3, .int .i64 (rd_T112 ls j).f4] 112)
      have hb := below_alloc (Below.refl wr.heap.size wr) (.cells #[.int .i64 (rd_T112 ls j).f0, .int .i64 (rd_T112 ls j).f1, .int .i64 (rd_T112 ls j).f2, .int .i64 (rd_T112 ls j).f3, .int .i64 (rd_T112 ls j).f4] 112)
      have HCX := Aside0.mk (And.intro (pw_cell_below hb f0) (And.intro (pw_cell_below hb y0) (pw_cell_below hb y3)))
      have HBX := Aside0.mk o
      generalize (rd_T112 ls j).f0 = g0 at *
      generalize (rd_T112 ls j).f1 = g1 at *
      generalize (rd_T112 ls j).f2 = g2 at *
      generalize (rd_T112 ls j).f3 = g3 at *
      generalize (rd_T112 ls j).f4 = g4 at *
      generalize selL a d c (rd_T112 ls j) = sl at *
      clear o hb ca cb HC
      have HNO := Aside0.mk (show inB day fr tt = false ∨ sl = false → p + (if inB day fr tt = true then amtL a d c (ls.drop (j + 1).toNat) else 0) + amtV a d c fr tt (es.drop (i + 1).toNat) = PT ∧ q + (if inB day fr tt = true then basL a d c (ls.drop (j + 1).toNat) else 0) + basV a d c fr tt (es.drop (i + 1).toNat) = QT from fun hq => by
        have t5 := HI.out.1
        have t6 := HI.out.2
        rw [HLE.out.1] at t5
        rw [HLE.out.2] at t6
        rcases hq with hq | hq
        · rw [hq] at t5 t6 ⊢
          simp at t5 t6 ⊢
          exact ⟨t5, t6⟩
        · rw [hq] at t5 t6
          simp at t5 t6 ⊢
          exact ⟨t5, t6⟩)
      have HYE := Aside0.mk (show inB day fr tt = true → sl = true → (p + g3) + (if inB day fr tt = true then amtL a d c (ls.drop (j + 1).toNat) else 0) + amtV a d c fr tt (es.drop (i + 1).toNat) = PT ∧ (q + g4) + (if inB day fr tt = true then basL a d c (ls.drop (j + 1).toNat) else 0) + basV a d c fr tt (es.drop (i + 1).toNat) = QT from fun hd hq => by
        have t5 := HI.out.1
        have t6 := HI.out.2
        rw [HLE.out.1, hd, hq] at t5
        rw [HLE.out.2, hd, hq] at t6
        rw [hd]
        simp at t5 t6 ⊢
        exact ⟨by omega, by omega⟩)
      clear HI HLE HLD HLL
      have CD := Aside0.mk (fun W => (spec_l1In.to day fr tt W))
      cases hd : inB day fr tt with
      | false =>
        have QD := Aside0.mk hd
        clear hd
        go_wp2_with fail
        refine (CA.out _).mono ?_
        rintro x w' ⟨rfl, rfl⟩
        go_wp2_with fail
        refine (CB.out _).mono ?_
        rintro x w' ⟨rfl, rfl⟩
        go_wp2_with fail
        refine (CD.out _).mono ?_
        rintro x w' ⟨rfl, rfl⟩
        rw [QD.out]
        go_wp2_with fail
        go_roundw
        case rel => exact ⟨j + 1, p, q, by omega, by omega, rfl, rfl, rfl, HBX, ⟨by have hh := HNO.out (.inl QD.out); rw [QD.out] at hh; simpa using hh⟩, HCX⟩
        case measure => simp [intOf]; omega
      | true =>
        have QD := Aside0.mk hd
        clear hd
        by_cases m0 : a = -1
        · have K0 := Aside0.mk m0
          have k0b : (a == -1) = true := by rw [m0]; rfl
          clear m0
          by_cases m1 : d = -1
          · have K1 := Aside0.mk m1
            have k1b : (d == -1) = true := by rw [m1]; rfl
            clear m1
            by_cases m2 : c = -1
            · have K2 := Aside0.mk m2
              have k2b : (c == -1) = true := by rw [m2]; rfl
              clear m2
              go_wp2_with fail
              refine (CA.out _).mono ?_
              rintro x w' ⟨rfl, rfl⟩
              go_wp2_with fail
              refine (CB.out _).mono ?_
              rintro x w' ⟨rfl, rfl⟩
              go_wp2_with fail
              refine (CD.out _).mono ?_
              rintro x w' ⟨rfl, rfl⟩
              rw [QD.out]
              go_wp2_with fail
              go_roundw
              case rel => exact ⟨j + 1, p + g3, q + g4, by omega, by omega, rfl, rfl, rfl, HBX, ⟨by have hh := HYE.out QD.out (by rw [HSEL.out]; simp [K0.out, K1.out, K2.out]); rw [QD.out] at hh; simpa using hh⟩, HCX⟩
              case measure => simp [intOf]; omega
            · have k2b : (c == -1) = false := beq_eq_false_iff_ne.2 m2
              by_cases mm2 : c = g2
              · have K2 := Aside0.mk mm2
                have k2c : (c == g2) = true := by rw [mm2]; exact beq_self_eq_true' _
                clear mm2 m2
                go_wp2_with fail
                refine (CA.out _).mono ?_
                rintro x w' ⟨rfl, rfl⟩
                go_wp2_with fail
                refine (CB.out _).mono ?_
                rintro x w' ⟨rfl, rfl⟩
                go_wp2_with fail
                refine (CD.out _).mono ?_
                rintro x w' ⟨rfl, rfl⟩
                rw [QD.out]
                go_wp2_with fail
                go_roundw
                case rel => exact ⟨j + 1, p + g3, q + g4, by omega, by omega, rfl, rfl, rfl, HBX, ⟨by have hh := HYE.out QD.out (by rw [HSEL.out]; simp [K0.out, K1.out, K2.out]); rw [QD.out] at hh; simpa using hh⟩, HCX⟩
                case measure => simp [intOf]; omega
              · have K2 := Aside0.mk mm2
                have KK2 := Aside0.mk m2
                have k2c : (c == g2) = false := beq_eq_false_iff_ne.2 mm2
                clear mm2 m2
                go_wp2_with fail
                refine (CA.out _).mono ?_
                rintro x w' ⟨rfl, rfl⟩
                go_wp2_with fail
                refine (CB.out _).mono ?_
                rintro x w' ⟨rfl, rfl⟩
                go_wp2_with fail
                refine (CD.out _).mono ?_
                rintro x w' ⟨rfl, rfl⟩
                rw [QD.out]
                go_wp2_with fail
                go_roundw
                case rel => exact ⟨j + 1, p, q, by omega, by omega, rfl, rfl, rfl, HBX, ⟨by have hh := HNO.out (.inr (by rw [HSEL.out]; simp [K2.out, KK2.out])); rw [QD.out] at hh; simpa using hh⟩, HCX⟩
                case measure => simp [intOf]; omega
          · have k1b : (d == -1) = false := beq_eq_false_iff_ne.2 m1
            by_cases mm1 : d = g1
            · have K1 := Aside0.mk mm1
              have k1c : (d == g1) = true := by rw [mm1]; exact beq_self_eq_true' _
              clear mm1 m1
              by_cases m2 : c = -1
              · have K2 := Aside0.mk m2
                have k2b : (c == -1) = true := by rw [m2]; rfl
                clear m2
                go_wp2_with fail
                refine (CA.out _).mono ?_
                rintro x w' ⟨rfl, rfl⟩
                go_wp2_with fail
                refine (CB.out _).mono ?_
                rintro x w' ⟨rfl, rfl⟩
                go_wp2_with fail
                refine (CD.out _).mono ?_
                rintro x w' ⟨rfl, rfl⟩
                rw [QD.out]
                go_wp2_with fail
                go_roundw
                case rel => exact ⟨j + 1, p + g3, q + g4, by omega, by omega, rfl, rfl, rfl, HBX, ⟨by have hh := HYE.out QD.out (by rw [HSEL.out]; simp [K0.out, K1.out, K2.out]); rw [QD.out] at hh; simpa using hh⟩, HCX⟩
                case measure => simp [intOf]; omega
              · have k2b : (c == -1) = false := beq_eq_false_iff_ne.2 m2
                by_cases mm2 : c = g2
                · have K2 := Aside0.mk mm2
                  have k2c : (c == g2) = true := by rw [mm2]; exact beq_self_eq_true' _
                  clear mm2 m2
                  go_wp2_with fail
                  refine (CA.out _).mono ?_
                  rintro x w' ⟨rfl, rfl⟩
                  go_wp2_with fail
                  refine (CB.out _).mono ?_
                  rintro x w' ⟨rfl, rfl⟩
                  go_wp2_with fail
                  refine (CD.out _).mono ?_
                  rintro x w' ⟨rfl, rfl⟩
                  rw [QD.out]
                  go_wp2_with fail
                  go_roundw
                  case rel => exact ⟨j + 1, p + g3, q + g4, by omega, by omega, rfl, rfl, rfl, HBX, ⟨by have hh := HYE.out QD.out (by rw [HSEL.out]; simp [K0.out, K1.out, K2.out]); rw [QD.out] at hh; simpa using hh⟩, HCX⟩
                  case measure => simp [intOf]; omega
                · have K2 := Aside0.mk mm2
                  have KK2 := Aside0.mk m2
                  have k2c : (c == g2) = false := beq_eq_false_iff_ne.2 mm2
                  clear mm2 m2
                  go_wp2_with fail
                  refine (CA.out _).mono ?_
                  rintro x w' ⟨rfl, rfl⟩
                  go_wp2_with fail
                  refine (CB.out _).mono ?_
                  rintro x w' ⟨rfl, rfl⟩
                  go_wp2_with fail
                  refine (CD.out _).mono ?_
                  rintro x w' ⟨rfl, rfl⟩
                  rw [QD.out]
                  go_wp2_with fail
                  go_roundw
                  case rel => exact ⟨j + 1, p, q, by omega, by omega, rfl, rfl, rfl, HBX, ⟨by have hh := HNO.out (.inr (by rw [HSEL.out]; simp [K2.out, KK2.out])); rw [QD.out] at hh; simpa using hh⟩, HCX⟩
                  case measure => simp [intOf]; omega
            · have K1 := Aside0.mk mm1
              have KK1 := Aside0.mk m1
              have k1c : (d == g1) = false := beq_eq_false_iff_ne.2 mm1
              clear mm1 m1
              go_wp2_with fail
              refine (CA.out _).mono ?_
              rintro x w' ⟨rfl, rfl⟩
              go_wp2_with fail
              refine (CB.out _).mono ?_
              rintro x w' ⟨rfl, rfl⟩
              go_wp2_with fail
              refine (CD.out _).mono ?_
              rintro x w' ⟨rfl, rfl⟩
              rw [QD.out]
              go_wp2_with fail
              go_roundw
              case rel => exact ⟨j + 1, p, q, by omega, by omega, rfl, rfl, rfl, HBX, ⟨by have hh := HNO.out (.inr (by rw [HSEL.out]; simp [K1.out, KK1.out])); rw [QD.out] at hh; simpa using hh⟩, HCX⟩
              case measure => simp [intOf]; omega
        · have k0b : (a == -1) = false := beq_eq_false_iff_ne.2 m0
          by_cases mm0 : a = g0
          · have K0 := Aside0.mk mm0
            have k0c : (a == g0) = true := by rw [mm0]; exact beq_self_eq_true' _
            clear mm0 m0
            by_cases m1 : d = -1
            · have K1 := Aside0.mk m1
              have k1b : (d == -1) = true := by rw [m1]; rfl
              clear m1
              by_cases m2 : c = -1
              · have K2 := Aside0.mk m2
                have k2b : (c == -1) = true := by rw [m2]; rfl
                clear m2
                go_wp2_with fail
                refine (CA.out _).mono ?_
                rintro x w' ⟨rfl, rfl⟩
                go_wp2_with fail
                refine (CB.out _).mono ?_
                rintro x w' ⟨rfl, rfl⟩
                go_wp2_with fail
                refine (CD.out _).mono ?_
                rintro x w' ⟨rfl, rfl⟩
                rw [QD.out]
                go_wp2_with fail
                go_roundw
                case rel => exact ⟨j + 1, p + g3, q + g4, by omega, by omega, rfl, rfl, rfl, HBX, ⟨by have hh := HYE.out QD.out (by rw [HSEL.out]; simp [K0.out, K1.out, K2.out]); rw [QD.out] at hh; simpa using hh⟩, HCX⟩
                case measure => simp [intOf]; omega
              · have k2b : (c == -1) = false := beq_eq_false_iff_ne.2 m2
                by_cases mm2 : c = g2
                · have K2 := Aside0.mk mm2
                  have k2c : (c == g2) = true := by rw [mm2]; exact beq_self_eq_true' _
                  clear mm2 m2
                  go_wp2_with fail
                  refine (CA.out _).mono ?_
                  rintro x w' ⟨rfl, rfl⟩
                  go_wp2_with fail
                  refine (CB.out _).mono ?_
                  rintro x w' ⟨rfl, rfl⟩
                  go_wp2_with fail
                  refine (CD.out _).mono ?_
                  rintro x w' ⟨rfl, rfl⟩
                  rw [QD.out]
                  go_wp2_with fail
                  go_roundw
                  case rel => exact ⟨j + 1, p + g3, q + g4, by omega, by omega, rfl, rfl, rfl, HBX, ⟨by have hh := HYE.out QD.out (by rw [HSEL.out]; simp [K0.out, K1.out, K2.out]); rw [QD.out] at hh; simpa using hh⟩, HCX⟩
                  case measure => simp [intOf]; omega
                · have K2 := Aside0.mk mm2
                  have KK2 := Aside0.mk m2
                  have k2c : (c == g2) = false := beq_eq_false_iff_ne.2 mm2
                  clear mm2 m2
                  go_wp2_with fail
                  refine (CA.out _).mono ?_
                  rintro x w' ⟨rfl, rfl⟩
                  go_wp2_with fail
                  refine (CB.out _).mono ?_
                  rintro x w' ⟨rfl, rfl⟩
                  go_wp2_with fail
                  refine (CD.out _).mono ?_
                  rintro x w' ⟨rfl, rfl⟩
                  rw [QD.out]
                  go_wp2_with fail
                  go_roundw
                  case rel => exact ⟨j + 1, p, q, by omega, by omega, rfl, rfl, rfl, HBX, ⟨by have hh := HNO.out (.inr (by rw [HSEL.out]; simp [K2.out, KK2.out])); rw [QD.out] at hh; simpa using hh⟩, HCX⟩
                  case measure => simp [intOf]; omega
            · have k1b : (d == -1) = false := beq_eq_false_iff_ne.2 m1
              by_cases mm1 : d = g1
              · have K1 := Aside0.mk mm1
                have k1c : (d == g1) = true := by rw [mm1]; exact beq_self_eq_true' _
                clear mm1 m1
                by_cases m2 : c = -1
                · have K2 := Aside0.mk m2
                  have k2b : (c == -1) = true := by rw [m2]; rfl
                  clear m2
                  go_wp2_with fail
                  refine (CA.out _).mono ?_
                  rintro x w' ⟨rfl, rfl⟩
                  go_wp2_with fail
                  refine (CB.out _).mono ?_
                  rintro x w' ⟨rfl, rfl⟩
                  go_wp2_with fail
                  refine (CD.out _).mono ?_
                  rintro x w' ⟨rfl, rfl⟩
                  rw [QD.out]
                  go_wp2_with fail
                  go_roundw
                  case rel => exact ⟨j + 1, p + g3, q + g4, by omega, by omega, rfl, rfl, rfl, HBX, ⟨by have hh := HYE.out QD.out (by rw [HSEL.out]; simp [K0.out, K1.out, K2.out]); rw [QD.out] at hh; simpa using hh⟩, HCX⟩
                  case measure => simp [intOf]; omega
                · have k2b : (c == -1) = false := beq_eq_false_iff_ne.2 m2
                  by_cases mm2 : c = g2
                  · have K2 := Aside0.mk mm2
                    have k2c : (c == g2) = true := by rw [mm2]; exact beq_self_eq_true' _
                    clear mm2 m2
                    go_wp2_with fail
                    refine (CA.out _).mono ?_
                    rintro x w' ⟨rfl, rfl⟩
                    go_wp2_with fail
                    refine (CB.out _).mono ?_
                    rintro x w' ⟨rfl, rfl⟩
                    go_wp2_with fail
                    refine (CD.out _).mono ?_
                    rintro x w' ⟨rfl, rfl⟩
                    rw [QD.out]
                    go_wp2_with fail
                    go_roundw
                    case rel => exact ⟨j + 1, p + g3, q + g4, by omega, by omega, rfl, rfl, rfl, HBX, ⟨by have hh := HYE.out QD.out (by rw [HSEL.out]; simp [K0.out, K1.out, K2.out]); rw [QD.out] at hh; simpa using hh⟩, HCX⟩
                    case measure => simp [intOf]; omega
                  · have K2 := Aside0.mk mm2
                    have KK2 := Aside0.mk m2
                    have k2c : (c == g2) = false := beq_eq_false_iff_ne.2 mm2
                    clear mm2 m2
                    go_wp2_with fail
                    refine (CA.out _).mono ?_
                    rintro x w' ⟨rfl, rfl⟩
                    go_wp2_with fail
                    refine (CB.out _).mono ?_
                    rintro x w' ⟨rfl, rfl⟩
                    go_wp2_with fail
                    refine (CD.out _).mono ?_
                    rintro x w' ⟨rfl, rfl⟩
                    rw [QD.out]
                    go_wp2_with fail
                    go_roundw
                    case rel => exact ⟨j + 1, p, q, by omega, by omega, rfl, rfl, rfl, HBX, ⟨by have hh := HNO.out (.inr (by rw [HSEL.out]; simp [K2.out, KK2.out])); rw [QD.out] at hh; simpa using hh⟩, HCX⟩
                    case measure => simp [intOf]; omega
              · have K1 := Aside0.mk mm1
                have KK1 := Aside0.mk m1
                have k1c : (d == g1) = false := beq_eq_false_iff_ne.2 mm1
                clear mm1 m1
                go_wp2_with fail
                refine (CA.out _).mono ?_
                rintro x w' ⟨rfl, rfl⟩
                go_wp2_with fail
                refine (CB.out _).mono ?_
                rintro x w' ⟨rfl, rfl⟩
                go_wp2_with fail
                refine (CD.out _).mono ?_
                rintro x w' ⟨rfl, rfl⟩
                rw [QD.out]
                go_wp2_with fail
                go_roundw
                case rel => exact ⟨j + 1, p, q, by omega, by omega, rfl, rfl, rfl, HBX, ⟨by have hh := HNO.out (.inr (by rw [HSEL.out]; simp [K1.out, KK1.out])); rw [QD.out] at hh; simpa using hh⟩, HCX⟩
                case measure => simp [intOf]; omega
          · have K0 := Aside0.mk mm0
            have KK0 := Aside0.mk m0
            have k0c : (a == g0) = false := beq_eq_false_iff_ne.2 mm0
            clear mm0 m0
            go_wp2_with fail
            refine (CA.out _).mono ?_
            rintro x w' ⟨rfl, rfl⟩
            go_wp2_with fail
            refine (CB.out _).mono ?_
            rintro x w' ⟨rfl, rfl⟩
            go_wp2_with fail
            refine (CD.out _).mono ?_
            rintro x w' ⟨rfl, rfl⟩
            rw [QD.out]
            go_wp2_with fail
            go_roundw
            case rel => exact ⟨j + 1, p, q, by omega, by omega, rfl, rfl, rfl, HBX, ⟨by have hh := HNO.out (.inr (by rw [HSEL.out]; simp [K0.out, KK0.out])); rw [QD.out] at hh; simpa using hh⟩, HCX⟩
            case measure => simp [intOf]; omega
open Classical in
noncomputable def spec_Balance.f (l0 : List Ent) (a0_1 a1 a2 a3 a4 a5 : Int) : Option (Int × Int) := if l0.length ≤ 1000 ∧ (∀ e ∈ l0, entFine e) then some (amtV a1 a2 a3 a4 a5 l0, basV a1 a2 a3 a4 a5 l0) else none
theorem spec_Balance.calls (A0_0 : Option Addr) (c0_0 : Nat) (l0_0 : List Ent) (a0_1 a1 a2 a3 a4 a5 : Int) (r1 r2 : Int) (w : World) (hr0_0 : Kd.C k34 w A0_0 l0_0.length l0_0) (hc0_0 : l0_0.length ≤ c0_0) (hf : spec_Balance.f l0_0 a0_1 a1 a2 a3 a4 a5 = some (r1, r2)) :
    Calls Try.prog 115 #[.agg #[.slice A0_0 l0_0.length c0_0, .int .i64 a0_1], .int .i64 a1, .int .i64 a2, .int .i64 a3, .int .i64 a4, .int .i64 a5] w fun e w' => e = .returned (.tuple #[.int .i64 r1, .int .i64 r2]) ∧ Below w.heap.size w w' := by
  unfold spec_Balance.f at hf
  split at hf
  · rename_i q
    cases hf
    exact spec_Balance.to A0_0 c0_0 l0_0 a0_1 a1 a2 a3 a4 a5 w hr0_0 q.1 q.2
  · cases hf


end Go.Proofs.Ytphmnkcfjgallaa.Q
