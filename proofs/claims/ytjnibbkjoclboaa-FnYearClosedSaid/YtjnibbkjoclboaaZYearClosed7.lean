/- Parts of the proof: what functions of the program and of the reference answer.
   No condition. -/
import Derived.Test.YtjnibbkjoclboaaZYearClosed1
import Derived.Test.YtjnibbkjoclboaaZYearClosed3
import Derived.BigRegion
namespace Go.Proofs.Ytjnibbkjoclboaa.Q
open Go.RowKit Go.Proofs.YtjnibbkjoclboaaW.PrintWords Go.Proofs.YtjnibbkjoclboaaW.PrintLast Go.Proofs.YtjnibbkjoclboaaW.PrintMore
attribute [local go_sem] max2_int min2_int max_two min_two max_three min_three max_four min_four   -- for this text's walks alone
set_option linter.unusedVariables false
set_option linter.unusedSimpArgs false
theorem int_seg {W : World} {base g n cap : Nat} {ok : Nat → Prop} {xs : List Int} (h : (Kd.int .i64).R 3 W base ok (.slice (some ⟨g, 0, none⟩) n cap) xs) (i : Int) (h0 : 0 ≤ i) (h1 : i < n) (v : Int) :
    (Kd.int .i64).R 3 (W.setCell ⟨g, i.toNat, none⟩ (.int .i64 v)) base ok (.slice (some ⟨g, 0, none⟩) n cap) (xs.set i.toNat v) := by
  obtain ⟨c, hcl, hM, hcc, _⟩ := Kd.R_elem h 0 i h0 h1
  have := (Kd.R_seg h i h0 h1 (c := c) (seg := [.int .i64 v]) (j := 0) (x' := v) (okp := fun _ => False) hcl hcc (Nat.le_refl _) (by
    have hl : c.length = 1 := hcl
    match c, hl with
    | [u], _ => rfl) (fun _ hk => hk.elim)).1
  rw [show (Kd.int .i64).sz = 1 from rfl, Nat.mul_one, Nat.add_zero] at this
  exact this
theorem int_get {W : World} {base g n cap : Nat} {ok : Nat → Prop} {xs : List Int} (h : (Kd.int .i64).R 3 W base ok (.slice (some ⟨g, 0, none⟩) n cap) xs) (i : Int) (h0 : 0 ≤ i) (h1 : i < n) :
    W.cell? ⟨g, i.toNat, none⟩ = some (.int .i64 (rd xs i)) ∧ W.frozen? ⟨g, i.toNat, none⟩ = false := by
  obtain ⟨c, hcl, hM, hcc, hfr⟩ := Kd.R_elem h 0 i h0 h1
  have e : c = [.int .i64 (xs.getD i.toNat 0)] := hM
  subst e
  have a := hcc 0 _ rfl
  have b := hfr 0
  rw [show (Kd.int .i64).sz = 1 from rfl, Nat.mul_one, Nat.add_zero] at a b
  exact ⟨a, b⟩
set_option maxHeartbeats 16000000 in
set_option maxRecDepth 100000 in
theorem impl_bases.to (N : Nat) (A : Option Addr) (c : Nat) (es : List Ent) (h d fr tt : Int) (w : World) (hr : Kd.C k37 w A es.length es) (q : basesP N es) :
    Calls Try.prog 32 #[.int .i64 N, .agg #[.slice A es.length c, .int .i64 h], .int .i64 d, .int .i64 fr, .int .i64 tt] w fun e w' => ∃ v0_ : Value, e = .returned v0_ ∧ Kd.R (Kd.int .i64) 3 w' w.heap.size (fun _ => True) v0_ (mapN N (fun a => basV a d (-1) fr tt es)) ∧ Below w.heap.size w w' := by
  obtain ⟨q0, q1, q2, q3, q4⟩ := q
  have HR := Aside0.mk hr
  have Q3 := Aside0.mk q3
  have Q4 := Aside0.mk q4
  have hT : ∃ T : Nat → Int, T = fun (a : Nat) => basV (a : Int) d (-1) fr tt es := ⟨_, rfl⟩
  obtain ⟨T, hT⟩ := hT
  rw [← hT]
  have HTT := Aside0.mk hT
  clear hr q3 q4 hT
  go_enter Try.func32, Try.ntmps32
  go_wp2_with ((with_reducible refine gate_dst (N := 17) rfl ?_); refine Kd.R_make (Kd.int .i64) _ 3 rfl (N := 17) rfl 47 _ _ rfl (N : Int) rfl rfl Try.underlying47 (.int .i64 0) 8 info3 rfl (by decide) (by omega) 0 (ok := fun _ => True) (okp := fun _ => True) rfl (fun _ hk => hk) trivial (by omega) (by simp; omega) (Below.refl _ _) (Nat.le_refl _) ?_; intro v1 w1 ho hb hg hnew; have f0 : w1.cell? ⟨w.heap.size, 0, none⟩ = some (.slice A es.length c) := pw_cell_below hb (by go_simp); have HB := Aside0.mk (below_into (w := w) hb (below_alloc (Below.refl _ _) _)); have HO := Aside0.mk (Kd.R_lower ho (base' := w.heap.size) (by simp)); obtain ⟨g, cap, e1, hg0, hg1, _⟩ := Kd.R_form HO.out (by simp; omega); subst e1; clear ho hb hg hnew hg1)
  rw [show (List.replicate ((N : Int)).toNat (0 : Int)) = mapN N (fun _ => 0) from (by rw [Int.toNat_natCast]; exact mapN_zero N)] at HO
  rw [mapN_len] at HO
  go_loopw [21] (fun v wr => ∃ i : Int, 0 ≤ i ∧ i ≤ (es.length : Int) ∧ v = .int .i64 i ∧ Aside0 (Below w.heap.size w wr) ∧ Aside0 (∃ G : Nat → Int, (∀ a, G a + basV (a : Int) d (-1) fr tt (es.drop i.toNat) = T a) ∧ Kd.R (Kd.int .i64) 3 wr w.heap.size (fun _ => True) (.slice (some ⟨g, 0, none⟩) N cap) (mapN N G))) (fun v _ => (es.length - (intOf v).toNat))
  case atStart => exact ⟨0, by omega, by omega, rfl, HB, ⟨fun _ => 0, fun a => by rw [HTT.out]; simp, HO.out⟩⟩
  case round =>
    clear HB HO f0
    obtain ⟨i, hi0, hi1, rfl, HB, HG⟩ := hrel
    by_cases hlt : i < (es.length : Int)
    · obtain ⟨ad, A3, c3, e0, x0, x1, x2, x3, x4, x5⟩ := at_T37 HR.out i hi0 hlt
      cases e0
      replace x0 := pw_cell_below HB.out x0
      replace x1 := pw_cell_below HB.out x1
      replace x2 := pw_cell_below HB.out x2
      replace x3 := pw_cell_below HB.out x3
      have X5 := Aside0.mk x5
      have XL := Aside0.mk x4
      have hl3 : (rd_T37 es i).f3.length ≤ 60 := (all_at (z := z37) (p := entFine) hi0 hlt Q3.out).1
      have HF := Aside0.mk (show ∀ x ∈ (rd_T37 es i).f3, lineFine x from (all_at (z := z37) (p := entFine) hi0 hlt Q3.out).2)
      have HA := Aside0.mk (show ∀ x ∈ (rd_T37 es i).f3, 0 ≤ x.f0 ∧ x.f0 < (N : Int) from all_at (z := z37) (p := fun e => ∀ x ∈ e.f3, 0 ≤ x.f0 ∧ x.f0 < (N : Int)) hi0 hlt Q4.out)
      have HD := Aside0.mk (drop_at (l := es) (z := z37) hi0 hlt)
      clear x5 x4
      generalize hy0 : (rd_T37 es i).f0 = day at *
      generalize hy3 : (rd_T37 es i).f3 = ls at *
      have HY0 := Aside0.mk hy0
      have HY3 := Aside0.mk hy3
      clear hy0 hy3
      have HBX := Aside0.mk (below_alloc HB.out (.cells #[.int .i64 day, .int .i64 (rd_T37 es i).f1, .string (rd_T37 es i).f2, .slice A3 ls.length c3] 37))
      have HSK := Aside0.mk (show inB day fr tt = false → ∀ G : Nat → Int, (∀ a, G a + basV (a : Int) d (-1) fr tt (es.drop i.toNat) = T a) → ∀ a, G a + basV (a : Int) d (-1) fr tt (es.drop (i + 1).toNat) = T a from fun hn G hG a => by
        rw [← hG a, HD.out]
        show _ = G a + ((if inB (rd_T37 es i).f0 fr tt = true then basL a d (-1) (rd_T37 es i).f3 else 0) + basV (a : Int) d (-1) fr tt (es.drop (i + 1).toNat))
        rw [HY0.out, hn]
        simp)
      have HGO := Aside0.mk (show inB day fr tt = true → ∀ G : Nat → Int, (∀ a, G a + basV (a : Int) d (-1) fr tt (es.drop i.toNat) = T a) → ∀ a, G a + basL (a : Int) d (-1) ls + basV (a : Int) d (-1) fr tt (es.drop (i + 1).toNat) = T a from fun hn G hG a => by
        rw [← hG a, HD.out]
        show _ = G a + ((if inB (rd_T37 es i).f0 fr tt = true then basL a d (-1) (rd_T37 es i).f3 else 0) + basV (a : Int) d (-1) fr tt (es.drop (i + 1).toNat))
        rw [HY0.out, hn, HY3.out]
        simp
        omega)
      have HBD := Aside0.mk (show ∀ (G : Nat → Int) (m : List Lin), (∀ x ∈ m, lineFine x) → m.length ≤ 60 → (∀ a, G a + basL (a : Int) d (-1) m + basV (a : Int) d (-1) fr tt (es.drop (i + 1).toNat) = T a) → ∀ a, -100000000000000000 ≤ G a ∧ G a ≤ 100000000000000000 from fun G m hm hml hG a => by
        have t1 := basV_b (a : Int) d (-1) fr tt es Q3.out
        have t2 := basV_b (a : Int) d (-1) fr tt (es.drop (i + 1).toNat) (fun e he => Q3.out e (List.mem_of_mem_drop he))
        have t3 := basL_b (a : Int) d (-1) m hm
        have t4 := hG a
        rw [HTT.out] at t4
        have t5 : (es.drop (i + 1).toNat).length ≤ 1000 := by rw [List.length_drop]; omega
        simp only at t4
        constructor <;> omega)
      by_cases h1 : day < fr
      · have h1b : decide (day < fr) = true := decide_eq_true h1
        go_wp2_with fail
        go_roundw
        case rel =>
          obtain ⟨G, g1, g2⟩ := HG.out
          exact ⟨i + 1, by omega, by omega, rfl, HBX, ⟨G, HSK.out (inB_not (by omega)) G g1, Kd.R_alloc g2 _⟩⟩
        case measure => simp [intOf]; omega
      · have h1b : decide (day < fr) = false := decide_eq_false h1
        by_cases h2 : tt < day
        · have h2b : decide (tt < day) = true := decide_eq_true h2
          go_wp2_with fail
          go_roundw
          case rel =>
            obtain ⟨G, g1, g2⟩ := HG.out
            exact ⟨i + 1, by omega, by omega, rfl, HBX, ⟨G, HSK.out (inB_not (by omega)) G g1, Kd.R_alloc g2 _⟩⟩
          case measure => simp [intOf]; omega
        · have h2b : decide (tt < day) = false := decide_eq_false h2
          obtain ⟨G, g1, g2⟩ := HG.out
          have HG1 := Aside0.mk (HGO.out (inB_of ⟨by omega, by omega⟩) G g1)
          have HR1 := Aside0.mk (Kd.R_alloc g2 (.cells #[.int .i64 day, .int .i64 (rd_T37 es i).f1, .string (rd_T37 es i).f2, .slice A3 ls.length c3] 37))
          clear HG g1 g2 HSK HGO
          go_wp2_with fail
          go_loopw [38] (fun v wq => ∃ j : Int, 0 ≤ j ∧ j ≤ (ls.length : Int) ∧ v = .int .i64 j ∧ Aside0 (Below w.heap.size w wq) ∧ Aside0 (∃ G : Nat → Int, (∀ a, G a + basL (a : Int) d (-1) (ls.drop j.toNat) + basV (a : Int) d (-1) fr tt (es.drop (i + 1).toNat) = T a) ∧ Kd.R (Kd.int .i64) 3 wq w.heap.size (fun _ => True) (.slice (some ⟨g, 0, none⟩) N cap) (mapN N G))) (fun v _ => (ls.length - (intOf v).toNat))
          case atStart => exact ⟨0, by omega, by omega, rfl, HBX, ⟨G, fun a => by simpa using HG1.out a, HR1.out⟩⟩
          case round =>
            clear HB HBX HR1 HG1
            obtain ⟨j, hj0, hj1, rfl, HB, HG⟩ := hrel
            by_cases hlj : j < (ls.length : Int)
            · obtain ⟨ad, e0, y0, y1, y2, y3, y4⟩ := at_T66 (Kd.C_below X5.out HB.out) j hj0 hlj
              cases e0
              have HLF := Aside0.mk (all_at (z := z66) (p := lineFine) hj0 hlj HF.out)
              have HLA := all_at (z := z66) (p := fun x => 0 ≤ x.f0 ∧ x.f0 < (N : Int)) hj0 hlj HA.out
              have z0 : 0 ≤ (rd_T66 ls j).f0 := HLA.1
              have z1 : (rd_T66 ls j).f0 < (N : Int) := HLA.2
              have HLD := Aside0.mk (drop_at (l := ls) (z := z66) hj0 hlj)
              have HPB := Aside0.mk (show -100000000000 ≤ (rd_T66 ls j).f4 ∧ (rd_T66 ls j).f4 ≤ 100000000000 from HLF.out.2)
              obtain ⟨G, g1, g2⟩ := HG.out
              have HGB := Aside0.mk (HBD.out G (ls.drop j.toNat) (fun x hx => HF.out x (List.mem_of_mem_drop hx)) (by rw [List.length_drop]; omega) g1)
              have HSL := Aside0.mk (show ∀ s : Bool, (∀ b : Nat, selL (b : Int) d (-1) (rd_T66 ls j) = (decide (b = (rd_T66 ls j).f0.toNat) && s)) → ∀ a : Nat, (if s = true then (if a = (rd_T66 ls j).f0.toNat then G (rd_T66 ls j).f0.toNat + (rd_T66 ls j).f4 else G a) else G a) + basL (a : Int) d (-1) (ls.drop (j + 1).toNat) + basV (a : Int) d (-1) fr tt (es.drop (i + 1).toNat) = T a from fun s hs a => by
                rw [← g1 a, HLD.out]
                show _ = G a + ((if selL (a : Int) d (-1) (rd_T66 ls j) = true then (rd_T66 ls j).f4 else 0) + basL (a : Int) d (-1) (ls.drop (j + 1).toNat)) + basV (a : Int) d (-1) fr tt (es.drop (i + 1).toNat)
                rw [hs a]
                cases s <;> by_cases e : a = (rd_T66 ls j).f0.toNat <;> simp [e] <;> omega)
              obtain ⟨k0, k1⟩ := int_get g2 _ z0 z1
              rw [mapN_rd z0 z1] at k0
              have HR2 := Aside0.mk g2
              have HSE := Aside0.mk (fun b : Nat => selL_acc (a := b) (d := d) (x := rd_T66 ls j) z0)
              clear HG g1 g2
              have HBX := Aside0.mk (below_alloc HB.out (.cells #[.int .i64 (rd_T66 ls j).f0, .int .i64 (rd_T66 ls j).f1, .int .i64 (rd_T66 ls j).f2, .int .i64 (rd_T66 ls j).f3, .int .i64 (rd_T66 ls j).f4] 66))
              have b0 := (HGB.out (rd_T66 ls j).f0.toNat).1
              have b1 := (HGB.out (rd_T66 ls j).f0.toNat).2
              have b2 := HPB.out.1
              have b3 := HPB.out.2
              generalize hp0 : (rd_T66 ls j).f0 = p0 at *
              generalize hp1 : (rd_T66 ls j).f1 = p1 at *
              generalize hp4 : (rd_T66 ls j).f4 = p4 at *
              generalize hgv : G p0.toNat = gv at *
              have PP := Aside0.mk (And.intro hp0 (And.intro hp1 (And.intro hp4 hgv)))
              clear hp0 hp1 hp4 hgv
              by_cases hd : d = -1
              · have hdb : (d == -1) = true := by rw [hd]; rfl
                have HD1 := Aside0.mk hd
                clear hd
                go_wp2_with fail
                have u0 : (wr.alloc (.cells #[.int .i64 p0, .int .i64 p1, .int .i64 (rd_T66 ls j).f2, .int .i64 (rd_T66 ls j).f3, .int .i64 p4] 66)).cell? ⟨wr.heap.size, 0, none⟩ = some (.int .i64 p0) := by go_simp
                have u4 : (wr.alloc (.cells #[.int .i64 p0, .int .i64 p1, .int .i64 (rd_T66 ls j).f2, .int .i64 (rd_T66 ls j).f3, .int .i64 p4] 66)).cell? ⟨wr.heap.size, 4, none⟩ = some (.int .i64 p4) := by go_simp
                have hbl := below_alloc (Below.refl wr.heap.size wr) (.cells #[.int .i64 p0, .int .i64 p1, .int .i64 (rd_T66 ls j).f2, .int .i64 (rd_T66 ls j).f3, .int .i64 p4] 66)
                replace k0 := pw_cell_below hbl k0
                replace HR2 := Aside0.mk (Kd.R_below HR2.out hbl)
                clear hbl
                replace k1 := (int_get HR2.out _ z0 z1).2
                generalize wr.alloc (.cells #[.int .i64 p0, .int .i64 p1, .int .i64 (rd_T66 ls j).f2, .int .i64 (rd_T66 ls j).f3, .int .i64 p4] 66) = wq at *
                generalize wr.heap.size = gx at *
                go_region
                go_wp2_with fail
                go_roundw
                case rel => exact ⟨j + 1, by omega, by omega, rfl, ⟨pw_below_drewN (below_set HBX.out hg0) 1⟩, ⟨_, by have := HSL.out true (fun b => by rw [HSE.out b]; simp [HD1.out]); simpa using this, by have := int_seg HR2.out _ z0 z1 (gv + p4); rw [mapN_set] at this; exact Kd.R_drew this⟩⟩
                case measure => simp [intOf]; omega
              · have hdb : (d == -1) = false := beq_eq_false_iff_ne.2 hd
                have HD1 := Aside0.mk hd
                clear hd
                by_cases hq : p1 = d
                · have hqb : (p1 == d) = true := by rw [hq]; exact beq_self_eq_true' _
                  have HD2 := Aside0.mk hq
                  clear hq
                  go_wp2_with fail
                  have u0 : (wr.alloc (.cells #[.int .i64 p0, .int .i64 p1, .int .i64 (rd_T66 ls j).f2, .int .i64 (rd_T66 ls j).f3, .int .i64 p4] 66)).cell? ⟨wr.heap.size, 0, none⟩ = some (.int .i64 p0) := by go_simp
                  have u4 : (wr.alloc (.cells #[.int .i64 p0, .int .i64 p1, .int .i64 (rd_T66 ls j).f2, .int .i64 (rd_T66 ls j).f3, .int .i64 p4] 66)).cell? ⟨wr.heap.size, 4, none⟩ = some (.int .i64 p4) := by go_simp
                  have hbl := below_alloc (Below.refl wr.heap.size wr) (.cells #[.int .i64 p0, .int .i64 p1, .int .i64 (rd_T66 ls j).f2, .int .i64 (rd_T66 ls j).f3, .int .i64 p4] 66)
                  replace k0 := pw_cell_below hbl k0
                  replace HR2 := Aside0.mk (Kd.R_below HR2.out hbl)
                  clear hbl
                  replace k1 := (int_get HR2.out _ z0 z1).2
                  generalize wr.alloc (.cells #[.int .i64 p0, .int .i64 p1, .int .i64 (rd_T66 ls j).f2, .int .i64 (rd_T66 ls j).f3, .int .i64 p4] 66) = wq at *
                  generalize wr.heap.size = gx at *
                  go_region
                  go_wp2_with fail
                  go_roundw
                  case rel => exact ⟨j + 1, by omega, by omega, rfl, ⟨pw_below_drewN (below_set HBX.out hg0) 1⟩, ⟨_, by have := HSL.out true (fun b => by rw [HSE.out b]; simp [HD2.out]); simpa using this, by have := int_seg HR2.out _ z0 z1 (gv + p4); rw [mapN_set] at this; exact Kd.R_drew this⟩⟩
                  case measure => simp [intOf]; omega
                · have hqb : (p1 == d) = false := beq_eq_false_iff_ne.2 hq
                  have HD2 := Aside0.mk hq
                  clear hq
                  go_wp2_with fail
                  go_roundw
                  case rel => exact ⟨j + 1, by omega, by omega, rfl, HBX, ⟨G, by have := HSL.out false (fun b => by rw [HSE.out b]; simp [HD1.out, HD2.out]); simpa using this, Kd.R_alloc HR2.out _⟩⟩
                  case measure => simp [intOf]; omega
            · go_wp2_with fail
              go_roundw
              case rel =>
                obtain ⟨G, g1, g2⟩ := HG.out
                exact ⟨i + 1, by omega, by omega, rfl, HB, ⟨G, fun a => by have := g1 a; rw [List.drop_of_length_le (by omega)] at this; simpa [basL] using this, g2⟩⟩
              case measure => simp [intOf]; omega
    · go_wp2_with fail
      go_ret
      obtain ⟨G, g1, g2⟩ := HG.out
      rw [show mapN N G = mapN N T from mapN_congr (fun a _ => by have := g1 a; rw [List.drop_of_length_le (by omega)] at this; simpa [basV] using this)] at g2
      exact ⟨_, rfl, g2, HB.out⟩
open Classical in
noncomputable def impl_bases.f (a0 : Int) (l1_0 : List Ent) (a1_1 : Int) (a2 : Int) (a3 : Int) (a4 : Int) : Option (List Int) := if 0 ≤ a0 ∧ basesP a0.toNat l1_0 then some (mapN a0.toNat (fun a => basV a a2 (-1) a3 a4 l1_0)) else none
theorem impl_bases.calls (a0 : Int) (A1_0 : Option Addr) (c1_0 : Nat) (l1_0 : List Ent) (a1_1 : Int) (a2 : Int) (a3 : Int) (a4 : Int) (r : List Int) (w : World) (hr1_0 : Kd.C k37 w A1_0 l1_0.length l1_0) (hc1_0 : l1_0.length ≤ c1_0) (hf : impl_bases.f a0 l1_0 a1_1 a2 a3 a4 = some r) :
    Calls Try.prog 32 #[.int .i64 a0, .agg #[.slice A1_0 l1_0.length c1_0, .int .i64 a1_1], .int .i64 a2, .int .i64 a3, .int .i64 a4] w fun e w' => ∃ v0_ : Value, e = .returned (v0_) ∧ Kd.R (Kd.int .i64) 3 w' w.heap.size (fun _ => True) v0_ r ∧ Below w.heap.size w w' := by
  unfold impl_bases.f at hf
  split at hf
  · rename_i q
    cases hf
    obtain ⟨n, rfl⟩ := Int.eq_ofNat_of_zero_le q.1
    exact impl_bases.to n A1_0 c1_0 l1_0 a1_1 a2 a3 a4 w hr1_0 q.2
  · cases hf
end Go.Proofs.Ytjnibbkjoclboaa.Q
namespace Go.Proofs.Ytjnibbkjoclboaa.Q
open Go.RowKit Go.Proofs.YtjnibbkjoclboaaW.PrintWords Go.Proofs.YtjnibbkjoclboaaW.PrintLast Go.Proofs.YtjnibbkjoclboaaW.PrintMore
attribute [local go_sem] max2_int min2_int max_two min_two max_three min_three max_four min_four   -- for this text's walks alone
set_option linter.unusedVariables false
set_option linter.unusedSimpArgs false
def ArrAt (w : World) (g n : Nat) (d : Int → Int) : Prop := ∃ cur : Array Value, w.heap[g]? = some (.cells cur 3 (0, 0)) ∧ n ≤ cur.size ∧ ∀ j : Int, 0 ≤ j → j < n → cur[j.toNat]? = some (.int .i64 (d j))
theorem zero3 (w : World) : (zeroValue 3).run Try.prog w = .ok (.int .i64 0) w := by kernel_rfl
noncomputable def strK : HMap.KeyK Try.prog 9 ByteArray := HMap.strKey Try.underlying9
theorem wr_var {wr w2 : World} {c : Array Value} {t b : Nat} (hg : (wr.alloc (.cells c t)).grownBy w2 (some b)) (hb : b < wr.heap.size) : w2.heap[wr.heap.size]? = some (.cells c t (0, 0)) :=
  (hg.block wr.heap.size (by simp) (by intro e; injection e with e; omega)).trans (blk_new wr _)
theorem dep_ret {v : Value} {b c : Bool} (h : b = c) : Ending.returned (.tuple #[v, .bool b]) = Ending.returned (.tuple #[v, .bool c]) := by rw [h]
def DepPost (w : World) (b : Bool) (e : Ending) (w' : World) : Prop := ∃ v0_ : Value, e = .returned (.tuple #[v0_, .bool b]) ∧ Below w.heap.size w w'
structure DepInv (chart : List Acc) (w wr : World) (gm gd : Nat) (i : Int) : Prop where
  map : ∃ f : ByteArray → Option Int, HMap.MapIs Try.prog 9 3 strK wr gm i.toNat f ∧ ∀ s, (f s).isSome = true ↔ ∃ j : Int, 0 ≤ j ∧ j < i ∧ code chart j = s
  arr : ArrAt wr gd chart.length (fun j => if j < i then deepAt chart j else 0)
  rows : rowsOk chart i
  bel : Below w.heap.size w wr
  gm0 : w.heap.size ≤ gm
  gd0 : w.heap.size ≤ gd
theorem arr_of_own {w : World} {base g n : Nat} (h : w.ownsRow base 3 1 (.slice (some ⟨g, 0, none⟩) n n) n (madeCells (Value.int .i64 0).cells (n * 1)).toList) : ArrAt w g n (fun _ => 0) := by
  obtain ⟨hl, h⟩ := h
  rcases h with ⟨h, _⟩ | ⟨g', cap, cur, hv, _, hh, hn, _, hs, ht⟩
  · simp at h
  · simp only [Value.slice.injEq, Option.some.injEq, Addr.mk.injEq] at hv
    obtain ⟨⟨rfl, _⟩, _, rfl⟩ := hv
    refine ⟨cur, hh, by omega, fun j h0 h1 => ?_⟩
    have e : (cur.toList.take (n * 1))[j.toNat]? = (madeCells (Value.int .i64 0).cells (n * 1)).toList[j.toNat]? := by rw [ht]
    rw [List.getElem?_take, if_pos (by omega)] at e
    rw [← Array.getElem?_toList, e]
    simp [madeCells, Value.cells]
    exact ⟨j.toNat, by rw [List.getElem?_range (by omega)], by simp [Nat.mod_one]⟩
theorem dep_blk {wr w2 : World} {c cur : Array Value} {t t' gm g : Nat} (hg : (wr.alloc (.cells c t)).grownBy w2 (some gm)) (hlt : g ≠ gm) (h : wr.heap[g]? = some (.cells cur t' (0, 0))) (hw : True) : w2.heap[g]? = some (.cells cur t' (0, 0)) :=
  (hg.block g (by have := blk_lt h; simp; omega) (by intro e; injection e with e; omega)).trans (blk_alloc h _)
theorem dep_zero' {chart : List Acc} {cur : Array Value} {i : Int} {n : Nat} (h : ∀ j : Int, 0 ≤ j → j < n → cur[j.toNat]? = some (.int .i64 ((fun j => if j < i then deepAt chart j else 0) j))) (hp : par chart i = -1) : ∀ j : Int, 0 ≤ j → j < n → cur[j.toNat]? = some (.int .i64 ((fun j => if j < i + 1 then deepAt chart j else 0) j)) := by
  intro j j0 j1
  rw [h j j0 j1]
  simp only
  by_cases e : j < i
  · rw [if_pos e, if_pos (by omega)]
  · rw [if_neg e]
    by_cases e2 : j = i
    · subst e2; rw [if_pos (by omega), deep_zero hp]
    · rw [if_neg (by omega)]
theorem dep_set {chart : List Acc} {cur : Array Value} {i : Int} {n : Nat} {v : Int} (h : ∀ j : Int, 0 ≤ j → j < n → cur[j.toNat]? = some (.int .i64 ((fun j => if j < i then deepAt chart j else 0) j))) (h0 : 0 ≤ i) (hn : i.toNat < cur.size) (hv : deepAt chart i = v + 1) : ∀ j : Int, 0 ≤ j → j < n → (cur.setIfInBounds i.toNat (.int .i64 (v + 1)))[j.toNat]? = some (.int .i64 ((fun j => if j < i + 1 then deepAt chart j else 0) j)) := by
  intro j j0 j1
  simp only
  rw [Array.getElem?_setIfInBounds]
  by_cases e : j = i
  · subst e
    rw [if_pos rfl, if_pos hn, if_pos (by omega), hv]
  · rw [if_neg (by omega), h j j0 j1]
    simp only
    by_cases e2 : j < i
    · rw [if_pos e2, if_pos (by omega)]
    · rw [if_neg e2, if_neg (by omega)]
theorem dep_next {chart : List Acc} {w wr w2 : World} {gm gd : Nat} {i : Int} {f : ByteArray → Option Int} (HI : DepInv chart w wr gm gd i) (hm2 : HMap.MapIs Try.prog 9 3 strK w2 gm (i.toNat + 1) (HMap.upd f (code chart i) i))
    (hf : ∀ s, (f s).isSome = true ↔ ∃ j : Int, 0 ≤ j ∧ j < i ∧ code chart j = s) (hB : Below w.heap.size w w2) (harr : ArrAt w2 gd chart.length (fun j => if j < i + 1 then deepAt chart j else 0)) (h0 : 0 ≤ i) (hr : rowOk chart i) : DepInv chart w w2 gm gd (i + 1) where
  map := ⟨_, by rw [show (i + 1).toNat = i.toNat + 1 by omega]; exact hm2, fun s => by
    by_cases e : s = code chart i
    · subst e
      rw [HMap.upd_same]
      exact ⟨fun _ => ⟨i, h0, by omega, rfl⟩, fun _ => rfl⟩
    · rw [HMap.upd_other _ _ e, hf]
      constructor
      · rintro ⟨j, j0, j1, j2⟩
        exact ⟨j, j0, by omega, j2⟩
      · rintro ⟨j, j0, j1, j2⟩
        by_cases e2 : j = i
        · subst e2; exact absurd j2.symm e
        · exact ⟨j, j0, by omega, j2⟩⟩
  arr := harr
  rows := rows_step h0 HI.rows hr
  bel := hB
  gm0 := HI.gm0
  gd0 := HI.gd0
set_option maxHeartbeats 8000000 in
set_option maxRecDepth 100000 in
theorem impl_depths.to (A0 : Option Addr) (c0 : Nat) (l0 : List Acc) (w : World) (hr0 : Kd.C k43 w A0 l0.length l0) (hs : ∀ x ∈ l0, x.f0.size ≤ maxLen) :
    Calls Try.prog 68 #[.slice A0 l0.length c0] w (DepPost w (chartOk l0)) := by
  have hl := hr0.2.1
  have H0 := Aside0.mk hr0
  have HS := Aside0.mk hs
  clear hr0 hs
  by_cases h1 : 1 ≤ l0.length
  · by_cases h2 : l0.length ≤ 120
    · have hmm := @run_makeMap Try.prog
      obtain ⟨i0, hi, hz0, hz1, hz2⟩ := info_parts (show (Try.prog.info? 3).map (fun i => (i.zero, i.size, i.bytes)) = some (some (.int .i64 0), 1, 8) by kernel_rfl)
      go_enter Try.func68, Try.ntmps68
      go_wp2_with (at_make; refine wpList_make_full _ rfl _ _ 47 rfl w.heap.size 3 i0 (.int .i64 0) 1 Try.underlying47 hi hz0 hz1 _ _ _ _ l0.length rfl rfl rfl rfl (by rw [hz2]; omega) (by unfold maxLen; omega) (by simp) ?_; intro w1 hown1 hgrow1)
      have hmap1 : HMap.MapIs Try.prog 9 3 strK w1 w.heap.size 0 (fun _ => none) := (HMap.MapIs.made w _ _ _ _).kept hgrow1 (by simp)
      have hI : DepInv l0 w w1 w.heap.size (w.heap.size + 1) 0 := ⟨⟨_, hmap1, fun s => ⟨fun h => by simp at h, fun ⟨j, h0, h1, _⟩ => by omega⟩⟩, by
        obtain ⟨cur, hc1, hc2, hc3⟩ := arr_of_own (g := w.heap.size + 1) (by simpa using hown1)
        exact ⟨cur, hc1, hc2, fun j h0 h1 => by rw [hc3 j h0 h1]; show _ = some (Value.int .i64 (if j < 0 then deepAt l0 j else 0)); rw [if_neg (by omega)]⟩, fun j h0 h1 => by omega, Below.grown (below_alloc (Below.refl w.heap.size w) (.map #[] 0)) hgrow1 (by simp) (fun j hj => by cases hj), Nat.le_refl _, by omega⟩
      have HI := Aside0.mk hI
      clear hI hmap1 hown1 hgrow1
      go_loopw [25] (fun v wr => ∃ i : Int, 0 ≤ i ∧ i ≤ (l0.length : Int) ∧ v = .int .i64 i ∧ Aside0 (DepInv l0 w wr w.heap.size (w.heap.size + 1) i)) (fun v _ => (l0.length - (intOf v).toNat))
      case atStart => exact ⟨0, by omega, by omega, rfl, HI⟩
      case round =>
        clear HI
        obtain ⟨i, hi0, hi1, rfl, HI⟩ := hrel
        by_cases hlt : i < (l0.length : Int)
        · obtain ⟨f, hf1, hf2⟩ := HI.out.map
          have HF := Aside0.mk hf1
          have HF2 := Aside0.mk hf2
          clear hf1 hf2
          obtain ⟨ad, e0, x0, x1, x2⟩ := at_T43 (Kd.C_below H0.out HI.out.bel) i hi0 hlt
          cases e0
          have HK := Aside0.mk (show strK.ok (code l0 i) from all_at (z := z43) (p := fun x => x.f0.size ≤ maxLen) hi0 hlt HS.out)
          have HWI := Aside0.mk (wf_of (n := i) (by omega))
          have hgm : w.heap.size < wr.heap.size := HF.out.lt
          obtain ⟨cur, hc1, hc2, hc3⟩ := HI.out.arr
          have HC1 := Aside0.mk hc1
          have HC3 := Aside0.mk hc3
          clear hc1 hc3
          have X := Aside0.mk (And.intro x0 (And.intro x1 x2))
          by_cases hfr : fresh l0 i
          · have hfs : (f (code l0 i)).isSome = false := by
              rw [Bool.eq_false_iff]
              intro h
              obtain ⟨j, h0, h1', h2'⟩ := (HF2.out _).1 h
              exact hfr j h0 h1' h2'
            have HFR := Aside0.mk hfr
            clear hfr
            go_wp2_with (at_lookup; refine HMap.wpList_look_ok (K := strK) (f := f) (b := w.heap.size) (n := i.toNat) rfl _ _ 116 rfl Try.underlying116 Try.underlying3 (zero3 _) rfl (by exact HF.out.alloc _) (code l0 i) rfl (by exact HK.out) ?_; intro c)
            refine (impl_NameOk.to (code l0 i) _).mono ?_
            rintro e w' ⟨rfl, rfl⟩
            cases hnm : nameOk (code l0 i) with
            | false =>
              go_wp2_with fail
              go_ret2
              exact ⟨_, dep_ret (by rw [chartOk_row hi0 hlt (fun q => by have := q.2.1; rw [hnm] at this; cases this)]), below_alloc HI.out.bel _⟩
            | true =>
              have HNM := Aside0.mk hnm
              clear hnm hfs
              go_wp2_with fail
              refine (impl_kindOk.to (knd l0 i) _).mono ?_
              rintro e w' ⟨rfl, rfl⟩
              cases hkd : inB (knd l0 i) 1 5 with
              | false =>
                go_wp2_with fail
                go_ret2
                exact ⟨_, dep_ret (by rw [chartOk_row hi0 hlt (fun q => inB_false.1 hkd q.2.2.1)]), below_alloc HI.out.bel _⟩
              | true =>
                have HKD := Aside0.mk hkd
                clear hkd
                by_cases hp : par l0 i = -1
                · have hpb : ((rd_T43 l0 i).f1 == -1) = true := by rw [show (rd_T43 l0 i).f1 = -1 from hp]; rfl
                  have HP := Aside0.mk hp
                  clear hp
                  go_wp2_with (at_mapUpdate; refine HMap.wpList_upd (K := strK) (f := f) (b := w.heap.size) (n := i.toNat) rfl _ _ _ 116 rfl Try.underlying116 Try.underlying3 rfl (by exact HF.out.alloc _) (by unfold maxLen; omega) (code l0 i) i rfl (by exact HK.out) rfl (by exact HWI.out) ?_; intro w2 hm2 hg2; have hb2 := wr_var (wr := wr) hg2 (by omega); have y0 := blk_cell hb2 0; have y1 := blk_cell hb2 1; have y2 := blk_cell hb2 2)
                  go_roundw
                  case rel => exact ⟨i + 1, by omega, by omega, rfl, ⟨dep_next HI.out hm2 HF2.out (Below.grown (below_alloc HI.out.bel _) hg2 (below_alloc HI.out.bel _).size (fun j hj => by cases hj; exact Nat.le_refl _)) ⟨cur, dep_blk hg2 (by omega) HC1.out trivial, hc2, fun j j0 j1 => dep_zero' HC3.out HP.out j j0 j1⟩ hi0 ⟨HFR.out, HNM.out, inB_true.1 HKD.out, Or.inl HP.out⟩⟩⟩
                  case measure => simp [intOf]; omega
                · have hpb : ((rd_T43 l0 i).f1 == -1) = false := beq_eq_false_iff_ne.2 hp
                  have HP := Aside0.mk hp
                  clear hp
                  go_wp2_with (at_mapUpdate; refine HMap.wpList_upd (K := strK) (f := f) (b := w.heap.size) (n := i.toNat) rfl _ _ _ 116 rfl Try.underlying116 Try.underlying3 rfl (by exact HF.out.alloc _) (by unfold maxLen; omega) (code l0 i) i rfl (by exact HK.out) rfl (by exact HWI.out) ?_; intro w2 hm2 hg2; have hb2 := wr_var (wr := wr) hg2 (by omega); have y0 := blk_cell hb2 0; have y1 := blk_cell hb2 1; have y2 := blk_cell hb2 2)
                  have HB2 := Aside0.mk (Below.grown (below_alloc HI.out.bel (.cells #[.string (rd_T43 l0 i).f0, .int .i64 (rd_T43 l0 i).f1, .int .i64 (rd_T43 l0 i).f2] 43)) hg2 (below_alloc HI.out.bel _).size (fun j hj => by cases hj; exact Nat.le_refl _))
                  have HD := Aside0.mk (dep_blk hg2 (by omega) HC1.out trivial)
                  have HM2 := Aside0.mk hm2
                  have hlo := Aside0.mk (rows_lo HI.out.rows)
                  have hpar := Aside0.mk (rows_par HI.out.rows)
                  clear hm2 hg2
                  go_loop [10] (fun v => ∃ k : Int, -1 ≤ k ∧ k < i ∧ v = .int .i64 k ∧ Aside0 (∀ n : Nat, k + 1 ≤ n → climb l0 (par l0 i) n k = up l0 i)) (fun v => (intOf v + 1).toNat)
                  case atStart => exact ⟨i - 1, by omega, by omega, rfl, ⟨fun n hn => climb_more l0 (par l0 i) i hpar.out _ _ _ (by omega) hn (by omega)⟩⟩
                  case round =>
                    obtain ⟨k, hk0, hk1, rfl, HCL⟩ := hrel
                    by_cases hk : 0 ≤ k
                    · obtain ⟨ad', e0, z0, z1, z2⟩ := at_T43 (Kd.C_below H0.out HB2.out) k hk (by omega)
                      obtain rfl : ad = ad' := by injection e0
                      by_cases hkp : k = par l0 i
                      · have hkb : (k != (rd_T43 l0 i).f1) = false := by rw [hkp]; exact bne_self_eq_false' _
                        have HU := Aside0.mk (climb_at (fun q => q.2 hkp) HCL.out)
                        clear hkp
                        have hkl : k < (l0.length : Int) := by omega
                        have hd := blk_cell HD.out k.toNat
                        rw [HC3.out k hk (by omega), if_pos hk1] at hd
                        by_cases hkd : knd l0 k = knd l0 i
                        · have hkdb : ((rd_T43 l0 k).f2 != (rd_T43 l0 i).f2) = false := by rw [show (rd_T43 l0 k).f2 = (rd_T43 l0 i).f2 from hkd]; exact bne_self_eq_false' _
                          have HKE := Aside0.mk hkd
                          clear hkd
                          by_cases hde : 8 ≤ deepAt l0 k
                          · go_wp2_with fail
                            go_quiet (fail)
                            go_wp2_with fail
                            go_ret2
                            exact ⟨_, dep_ret (by rw [chartOk_row hi0 hlt (fun q => by rcases q.2.2.2 with q | ⟨_, _, q⟩; exact HP.out q; rw [HU.out] at q; omega)]), pw_below_drewN HB2.out _⟩
                          · have hs := blk_cell HD.out i.toNat
                            rw [HC3.out i hi0 hlt, if_neg (by omega)] at hs
                            have hfz := blk_frozen HD.out i.toNat
                            have hd0 : 0 ≤ deepAt l0 k := anc_nonneg _ _ _
                            go_wp2_with fail
                            go_quiet (fail)
                            go_wp2_with fail
                            go_roundw
                            case rel => exact ⟨i + 1, by omega, by omega, rfl, ⟨dep_next HI.out ((HM2.out.drewN _).far (by simp) _) HF2.out (below_set (pw_below_drewN HB2.out _) (by simp)) ⟨_, blk_set (blk_drewN HD.out _) _ _, by simpa using hc2, fun j j0 j1 => dep_set HC3.out hi0 (by omega) (by rw [← HU.out]; exact deep_up HI.out.rows hi0 (by rw [HU.out]; exact hk)) j j0 j1⟩ hi0 ⟨HFR.out, HNM.out, inB_true.1 HKD.out, Or.inr ⟨by rw [HU.out]; exact hk, by rw [HU.out]; exact HKE.out, by rw [HU.out]; omega⟩⟩⟩⟩
                            case measure => simp [intOf]; omega
                        · have hkdb : ((rd_T43 l0 k).f2 != (rd_T43 l0 i).f2) = true := bne_iff_ne.2 hkd
                          have HKE := Aside0.mk hkd
                          clear hkd
                          go_wp2_with fail
                          go_quiet (fail)
                          go_wp2_with fail
                          go_ret2
                          exact ⟨_, dep_ret (by rw [chartOk_row hi0 hlt (fun q => by rcases q.2.2.2 with q | ⟨_, q, _⟩; exact HP.out q; rw [HU.out] at q; exact HKE.out q)]), pw_below_drewN HB2.out _⟩
                      · have hkb : (k != (rd_T43 l0 i).f1) = true := bne_iff_ne.2 hkp
                        have HKP := Aside0.mk hkp
                        clear hkp
                        have b1 := hlo.out k hk (by omega)
                        have b2 := hpar.out k hk (by omega)
                        go_wp2_with fail
                        go_round
                        case rel => exact ⟨par l0 k, b1, by omega, rfl, ⟨climb_go hpar.out hk hk1 HKP.out HCL.out⟩⟩
                        case measure => show (par l0 k + 1).toNat < (k + 1).toNat; omega
                    · have HU := Aside0.mk (climb_at (fun q => hk q.1) HCL.out)
                      go_wp2_with fail
                      go_quiet (fail)
                      go_wp2_with fail
                      go_ret2
                      exact ⟨_, dep_ret (by rw [chartOk_row hi0 hlt (fun q => by rcases q.2.2.2 with q | ⟨q, _⟩; exact HP.out q; rw [HU.out] at q; omega)]), pw_below_drewN HB2.out _⟩
          · have hfs : (f (code l0 i)).isSome = true := by
              rw [HF2.out]
              unfold fresh at hfr
              simp only [Classical.not_forall] at hfr
              obtain ⟨j, h0, h1', h2'⟩ := hfr
              exact ⟨j, h0, h1', Classical.not_not.1 h2'⟩
            go_wp2_with (at_lookup; refine HMap.wpList_look_ok (K := strK) (f := f) (b := w.heap.size) (n := i.toNat) rfl _ _ 116 rfl Try.underlying116 Try.underlying3 (zero3 _) rfl (by exact HF.out.alloc _) (code l0 i) rfl (by exact HK.out) ?_; intro c)
            go_ret2
            exact ⟨_, dep_ret (by rw [chartOk_row hi0 hlt (fun q => hfr q.1)]), below_alloc HI.out.bel _⟩
        · go_wp2_with fail
          go_ret2
          exact ⟨_, dep_ret (by rw [chartOk_all h1 h2 (by omega) HI.out.rows]), HI.out.bel⟩
    · go_enter Try.func68, Try.ntmps68
      go_wp2_with fail
      go_ret2
      exact ⟨_, dep_ret (by rw [chartOk_len (by omega)]), Below.refl _ _⟩
  · go_enter Try.func68, Try.ntmps68
    go_wp2_with fail
    go_ret2
    exact ⟨_, dep_ret (by rw [chartOk_len (by omega)]), Below.refl _ _⟩
end Go.Proofs.Ytjnibbkjoclboaa.Q
