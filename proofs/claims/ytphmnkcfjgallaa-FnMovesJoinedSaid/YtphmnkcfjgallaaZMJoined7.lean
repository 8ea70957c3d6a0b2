/- Parts of the proof: what functions of the program and of the reference answer.
   No condition. -/
import Derived.Test.YtphmnkcfjgallaaZMJoined1
import Derived.Test.YtphmnkcfjgallaaZMJoined4
import Derived.BigRegion
import Derived.Test.YtphmnkcfjgallaaZMJoined3
import Derived.Test.YtphmnkcfjgallaaZMJoined5
namespace Go.Proofs.Ytphmnkcfjgallaa.Q
open Go.RowKit Go.Proofs.YtphmnkcfjgallaaW.PrintWords Go.Proofs.YtphmnkcfjgallaaW.PrintLast Go.Proofs.YtphmnkcfjgallaaW.PrintMore
attribute [local go_sem] max2_int min2_int max_two min_two max_three min_three max_four min_four   -- for this text's walks alone
set_option linter.unusedVariables false
set_option linter.unusedSimpArgs false
theorem int_seg {W : World} {base g n cap : Nat} {ok : Nat → Prop} {xs : List Int} (h : (Kd.int .i64).R 3 W base ok (.slice (some ⟨g, 0, none⟩) n cap) xs) (i : Int) (h0 : 0 ≤ i) (h1 : i < n) (v : Int) :
    (Kd.int .i64).R 3 (W.setCell ⟨g, i.toNat, none⟩ (.int .i64 v)) base ok (.slice (some ⟨g, 0, none⟩) n cap) (xs.set i.toNat v) := by
  obtain ⟨c, hcl, hM, hcc, _⟩ := Kd.R_elem h 0 i h0 h1
  have := (Kd.R_seg h i h0 h1 (c := c) (seg := [.int .i64 v]) (j := 0) (x' := v) (okp := fun _ => False) hcl hcc (Nat.le_refl _) (by
    have hl : c.length = 1 := hcl
    match c, hl with
    | [u], _ => rfl) (fun _ hk => hk.elim)).1
  rw [show (Kd.int .i64).sz = 1 from rfl, Nat.mul_one, Nat.add_zero] at this
  exact this
theorem int_get {W : World} {base g n cap : Nat} {ok : Nat → Prop} {xs : List Int} (h : (Kd.int .i64).R 3 W base ok (.slice (some ⟨g, 0, none⟩) n cap) xs) (i : Int) (h0 : 0 ≤ i) (h1 : i < n) :
    W.cell? ⟨g, i.toNat, none⟩ = some (.int .i64 (rd xs i)) ∧ W.frozen? ⟨g, i.toNat, none⟩ = false := by
  obtain ⟨c, hcl, hM, hcc, hfr⟩ := Kd.R_elem h 0 i h0 h1
  have e : c = [.int .i64 (xs.getD i.toNat 0)] := hM
  subst e
  have a := hcc 0 _ rfl
  have b := hfr 0
  rw [show (Kd.int .i64).sz = 1 from rfl, Nat.mul_one, Nat.add_zero] at a b
  exact ⟨a, b⟩
set_option maxHeartbeats 16000000 in
set_option maxRecDepth 100000 in
theorem impl_bases.to (N : Nat) (A : Option Addr) (c : Nat) (es : List Ent) (h d fr tt : Int) (w : World) (hr : Kd.C k34 w A es.length es) (q : basesP N es) :
    Calls Try.prog 95 #[.int .i64 N, .agg #[.slice A es.length c, .int .i64 h], .int .i64 d, .int .i64 fr, .int .i64 tt] w fun e w' => ∃ v0_ : Value, e = .returned v0_ ∧ Kd.R (Kd.int .i64) 3 w' w.heap.size (fun _ => True) v0_ (mapN N (fun a => basV a d (-1) fr tt es)) ∧ Below w.heap.size w w' := by
  obtain ⟨q0, q1, q2, q3, q4⟩ := q
  have HR := Aside0.mk hr
  have Q3 := Aside0.mk q3
  have Q4 := Aside0.mk q4
  have hT : ∃ T : Nat → Int, T = fun (a : Nat) => basV (a : Int) d (-1) fr tt es := ⟨_, rfl⟩
  obtain ⟨T, hT⟩ := hT
  rw [← hT]
  have HTT := Aside0.mk hT
  clear hr q3 q4 hT
  go_enter Try.func95, Try.ntmps95
  go_wp2_with ((with_reducible refine gate_dst (N := 17) rfl ?_); refine Kd.R_make (Kd.int .i64) _ 3 rfl (N := 17) rfl 46 _ _ rfl (N : Int) rfl rfl Try.underlying46 (.int .i64 0) 8 info3 rfl (by decide) (by omega) 0 (ok := fun _ => True) (okp := fun _ => True) rfl (fun _ hk => hk) trivial (by omega) (by simp; omega) (Below.refl _ _) (Nat.le_refl _) ?_; intro v1 w1 ho hb hg hnew; have f0 : w1.cell? ⟨w.heap.size, 0, none⟩ = some (.slice A es.length c) := pw_cell_below hb (by go_simp); have HB := Aside0.mk (below_into (w := w) hb (below_alloc (Below.refl _ _) _)); have HO := Aside0.mk (Kd.R_lower ho (base' := w.heap.size) (by simp)); obtain ⟨g, cap, e1, hg0, hg1, _⟩ := Kd.R_form HO.out (by simp; omega); subst e1; clear ho hb hg hnew hg1)
  rw [show (List.replicate ((N : Int)).toNat (0 : Int)) = mapN N (fun _ => 0) from (by rw [Int.toNat_natCast]; exact mapN_zero N)] at HO
  rw [mapN_len] at HO
  go_loopw [21] (fun v wr => ∃ i : Int, 0 ≤ i ∧ i ≤ (es.length : Int) ∧ v = .int .i64 i ∧ Aside0 (Below w.heap.size w wr) ∧ Aside0 (∃ G : Nat → Int, (∀ a, G a + basV (a : Int) d (-1) fr tt (es.drop i.toNat) = T a) ∧ Kd.R (Kd.int .i64) 3 wr w.heap.size (fun _ => True) (.slice (some ⟨g, 0, none⟩) N cap) (mapN N G))) (fun v _ => (es.length - (intOf v).toNat))
  case atStart => exact ⟨0, by omega, by omega, rfl, HB, ⟨fun _ => 0, fun a => by rw [HTT.out]; simp, HO.out⟩⟩
  case round =>
    clear HB HO f0
    obtain ⟨i, hi0, hi1, rfl, HB, HG⟩ := hrel
    by_cases hlt : i < (es.length : Int)
    · obtain ⟨ad, A3, c3, e0, x0, x1, x2, x3, x4, x5⟩ := at_T34 HR.out i hi0 hlt
      cases e0
      replace x0 := pw_cell_below HB.out x0
      replace x1 := pw_cell_below HB.out x1
      replace x2 := pw_cell_below HB.out x2
      replace x3 := pw_cell_below HB.out x3
      have X5 := Aside0.mk x5
      have XL := Aside0.mk x4
      have hl3 : (rd_T34 es i).f3.length ≤ 60 := (all_at (z := z34) (p := entFine) hi0 hlt Q3.out).1
      have HF := Aside0.mk (show ∀ x ∈ (rd_T34 es i).f3, lineFine x from (all_at (z := z34) (p := entFine) hi0 hlt Q3.out).2)
      have HA := Aside0.mk (show ∀ x ∈ (rd_T34 es i).f3, 0 ≤ x.f0 ∧ x.f0 < (N : Int) from all_at (z := z34) (p := fun e => ∀ x ∈ e.f3, 0 ≤ x.f0 ∧ x.f0 < (N : Int)) hi0 hlt Q4.out)
      have HD := Aside0.mk (drop_at (l := es) (z := z34) hi0 hlt)
      clear x5 x4
      generalize hy0 : (rd_T34 es i).f0 = day at *
      generalize hy3 : (rd_T34 es i).f3 = ls at *
      have HY0 := Aside0.mk hy0
      have HY3 := Aside0.mk hy3
      clear hy0 hy3
      have HBX := Aside0.mk (below_alloc HB.out (.cells #[.int .i64 day, .int .i64 (rd_T34 es i).f1, .string (rd_T34 es i).f2, .slice A3 ls.length c3] 34))
      have HSK := Aside0.mk (show inB day fr tt = false → ∀ G : Nat → Int, (∀ a, G a + basV (a : Int) d (-1) fr tt (es.drop i.toNat) = T a) → ∀ a, G a + basV (a : Int) d (-1) fr tt (es.drop (i + 1).toNat) = T a from fun hn G hG a => by
        rw [← hG a, HD.out]
        show _ = G a + ((if inB (rd_T34 es i).f0 fr tt = true then basL a d (-1) (rd_T34 es i).f3 else 0) + basV (a : Int) d (-1) fr tt (es.drop (i + 1).toNat))
        rw [HY0.out, hn]
        simp)
      have HGO := Aside0.mk (show inB day fr tt = true → ∀ G : Nat → Int, (∀ a, G a + basV (a : Int) d (-1) fr tt (es.drop i.toNat) = T a) → ∀ a, G a + basL (a : Int) d (-1) ls + basV (a : Int) d (-1) fr tt (es.drop (i + 1).toNat) = T a from fun hn G hG a => by
        rw [← hG a, HD.out]
        show _ = G a + ((if inB (rd_T34 es i).f0 fr tt = true then basL a d (-1) (rd_T34 es i).f3 else 0) + basV (a : Int) d (-1) fr tt (es.drop (i + 1).toNat))
        rw [HY0.out, hn, HY3.out]
        simp
        omega)
      have HBD := Aside0.mk (show ∀ (G : Nat → Int) (m : List Lin), (∀ x ∈ m, lineFine x) → m.length ≤ 60 → (∀ a, G a + basL (a : Int) d (-1) m + basV (a : Int) d (-1) fr tt (es.drop (i + 1).toNat) = T a) → ∀ a, -100000000000000000 ≤ G a ∧ G a ≤ 100000000000000000 from fun G m hm hml hG a => by
        have t1 := basV_b (a : Int) d (-1) fr tt es Q3.out
        have t2 := basV_b (a : Int) d (-1) fr tt (es.drop (i + 1).toNat) (fun e he => Q3.out e (List.mem_of_mem_drop he))
        have t3 := basL_b (a : Int) d (-1) m hm
        have t4 := hG a
        rw [HTT.out] at t4
        have t5 : (es.drop (i + 1).toNat).length ≤ 1000 := by rw [List.length_drop]; omega
        simp only at t4
        constructor <;> omega)
      by_cases h1 : day < fr
      · have h1b : decide (day < fr) = true := decide_eq_true h1
        go_wp2_with fail
        go_roundw
        case rel =>
          obtain ⟨G, g1, g2⟩ := HG.out
          exact ⟨i + 1, by omega, by omega, rfl, HBX, ⟨G, HSK.out (inB_not (by omega)) G g1, Kd.R_alloc g2 _⟩⟩
        case measure => simp [intOf]; omega
      · have h1b : decide (day < fr) = false := decide_eq_false h1
        by_cases h2 : tt < day
        · have h2b : decide (tt < day) = true := decide_eq_true h2
          go_wp2_with fail
          go_roundw
          case rel =>
            obtain ⟨G, g1, g2⟩ := HG.out
            exact ⟨i + 1, by omega, by omega, rfl, HBX, ⟨G, HSK.out (inB_not (by omega)) G g1, Kd.R_alloc g2 _⟩⟩
          case measure => simp [intOf]; omega
        · have h2b : decide (tt < day) = false := decide_eq_false h2
          obtain ⟨G, g1, g2⟩ := HG.out
          have HG1 := Aside0.mk (HGO.out (inB_of ⟨by omega, by omega⟩) G g1)
          have HR1 := Aside0.mk (Kd.R_alloc g2 (.cells #[.int .i64 day, .int .i64 (rd_T34 es i).f1, .string (rd_T34 es i).f2, .slice A3 ls.length c3] 34))
          clear HG g1 g2 HSK HGO
          go_wp2_with fail
          go_loopw [38] (fun v wq => ∃ j : Int, 0 ≤ j ∧ j ≤ (ls.length : Int) ∧ v = .int .i64 j ∧ Aside0 (Below w.heap.size w wq) ∧ Aside0 (∃ G : Nat → Int, (∀ a, G a + basL (a : Int) d (-1) (ls.drop j.toNat) + basV (a : Int) d (-1) fr tt (es.drop (i + 1).toNat) = T a) ∧ Kd.R (Kd.int .i64) 3 wq w.heap.size (fun _ => True) (.slice (some ⟨g, 0, none⟩) N cap) (mapN N G))) (fun v _ => (ls.length - (intOf v).toNat))
          case atStart => exact ⟨0, by omega, by omega, rfl, HBX, ⟨G, fun a => by simpa using HG1.out a, HR1.out⟩⟩
          case round =>
            clear HB HBX HR1 HG1
            obtain ⟨j, hj0, hj1, rfl, HB, HG⟩ := hrel
            by_cases hlj : j < (ls.length : Int)
            · obtain ⟨ad, e0, y0, y1, y2, y3, y4⟩ := at_T112 (Kd.C_below X5.out HB.out) j hj0 hlj
              cases e0
              have HLF := Aside0.mk (all_at (z := z112) (p := lineFine) hj0 hlj HF.out)
              have HLA := all_at (z := z112) (p := fun x => 0 ≤ x.f0 ∧ x.f0 < (N : Int)) hj0 hlj HA.out
              have z0 : 0 ≤ (rd_T112 ls j).f0 := HLA.1
              have z1 : (rd_T112 ls j).f0 < (N : Int) := HLA.2
              have HLD := Aside0.mk (drop_at (l := ls) (z := z112) hj0 hlj)
              have HPB := Aside0.mk (show -100000000000 ≤ (rd_T112 ls j).f4 ∧ (rd_T112 ls j).f4 ≤ 100000000000 from HLF.out.2)
              obtain ⟨G, g1, g2⟩ := HG.out
              have HGB := Aside0.mk (HBD.out G (ls.drop j.toNat) (fun x hx => HF.out x (List.mem_of_mem_drop hx)) (by rw [List.length_drop]; omega) g1)
              have HSL := Aside0.mk (show ∀ s : Bool, (∀ b : Nat, selL (b : Int) d (-1) (rd_T112 ls j) = (decide (b = (rd_T112 ls j).f0.toNat) && s)) → ∀ a : Nat, (if s = true then (if a = (rd_T112 ls j).f0.toNat then G (rd_T112 ls j).f0.toNat + (rd_T112 ls j).f4 else G a) else G a) + basL (a : Int) d (-1) (ls.drop (j + 1).toNat) + basV (a : Int) d (-1) fr tt (es.drop (i + 1).toNat) = T a from fun s hs a => by
                rw [← g1 a, HLD.out]
                show _ = G a + ((if selL (a : Int) d (-1) (rd_T112 ls j) = true then (rd_T112 ls j).f4 else 0) + basL (a : Int) d (-1) (ls.drop (j + 1).toNat)) + basV (a : Int) d (-1) fr tt (es.drop (i + 1).toNat)
                rw [hs a]
                cases s <;> by_cases e : a = (rd_T112 ls j).f0.toNat <;> simp [e] <;> omega)
              obtain ⟨k0, k1⟩ := int_get g2 _ z0 z1
              rw [mapN_rd z0 z1] at k0
              have HR2 := Aside0.mk g2
              have HSE := Aside0.mk (fun b : Nat => selL_acc (a := b) (d := d) (x := rd_T112 ls j) z0)
              clear HG g1 g2
              have HBX := Aside0.mk (below_alloc HB.out (.cells #[.int .i64 (rd_T112 ls j).f0, .int .i64 (rd_T112 ls j).f1, .int .i64 (rd_T112 ls j).f2, .int .i64 (rd_T112 ls j).f3, .int .i64 (rd_T112 ls j).f4] 112))
              have b0 := (HGB.out (rd_T112 ls j).f0.toNat).1
              have b1 := (HGB.out (rd_T112 ls j).f0.toNat).2
              have b2 := HPB.out.1
              have b3 := HPB.out.2
              generalize hp0 : (rd_T112 ls j).f0 = p0 at *
              generalize hp1 : (rd_T112 ls j).f1 = p1 at *
              generalize hp4 : (rd_T112 ls j).f4 = p4 at *
              generalize hgv : G p0.toNat = gv at *
              have PP := Aside0.mk (And.intro hp0 (And.intro hp1 (And.intro hp4 hgv)))
              clear hp0 hp1 hp4 hgv
              by_cases hd : d = -1
              · have hdb : (d == -1) = true := by rw [hd]; rfl
                have HD1 := Aside0.mk hd
                clear hd
                go_wp2_with fail
                have u0 : (wr.alloc (.cells #[.int .i64 p0, .int .i64 p1, .int .i64 (rd_T112 ls j).f2, .int .i64 (rd_T112 ls j).f3, .int .i64 p4] 112)).cell? ⟨wr.heap.size, 0, none⟩ = some (.int .i64 p0) := by go_simp
                have u4 : (wr.alloc (.cells #[.int .i64 p0, .int .i64 p1, .int .i64 (rd_T112 ls j).f2, .int .i64 (rd_T112 ls j).f3, .int .i64 p4] 112)).cell? ⟨wr.heap.size, 4, none⟩ = some (.int .i64 p4) := by go_simp
                have hbl := below_alloc (Below.refl wr.heap.size wr) (.cells #[.int .i64 p0, .int .i64 p1, .int .i64 (rd_T112 ls j).f2, .int .i64 (rd_T112 ls j).f3, .int .i64 p4] 112)
                replace k0 := pw_cell_below hbl k0
                replace HR2 := Aside0.mk (Kd.R_below HR2.out hbl)
                clear hbl
                replace k1 := (int_get HR2.out _ z0 z1).2
                generalize wr.alloc (.cells #[.int .i64 p0, .int .i64 p1, .int .i64 (rd_T112 ls j).f2, .int .i64 (rd_T112 ls j).f3, .int .i64 p4] 112) = wq at *
                generalize wr.heap.size = gx at *
                go_region
                go_wp2_with fail
                go_roundw
                case rel => exact ⟨j + 1, by omega, by omega, rfl, ⟨pw_below_drewN (below_set HBX.out hg0) 1⟩, ⟨_, by have := HSL.out true (fun b => by rw [HSE.out b]; simp [HD1.out]); simpa using this, by have := int_seg HR2.out _ z0 z1 (gv + p4); rw [mapN_set] at this; exact Kd.R_drew this⟩⟩
                case measure => simp [intOf]; omega
              · have hdb : (d == -1) = false := beq_eq_false_iff_ne.2 hd
                have HD1 := Aside0.mk hd
                clear hd
                by_cases hq : p1 = d
                · have hqb : (p1 == d) = true := by rw [hq]; exact beq_self_eq_true' _
                  have HD2 := Aside0.mk hq
                  clear hq
                  go_wp2_with fail
                  have u0 : (wr.alloc (.cells #[.int .i64 p0, .int .i64 p1, .int .i64 (rd_T112 ls j).f2, .int .i64 (rd_T112 ls j).f3, .int .i64 p4] 112)).cell? ⟨wr.heap.size, 0, none⟩ = some (.int .i64 p0) := by go_simp
                  have u4 : (wr.alloc (.cells #[.int .i64 p0, .int .i64 p1, .int .i64 (rd_T112 ls j).f2, .int .i64 (rd_T112 ls j).f3, .int .i64 p4] 112)).cell? ⟨wr.heap.size, 4, none⟩ = some (.int .i64 p4) := by go_simp
                  have hbl := below_alloc (Below.refl wr.heap.size wr) (.cells #[.int .i64 p0, .int .i64 p1, .int .i64 (rd_T112 ls j).f2, .int .i64 (rd_T112 ls j).f3, .int .i64 p4] 112)
                  replace k0 := pw_cell_below hbl k0
                  replace HR2 := Aside0.mk (Kd.R_below HR2.out hbl)
                  clear hbl
                  replace k1 := (int_get HR2.out _ z0 z1).2
                  generalize wr.alloc (.cells #[.int .i64 p0, .int .i64 p1, .int .i64 (rd_T112 ls j).f2, .int .i64 (rd_T112 ls j).f3, .int .i64 p4] 112) = wq at *
                  generalize wr.heap.size = gx at *
                  go_region
                  go_wp2_with fail
                  go_roundw
                  case rel => exact ⟨j + 1, by omega, by omega, rfl, ⟨pw_below_drewN (below_set HBX.out hg0) 1⟩, ⟨_, by have := HSL.out true (fun b => by rw [HSE.out b]; simp [HD2.out]); simpa using this, by have := int_seg HR2.out _ z0 z1 (gv + p4); rw [mapN_set] at this; exact Kd.R_drew this⟩⟩
                  case measure => simp [intOf]; omega
                · have hqb : (p1 == d) = false := beq_eq_false_iff_ne.2 hq
                  have HD2 := Aside0.mk hq
                  clear hq
                  go_wp2_with fail
                  go_roundw
                  case rel => exact ⟨j + 1, by omega, by omega, rfl, HBX, ⟨G, by have := HSL.out false (fun b => by rw [HSE.out b]; simp [HD1.out, HD2.out]); simpa using this, Kd.R_alloc HR2.out _⟩⟩
                  case measure => simp [intOf]; omega
            · go_wp2_with fail
              go_roundw
              case rel =>
                obtain ⟨G, g1, g2⟩ := HG.out
                exact ⟨i + 1, by omega, by omega, rfl, HB, ⟨G, fun a => by have := g1 a; rw [List.drop_of_length_le (by omega)] at this; simpa [basL] using this, g2⟩⟩
              case measure => simp [intOf]; omega
    · go_wp2_with fail
      go_ret
      obtain ⟨G, g1, g2⟩ := HG.out
      rw [show mapN N G = mapN N T from mapN_congr (fun a _ => by have := g1 a; rw [List.drop_of_length_le (by omega)] at this; simpa [basV] using this)] at g2
      exact ⟨_, rfl, g2, HB.out⟩
end Go.Proofs.Ytphmnkcfjgallaa.Q
namespace Go.Proofs.Ytphmnkcfjgallaa.Q
open Go.RowKit Go.Proofs.YtphmnkcfjgallaaW.PrintWords Go.Proofs.YtphmnkcfjgallaaW.PrintLast Go.Proofs.YtphmnkcfjgallaaW.PrintMore
attribute [local go_sem] max2_int min2_int max_two min_two max_three min_three max_four min_four   -- for this text's walks alone
set_option linter.unusedVariables false
set_option linter.unusedSimpArgs false
end Go.Proofs.Ytphmnkcfjgallaa.Q
namespace Go.Proofs.Ytphmnkcfjgallaa.Q
open Go.RowKit Go.Proofs.YtphmnkcfjgallaaW.PrintWords Go.Proofs.YtphmnkcfjgallaaW.PrintLast Go.Proofs.YtphmnkcfjgallaaW.PrintMore
set_option linter.unusedVariables false
set_option linter.unusedSimpArgs false
theorem i64_and255 (n : Int) : Go.bits .and .i64 n 255 = n % 256 := by
  have h127 : (BitVec.ofInt 64 255).toNat = 2 ^ 8 - 1 := by decide
  have key : (BitVec.ofInt 64 n &&& BitVec.ofInt 64 255).toNat = (n % ((2 ^ 64 : Nat) : Int)).toNat % 2 ^ 8 := by
    rw [BitVec.toNat_and, BitVec.toNat_ofInt, h127, Nat.and_two_pow_sub_one_eq_mod]
  show IntKind.i64.wrap ((BitVec.ofInt 64 n &&& BitVec.ofInt 64 255).toNat : Nat) = n % 256
  rw [key, IntKind.wrap_i64]
  omega
theorem l1Byte_is (c : List Int) (i h : Int) (h0 : 0 ≤ i) (h1 : i ≤ (c.length : Int)) (hc : c.length ≤ 1048576) : ∃ r j h', spec_l1Byte.f c i h = some (r, j, h') ∧ (0 ≤ r ∧ r ≤ 255) ∧ 0 ≤ j ∧ j ≤ (c.length : Int) := by
  unfold spec_l1Byte.f
  by_cases q : i < (c.length : Int)
  · rw [if_pos q, if_pos h0]
    refine ⟨_, _, _, rfl, ?_, ?_⟩
    · rw [i64_and255]; omega
    · rw [show wrap64 (i + 1) = i + 1 by unfold wrap64; omega]; omega
  · rw [if_neg q]
    exact ⟨_, _, _, rfl, by rw [i64_and255]; omega, h0, h1⟩
theorem l1Below_is (c : List Int) (i h n : Int) (h0 : 0 ≤ i) (h1 : i ≤ (c.length : Int)) (hc : c.length ≤ 1048576) (hn : n ≤ 2147483648) : ∃ r j h', spec_l1Below.f c i h n = some (r, j, h') ∧ (0 ≤ r ∧ (0 < n → r < n) ∧ (n ≤ 0 → r = 0)) ∧ 0 ≤ j ∧ j ≤ (c.length : Int) := by
  unfold spec_l1Below.f
  by_cases q : n ≤ 0
  · rw [if_pos q]
    exact ⟨0, i, h, rfl, ⟨by omega, fun _ => by omega, fun _ => rfl⟩, h0, h1⟩
  · rw [if_neg q]
    by_cases q2 : n ≤ 256
    · rw [if_pos q2]
      obtain ⟨r, j, h', e, hr, hj⟩ := l1Byte_is c i h h0 h1 hc
      rw [e]
      simp only [Option.bind_some]
      rw [if_neg (by omega)]
      exact ⟨_, _, _, rfl, ⟨Int.tmod_nonneg _ hr.1, fun hp => Int.tmod_lt_of_pos _ hp, fun hp => absurd hp q⟩, hj⟩
    · rw [if_neg q2]
      obtain ⟨r, j, h', e, hr, hj⟩ := l1Byte_is c i h h0 h1 hc
      rw [e]
      simp only [Option.bind_some]
      obtain ⟨r1, j1, h1', e1, hr1, hj1⟩ := l1Byte_is c j h' hj.1 hj.2 hc
      rw [e1]
      simp only [Option.bind_some]
      obtain ⟨r2, j2, h2', e2, hr2, hj2⟩ := l1Byte_is c j1 h1' hj1.1 hj1.2 hc
      rw [e2]
      simp only [Option.bind_some]
      obtain ⟨r3, j3, h3', e3, hr3, hj3⟩ := l1Byte_is c j2 h2' hj2.1 hj2.2 hc
      rw [e3]
      simp only [Option.bind_some]
      rw [if_neg (by omega)]
      refine ⟨_, _, _, rfl, ⟨Int.tmod_nonneg _ ?_, fun hp => Int.tmod_lt_of_pos _ hp, fun hp => absurd hp q⟩, hj3⟩
      unfold wrap64
      omega
def Cur (w0 W : World) (g : Nat) (c : List Int) : Prop := ∃ i h, IsS159 w0 W g c i h ∧ 0 ≤ i ∧ i ≤ (c.length : Int)
structure Drew (w0 w w' : World) (g : Nat) (c : List Int) : Prop where
  cur : Cur w0 w' g c
  bel : Below w0.heap.size w0 w'
  keep : KeepBut w w' g none
theorem Cur.ge {w0 W : World} {g : Nat} {c : List Int} (h : Cur w0 W g c) : w0.heap.size ≤ g := by obtain ⟨_, _, h, _⟩ := h; exact h.ge
theorem Cur.lt {w0 W : World} {g : Nat} {c : List Int} (h : Cur w0 W g c) : g < W.heap.size := by obtain ⟨_, _, h, _⟩ := h; exact h.lt
theorem Cur.below {w0 W W1 : World} {g : Nat} {c : List Int} (h : Cur w0 W g c) (hw : Below W.heap.size W W1) : Cur w0 W1 g c := by obtain ⟨i, j, h, k⟩ := h; exact ⟨i, j, h.below hw, k⟩
theorem Cur.grown {w0 W W1 : World} {g : Nat} {c : List Int} {row : Option Nat} (h : Cur w0 W g c) (hw : W.grownBy W1 row) (hne : some g ≠ row) : Cur w0 W1 g c := by obtain ⟨i, j, h, k⟩ := h; exact ⟨i, j, h.grown hw hne, k⟩
theorem Cur.far {w0 W : World} {g : Nat} {c : List Int} {p : Addr} (h : Cur w0 W g c) (hne : g ≠ p.block) (u : Value) : Cur w0 (W.setCell p u) g c := by obtain ⟨i, j, h, k⟩ := h; exact ⟨i, j, h.far hne u, k⟩
theorem Cur.drewN {w0 W : World} {g : Nat} {c : List Int} (h : Cur w0 W g c) (m : Nat) : Cur w0 (W.drewN m) g c := by obtain ⟨i, j, h, k⟩ := h; exact ⟨i, j, h.drewN m, k⟩
theorem Cur.drew {w0 W : World} {g : Nat} {c : List Int} (h : Cur w0 W g c) : Cur w0 W.drew g c := by obtain ⟨i, j, h, k⟩ := h; exact ⟨i, j, h.drew, k⟩
theorem Cur.own_ne {w0 W : World} {g : Nat} {c : List Int} {α : Type} {d : Kd α} {e : Nat} {base : Nat} {ok : Nat → Prop} {v : Value} {xs : List α} (h : Cur w0 W g c) (ho : d.R e W base ok v xs) (ht : e ≠ 159) : some g ≠ v.ownBlock := by obtain ⟨i, j, h, k⟩ := h; exact h.own_ne ho ht
theorem Cur.apart {w0 W : World} {g : Nat} {c : List Int} {α : Type} {d : Kd α} {e : Nat} {base : Nat} {ok : Nat → Prop} {v : Value} {xs : List α} (h : Cur w0 W g c) (ho : d.R e W base ok v xs) (ht : ∀ q, q ∈ e :: d.E → q ≠ 159) : d.R e W base (fun k => ok k ∧ k ≠ g) v xs := by obtain ⟨i, j, h, k⟩ := h; exact h.apart ho ht
theorem Cur.apartS {w0 W : World} {g : Nat} {c : List Int} {α : Type} {d : Kd α} {e : Nat} {base : Nat} {ok : Nat → Prop} {v : Value} {xs : List α} (h : Cur w0 W g c) (ho : d.S e W base ok v xs) (ht : ∀ q, q ∈ e :: d.E → q ≠ 159) : d.S e W base (fun k => ok k ∧ k ≠ g) v xs := by obtain ⟨i, j, h, k⟩ := h; exact h.apartS ho ht
theorem KeepBut.thenK {w w1 w2 : World} {g : Nat} (h : KeepBut w w1 g none) (k : KeepBut w1 w2 g none) : KeepBut w w2 g none := h.trans k (.inl rfl)
theorem KeepBut.cell {w w1 : World} {g : Nat} (h : KeepBut w w1 g none) {p : Addr} {v : Value} (hc : w.cell? p = some v) (hne : p.block ≠ g) : w1.cell? p = some v :=
  (World.cell?_of_block (h.2 p.block (World.block_lt_of_cell? w p hc) hne (by simp))).trans hc
theorem spec_l1New_l0 (c : List Int) (hc : c.length ≤ 1048576) : ∀ (n k : Nat) (h i : Int), 0 ≤ i → 4000 ≤ i + n → n < k → ∃ h', spec_l1New.l0 k c h i = some (c, 0, h') := by
  intro n
  induction n with
  | zero =>
    intro k h i h0 hi hk
    obtain ⟨k, rfl⟩ : ∃ j, k = j + 1 := ⟨k - 1, by omega⟩
    simp only [spec_l1New.l0]
    by_cases q : i < (c.length : Int)
    · rw [if_pos q, if_neg (by omega)]; exact ⟨_, rfl⟩
    · rw [if_neg q]; exact ⟨_, rfl⟩
  | succ n ih =>
    intro k h i h0 hi hk
    obtain ⟨k, rfl⟩ : ∃ j, k = j + 1 := ⟨k - 1, by omega⟩
    simp only [spec_l1New.l0]
    by_cases q : i < (c.length : Int)
    · rw [if_pos q]
      by_cases q2 : i < 4000
      · rw [if_pos q2, if_pos h0, show wrap64 (i + 1) = i + 1 by unfold wrap64; omega]
        exact ih k _ _ (by omega) (by omega) (by omega)
      · rw [if_neg q2]; exact ⟨_, rfl⟩
    · rw [if_neg q]; exact ⟨_, rfl⟩
theorem spec_l1New.e (A0 : Option Addr) (c0 : Nat) (c : List Int) (w : World) (hr0 : Kd.C (Kd.int .u8) w A0 c.length c) (hc0 : c.length ≤ c0) (hl : c.length ≤ 1048576) :
    Calls Try.prog 68 #[.slice A0 c.length c0] w fun e w' => ∃ g : Nat, e = .returned (.pointer (some ⟨g, 0, none⟩)) ∧ Cur w w' g c ∧ Below w.heap.size w w' := by
  obtain ⟨h', e⟩ := spec_l1New_l0 c hl 4000 4001 (wrap64 (71933 + (c.length : Int))) 0 (by omega) (by omega) (by omega)
  refine (spec_l1New.calls 4001 A0 c0 c c 0 h' w w (Below.refl _ _) hr0 hc0 e).mono ?_
  rintro e w' ⟨g, he, hI, hB, _⟩
  exact ⟨g, he, ⟨0, h', hI, by omega, by omega⟩, hB⟩
section
variable {w0 w : World} {g : Nat} {c : List Int}
theorem spec_l1Below.e (n : Int) (hI : Cur w0 w g c) (hB : Below w0.heap.size w0 w) (hc : c.length ≤ 1048576) (hn : n ≤ 2147483648) :
    Calls Try.prog 72 #[.pointer (some ⟨g, 0, none⟩), .int .i64 n] w fun e w' => ∃ r : Int, e = .returned (.int .i64 r) ∧ (0 ≤ r ∧ (0 < n → r < n) ∧ (n ≤ 0 → r = 0)) ∧ Drew w0 w w' g c := by
  obtain ⟨i, h, hI, h0, h1⟩ := hI
  obtain ⟨r, j, h', e, hr, hj0, hj1⟩ := l1Below_is c i h n h0 h1 hc hn
  refine (spec_l1Below.calls g c i h n r j h' w0 w hI hB e).mono ?_
  rintro e w' ⟨he, hI', hB', hK⟩
  exact ⟨r, he, hr, ⟨⟨j, h', hI', hj0, hj1⟩, hB', hK⟩⟩
theorem spec_l1Once.e (n : Int) (hI : Cur w0 w g c) (hB : Below w0.heap.size w0 w) (hc : c.length ≤ 1048576) (hn : n ≤ 2147483648) :
    Calls Try.prog 128 #[.pointer (some ⟨g, 0, none⟩), .int .i64 n] w fun e w' => ∃ r : Bool, e = .returned (.bool r) ∧ Drew w0 w w' g c := by
  obtain ⟨i, h, hI, h0, h1⟩ := hI
  obtain ⟨r, j, h', e, hr, hj0, hj1⟩ := l1Below_is c i h n h0 h1 hc hn
  refine (spec_l1Once.calls g c i h n (r == 0) j h' w0 w hI hB (by unfold spec_l1Once.f; rw [e]; rfl)).mono ?_
  rintro e w' ⟨he, hI', hB', hK⟩
  exact ⟨_, he, ⟨⟨j, h', hI', hj0, hj1⟩, hB', hK⟩⟩
theorem spec_l1Pick.e (A1 : Option Addr) (c1 : Nat) (l1 : List ByteArray) (hI : Cur w0 w g c) (hB : Below w0.heap.size w0 w) (hc : c.length ≤ 1048576) (hr1 : Kd.C Kd.string w A1 l1.length l1) (hc1 : l1.length ≤ c1) (hf1 : ∀ ad, A1 = some ad → 0 < l1.length → ad.block ≠ g) (hl : 0 < l1.length) (hl2 : l1.length ≤ 1048576) :
    Calls Try.prog 132 #[.pointer (some ⟨g, 0, none⟩), .slice A1 l1.length c1] w fun e w' => ∃ r : ByteArray, e = .returned (.string r) ∧ r ∈ l1 ∧ Drew w0 w w' g c := by
  obtain ⟨i, h, hI, h0, h1⟩ := hI
  obtain ⟨r, j, h', e, ⟨hr0, hr1', _⟩, hj0, hj1⟩ := l1Below_is c i h (l1.length : Int) h0 h1 hc (by omega)
  have hr2 := hr1' (by omega)
  refine (spec_l1Pick.calls g c i h A1 c1 l1 (rdOf ByteArray.empty l1 r) j h' w0 w hI hB hr1 hc1 hf1 (by unfold spec_l1Pick.f; rw [e]; simp only [Option.bind_some]; rw [if_pos hr0, if_pos hr2])).mono ?_
  rintro e w' ⟨he, hI', hB', hK⟩
  exact ⟨_, he, by unfold rdOf; exact mem_at hr0 hr2, ⟨⟨j, h', hI', hj0, hj1⟩, hB', hK⟩⟩
theorem l1PickInt_is (c : List Int) (i h : Int) (l : List Int) (h0 : 0 ≤ i) (h1 : i ≤ (c.length : Int)) (hc : c.length ≤ 1048576) (hl : 0 < l.length) (hl2 : l.length ≤ 1048576) : ∃ r j h', spec_l1PickInt.f c i h l = some (r, j, h') ∧ r ∈ l ∧ 0 ≤ j ∧ j ≤ (c.length : Int) := by
  obtain ⟨r, j, h', e, ⟨hr0, hr1', _⟩, hj0, hj1⟩ := l1Below_is c i h (l.length : Int) h0 h1 hc (by omega)
  have hr2 := hr1' (by omega)
  exact ⟨rd l r, j, h', by unfold spec_l1PickInt.f; rw [e]; simp only [Option.bind_some]; rw [if_pos hr0, if_pos hr2], by unfold rd; exact mem_at hr0 hr2, hj0, hj1⟩
theorem spec_l1PickInt.e (A1 : Option Addr) (c1 : Nat) (l1 : List Int) (hI : Cur w0 w g c) (hB : Below w0.heap.size w0 w) (hc : c.length ≤ 1048576) (hr1 : Kd.C (Kd.int .i64) w A1 l1.length l1) (hc1 : l1.length ≤ c1) (hf1 : ∀ ad, A1 = some ad → 0 < l1.length → ad.block ≠ g) (hl : 0 < l1.length) (hl2 : l1.length ≤ 1048576) :
    Calls Try.prog 129 #[.pointer (some ⟨g, 0, none⟩), .slice A1 l1.length c1] w fun e w' => ∃ r : Int, e = .returned (.int .i64 r) ∧ r ∈ l1 ∧ Drew w0 w w' g c := by
  obtain ⟨i, h, hI, h0, h1⟩ := hI
  obtain ⟨r, j, h', e, hm, hj0, hj1⟩ := l1PickInt_is c i h l1 h0 h1 hc hl hl2
  refine (spec_l1PickInt.calls g c i h A1 c1 l1 r j h' w0 w hI hB hr1 hc1 hf1 e).mono ?_
  rintro e w' ⟨he, hI', hB', hK⟩
  exact ⟨_, he, hm, ⟨⟨j, h', hI', hj0, hj1⟩, hB', hK⟩⟩
theorem l1Spoil_is (c : List Int) (i h a : Int) (l : List Int) (h0 : 0 ≤ i) (h1 : i ≤ (c.length : Int)) (hc : c.length ≤ 1048576) (hl : 0 < l.length) (hl2 : l.length ≤ 1048576) : ∃ r j h', spec_l1Spoil.f c i h a l = some (r, j, h') ∧ (r = a ∨ r ∈ l) ∧ 0 ≤ j ∧ j ≤ (c.length : Int) := by
  obtain ⟨r, j, h', e, _, hj0, hj1⟩ := l1Below_is c i h 40 h0 h1 hc (by omega)
  unfold spec_l1Spoil.f spec_l1Once.f
  rw [e]
  simp only [Option.bind_some]
  by_cases q : (r == 0) = true
  · rw [if_pos q]
    obtain ⟨r2, j2, h2', e2, hm, hj⟩ := l1PickInt_is c j h' l hj0 hj1 hc hl hl2
    rw [e2]
    exact ⟨_, _, _, rfl, .inr hm, hj⟩
  · rw [if_neg q]
    exact ⟨_, _, _, rfl, .inl rfl, hj0, hj1⟩
theorem spec_l1Spoil.e (a1 : Int) (A2 : Option Addr) (c2 : Nat) (l2 : List Int) (hI : Cur w0 w g c) (hB : Below w0.heap.size w0 w) (hc : c.length ≤ 1048576) (hr2 : Kd.C (Kd.int .i64) w A2 l2.length l2) (hc2 : l2.length ≤ c2) (hf2 : ∀ ad, A2 = some ad → 0 < l2.length → ad.block ≠ g) (hl : 0 < l2.length) (hl2 : l2.length ≤ 1048576) :
    Calls Try.prog 73 #[.pointer (some ⟨g, 0, none⟩), .int .i64 a1, .slice A2 l2.length c2] w fun e w' => ∃ r : Int, e = .returned (.int .i64 r) ∧ (r = a1 ∨ r ∈ l2) ∧ Drew w0 w w' g c := by
  obtain ⟨i, h, hI, h0, h1⟩ := hI
  obtain ⟨r, j, h', e, hm, hj0, hj1⟩ := l1Spoil_is c i h a1 l2 h0 h1 hc hl hl2
  refine (spec_l1Spoil.calls g c i h a1 A2 c2 l2 r j h' w0 w hI hB hr2 hc2 hf2 e).mono ?_
  rintro e w' ⟨he, hI', hB', hK⟩
  exact ⟨_, he, hm, ⟨⟨j, h', hI', hj0, hj1⟩, hB', hK⟩⟩
theorem spec_l1DrawName.e (hI : Cur w0 w g c) (hB : Below w0.heap.size w0 w) (hc : c.length ≤ 1048576) :
    Calls Try.prog 154 #[.pointer (some ⟨g, 0, none⟩)] w fun e w' => ∃ r : ByteArray, e = .returned (.string r) ∧ r.size ≤ 20 ∧ Drew w0 w w' g c := by
  obtain ⟨i, h, hI, h0, h1⟩ := hI
  obtain ⟨r, j, h', e, ⟨hr0, hr1', _⟩, hj0, hj1⟩ := l1Below_is c i h 15 h0 h1 hc (by omega)
  have hr2 := hr1' (by omega)
  have key : ∀ l : List ByteArray, l.length = 15 → (∀ x ∈ l, x.size ≤ 20) → ∃ s, s.size ≤ 20 ∧ spec_l1Pick.f c i h l = some (s, j, h') := by
    intro l hl hx
    refine ⟨rdOf ByteArray.empty l r, hx _ (by unfold rdOf; exact mem_at hr0 (by omega)), ?_⟩
    unfold spec_l1Pick.f
    rw [show ((l.length : Nat) : Int) = 15 by omega, e]
    simp only [Option.bind_some]
    rw [if_pos hr0, if_pos hr2]
  obtain ⟨s, hs, es⟩ := key [(⟨#[98, 97, 110, 107]⟩ : ByteArray), (⟨#[99, 97, 115, 104]⟩ : ByteArray), (⟨#[115, 97, 108, 101, 115]⟩ : ByteArray), (⟨#[115, 116, 111, 99, 107]⟩ : ByteArray), (⟨#[97]⟩ : ByteArray), (⟨#[98]⟩ : ByteArray), (⟨#[99, 45, 49]⟩ : ByteArray), (⟨#[100, 117, 101, 115]⟩ : ByteArray), (⟨#[116, 97, 120, 46, 100, 117, 101]⟩ : ByteArray), (⟨#[82, 50]⟩ : ByteArray), (⟨#[103, 111, 111, 100, 115]⟩ : ByteArray), (⟨#[119, 97, 103, 101, 115]⟩ : ByteArray), (⟨#[114, 101, 110, 116]⟩ : ByteArray), (⟨#[120, 95, 121]⟩ : ByteArray), (⟨#[112, 108, 97, 110, 116]⟩ : ByteArray)] rfl (by decide)
  refine (spec_l1DrawName.calls g c i h s j h' w0 w hI hB (by unfold spec_l1DrawName.f; rw [es]; rfl)).mono ?_
  rintro e w' ⟨he, hI', hB', hK⟩
  exact ⟨s, he, hs, ⟨⟨j, h', hI', hj0, hj1⟩, hB', hK⟩⟩
end
end Go.Proofs.Ytphmnkcfjgallaa.Q
