/- Parts of the proof: what functions of the program and of the reference answer.
   No condition. -/
import Derived.Test.YtjnibbkjoclboaaZYearClosed1
import Derived.Test.YtjnibbkjoclboaaZYearClosed6
import Derived.Test.YtjnibbkjoclboaaZYearClosed19
import Derived.Test.YtjnibbkjoclboaaZYearClosed3
import Derived.Test.YtjnibbkjoclboaaZYearClosed15
import Derived.Test.YtjnibbkjoclboaaZYearClosed16
namespace Go.Proofs.Ytjnibbkjoclboaa.Q
open Go.RowKit Go.Proofs.YtjnibbkjoclboaaW.PrintWords Go.Proofs.YtjnibbkjoclboaaW.PrintLast Go.Proofs.YtjnibbkjoclboaaW.PrintMore
set_option linter.unusedVariables false
set_option linter.unusedSimpArgs false
def clU (B : Int → Int) (d : Int) (ls : List Int) (j : Nat) : List Lin := (ls.take j).flatMap (fun i => if B i = 0 then [] else [⟨i, d, 0, -B i, -B i⟩])
def clS (B : Int → Int) (ls : List Int) (j : Nat) : Int := ((ls.take j).map B).sum
def clA (B : Int → Int) (ls : List Int) (j : Nat) : Bool := (ls.take j).any (fun i => decide (B i ≠ 0))
def dimL (kept : Int) (B : Int → Int) (d : Int) (ls : List Int) : List Lin := clU B d ls ls.length ++ (if clA B ls ls.length = true then [⟨kept, d, 0, clS B ls ls.length, clS B ls ls.length⟩] else [])
def allL (kept : Int) (B : Int → Int → Int) (ls : List Int) : Nat → List Lin
  | 0 => []
  | n + 1 => allL kept B ls n ++ dimL kept (B n) n ls
theorem take_step1 (ls : List Int) (j : Nat) (h : j < ls.length) : ls.take (j + 1) = ls.take j ++ [rd ls j] := by
  rw [List.take_add_one, List.getElem?_eq_getElem h]
  unfold rd
  rw [List.getD_eq_getElem?_getD]
  simp only [Int.toNat_natCast]
  rw [List.getElem?_eq_getElem h]
  rfl
theorem clU_zero {B : Int → Int} {d : Int} {ls : List Int} {j : Nat} (h : j < ls.length) (hb : B (rd ls j) = 0) : clU B d ls (j + 1) = clU B d ls j := by
  unfold clU
  rw [take_step1 ls j h, List.flatMap_append]
  simp [hb]
theorem clU_some {B : Int → Int} {d : Int} {ls : List Int} {j : Nat} (h : j < ls.length) (hb : B (rd ls j) ≠ 0) : clU B d ls (j + 1) = clU B d ls j ++ [⟨rd ls j, d, 0, -B (rd ls j), -B (rd ls j)⟩] := by
  unfold clU
  rw [take_step1 ls j h, List.flatMap_append]
  simp [hb]
theorem clS_step {B : Int → Int} {ls : List Int} {j : Nat} (h : j < ls.length) : clS B ls (j + 1) = clS B ls j + B (rd ls j) := by
  unfold clS
  rw [take_step1 ls j h, List.map_append, List.sum_append]
  simp
theorem clA_zero {B : Int → Int} {ls : List Int} {j : Nat} (h : j < ls.length) (hb : B (rd ls j) = 0) : clA B ls (j + 1) = clA B ls j := by
  unfold clA
  rw [take_step1 ls j h, List.any_append]
  simp [hb]
theorem clA_some {B : Int → Int} {ls : List Int} {j : Nat} (h : j < ls.length) (hb : B (rd ls j) ≠ 0) : clA B ls (j + 1) = true := by
  unfold clA
  rw [take_step1 ls j h, List.any_append]
  simp [hb]
theorem clU_len (B : Int → Int) (d : Int) (ls : List Int) (j : Nat) : (clU B d ls j).length ≤ ls.length := by
  have : ∀ l : List Int, (l.flatMap (fun i => if B i = 0 then ([] : List Lin) else [⟨i, d, 0, -B i, -B i⟩])).length ≤ l.length := by
    intro l
    induction l with
    | nil => simp
    | cons x l ih =>
      rw [List.flatMap_cons, List.length_append, List.length_cons]
      have hx : (if B x = 0 then ([] : List Lin) else [⟨x, d, 0, -B x, -B x⟩]).length ≤ 1 := by split <;> simp
      omega
  have h := this (ls.take j)
  have h2 : (ls.take j).length ≤ ls.length := by rw [List.length_take]; omega
  unfold clU
  omega
theorem clS_b {B : Int → Int} (hB : ∀ i, -6000000000000000 ≤ B i ∧ B i ≤ 6000000000000000) (ls : List Int) (j : Nat) (hl : ls.length ≤ 120) : -720000000000000000 ≤ clS B ls j ∧ clS B ls j ≤ 720000000000000000 := by
  have : ∀ l : List Int, -6000000000000000 * (l.length : Int) ≤ (l.map B).sum ∧ (l.map B).sum ≤ 6000000000000000 * (l.length : Int) := by
    intro l
    induction l with
    | nil => simp
    | cons x l ih =>
      have := hB x
      simp only [List.map_cons, List.sum_cons, List.length_cons]
      push_cast
      omega
  have h := this (ls.take j)
  have h2 : (ls.take j).length ≤ ls.length := by rw [List.length_take]; omega
  unfold clS
  omega
theorem dimL_len (kept : Int) (B : Int → Int) (d : Int) (ls : List Int) : (dimL kept B d ls).length ≤ ls.length + 1 := by
  have := clU_len B d ls ls.length
  unfold dimL
  rw [List.length_append]
  split <;> simp <;> omega
theorem allL_len (kept : Int) (B : Int → Int → Int) (ls : List Int) (hl : ls.length ≤ 120) (n : Nat) : (allL kept B ls n).length ≤ 121 * n := by
  induction n with
  | zero => simp [allL]
  | succ n ih =>
    have := dimL_len kept (B n) n ls
    simp only [allL, List.length_append]
    omega
def closeT : ByteArray := ⟨#[99, 108, 111, 115, 101]⟩
def clB (es : List Ent) (day d i : Int) : Int := basV i d (-1) (-4611686018427387904) day es
noncomputable def closeL (m0 : List Acc) (dims : Int) (m1 : List Ent) (kept day : Int) : List Lin := allL kept (clB m1 day) (leavesUpto m0 m0.length) dims.toNat
open Classical in
noncomputable def closeR (m0 : List Acc) (d c : Int) (m1 : List Ent) (h : Int) (m2 : List Per) (a b day : Int) : Int × Int × ByteArray × List Lin × Bool :=
  if booksB m0 d c m1 h m2 a b = true ∧ entryB m0 d c ⟨day, 0, closeT, closeL m0 d m1 b day⟩ = true then (day, 0, closeT, closeL m0 d m1 b day, true) else (0, 0, ⟨#[]⟩, [], false)
theorem clB_b {es : List Ent} (hf : ∀ e ∈ es, entFine e) (hn : es.length ≤ 1000) (day d i : Int) : -6000000000000000 ≤ clB es day d i ∧ clB es day d i ≤ 6000000000000000 := by
  have := basV_b i d (-1) (-4611686018427387904) day es hf
  unfold clB
  omega
end Go.Proofs.Ytjnibbkjoclboaa.Q
namespace Go.Proofs.Ytjnibbkjoclboaa.Q
open Go.RowKit Go.Proofs.YtjnibbkjoclboaaW.PrintWords Go.Proofs.YtjnibbkjoclboaaW.PrintLast Go.Proofs.YtjnibbkjoclboaaW.PrintMore
attribute [local go_sem] max2_int min2_int max_two min_two max_three min_three max_four min_four   -- for this text's walks alone
set_option linter.unusedVariables false
set_option linter.unusedSimpArgs false
set_option maxHeartbeats 16000000 in
set_option maxRecDepth 100000 in
theorem impl_BooksOk.to (A0 : Option Addr) (c0 : Nat) (l0 : List Acc) (dims curs : Int) (A1 : Option Addr) (c1 : Nat) (l1 : List Ent) (h : Int) (A2 : Option Addr) (c2 : Nat) (l2 : List Per) (closed kept : Int) (w : World) (hr0 : Kd.C k43 w A0 l0.length l0) (hs : ∀ x ∈ l0, x.f0.size ≤ maxLen) (hr1 : Kd.C k37 w A1 l1.length l1) (hm : ∀ e ∈ l1, e.f2.size ≤ maxLen) (hr2 : Kd.C k84 w A2 l2.length l2) :
    Calls Try.prog 17 #[.agg #[.slice A0 l0.length c0, .int .i64 dims, .int .i64 curs, .slice A1 l1.length c1, .int .i64 h, .slice A2 l2.length c2, .int .i64 closed, .int .i64 kept]] w fun x w' => x = .returned (.bool (booksB l0 dims curs l1 h l2 closed kept)) ∧ Below w.heap.size w w' := by
  have hl0 := hr0.2.1
  have hl2 := hr2.2.1
  have H0 := Aside0.mk hr0
  have H1 := Aside0.mk hr1
  have H2 := Aside0.mk hr2
  have HS := Aside0.mk hs
  have HM := Aside0.mk hm
  have HB0 := Aside0.mk (below_alloc (Below.refl w.heap.size w) (.cells #[.slice A0 l0.length c0, .int .i64 dims, .int .i64 curs, .slice A1 l1.length c1, .int .i64 h, .slice A2 l2.length c2, .int .i64 closed, .int .i64 kept] 32))
  clear hr0 hr1 hr2 hs hm
  go_enter Try.func17, Try.ntmps17
  go_wp2_with fail
  refine (impl_LedgerOk.to A0 c0 l0 dims curs A1 c1 l1 h _ (Kd.C_below H0.out HB0.out) HS.out (Kd.C_below H1.out HB0.out) HM.out).mono ?_
  rintro x w1 ⟨rfl, hb⟩
  have HB := Aside0.mk (below_into (w := w) hb HB0.out)
  have f0 : w1.cell? ⟨w.heap.size, 0, none⟩ = some (.slice A0 l0.length c0) := pw_cell_below hb (by go_simp)
  have f5 : w1.cell? ⟨w.heap.size, 5, none⟩ = some (.slice A2 l2.length c2) := pw_cell_below hb (by go_simp)
  have f6 : w1.cell? ⟨w.heap.size, 6, none⟩ = some (.int .i64 closed) := pw_cell_below hb (by go_simp)
  have f7 : w1.cell? ⟨w.heap.size, 7, none⟩ = some (.int .i64 kept) := pw_cell_below hb (by go_simp)
  clear hb
  cases q1 : ledgerB l0 dims curs l1 h with
  | false =>
    have HN := Aside0.mk (booksB_not (fun q => by have := ledgerB_true.2 q.1; rw [q1] at this; cases this) : false = booksB l0 dims curs l1 h l2 closed kept)
    clear q1
    go_wp2_with fail
    go_ret
    exact ⟨ret_bool HN.out, HB.out⟩
  | true =>
    have HL := Aside0.mk (ledgerB_true.1 q1)
    clear q1
    by_cases n1 : l2.length < 1
    case pos =>
      have HN := Aside0.mk (booksB_not (fun q => by have := q.2.1.1; omega) : false = booksB l0 dims curs l1 h l2 closed kept)
      go_wp2_with fail
      go_ret
      exact ⟨ret_bool HN.out, HB.out⟩
    by_cases n2 : 60 < l2.length
    case pos =>
      have HN := Aside0.mk (booksB_not (fun q => by have := q.2.1.1; omega) : false = booksB l0 dims curs l1 h l2 closed kept)
      go_wp2_with fail
      go_ret
      exact ⟨ret_bool HN.out, HB.out⟩
    go_wp2_with fail
    refine (impl_between.to _ _ _ _).mono ?_
    rintro x w' ⟨rfl, rfl⟩
    cases q3 : inB closed 0 (l2.length : Int) with
    | false =>
      have HN := Aside0.mk (booksB_not (fun q => inB_false.1 q3 q.2.2.1) : false = booksB l0 dims curs l1 h l2 closed kept)
      clear q3
      go_wp2_with fail
      go_ret
      exact ⟨ret_bool HN.out, HB.out⟩
    | true =>
      have HCL := Aside0.mk (inB_true.1 q3)
      have HB1 := Aside0.mk (Below.refl w'.heap.size w')
      have F0 := Aside0.mk f0
      have F5 := Aside0.mk f5
      have F7 := Aside0.mk f7
      clear q3
      go_wp2_with fail
      clear f0 f5 f6 f7
      go_loopw [35] (fun v wr => ∃ i : Int, 0 ≤ i ∧ i ≤ (l2.length : Int) ∧ v = .int .i64 i ∧ Aside0 (Below w'.heap.size w' wr) ∧ Aside0 (∀ j : Int, 0 ≤ j → j < i → perOk l2 j)) (fun v _ => (l2.length - (intOf v).toNat))
      case atStart => exact ⟨0, by omega, by omega, rfl, HB1, ⟨fun j h0 h1 => by omega⟩⟩
      case round =>
        clear HB1
        obtain ⟨i, hi0, hi1, rfl, HB1, HO⟩ := hrel
        have f0 := pw_cell_below HB1.out F0.out
        have f5 := pw_cell_below HB1.out F5.out
        have f7 := pw_cell_below HB1.out F7.out
        have HBW := Aside0.mk (below_into HB1.out HB.out)
        have hz0 := World.block_lt_of_cell? _ _ f0
        by_cases hlt : i < (l2.length : Int)
        · obtain ⟨ad, e0, x0, x1⟩ := at_T84 (Kd.C_below H2.out HBW.out) i hi0 hlt
          cases e0
          have HNO := Aside0.mk (fun (q : ¬ perOk l2 i) => (booksB_not (fun y => q (y.2.1.2 i hi0 hlt)) : false = booksB l0 dims curs l1 h l2 closed kept))
          have HBX := Aside0.mk (below_alloc HBW.out (.cells #[.int .i64 (rd_T84 l2 i).f0, .int .i64 (rd_T84 l2 i).f1] 84))
          have HBY := Aside0.mk (HB1.out.alloc HB1.out.size (.cells #[.int .i64 (rd_T84 l2 i).f0, .int .i64 (rd_T84 l2 i).f1] 84))
          generalize hp0 : (rd_T84 l2 i).f0 = p0 at *
          generalize hp1 : (rd_T84 l2 i).f1 = p1 at *
          have HP0 := Aside0.mk hp0
          have HP1 := Aside0.mk hp1
          clear hp0 hp1
          cases h1 : inB p0 0 40000 with
          | false =>
            have C1 := Aside0.mk (fun W => (h1 ▸ impl_isDay.to p0 W : Calls Try.prog 40 #[.int .i64 p0] W fun e w' => e = .returned (.bool false) ∧ w' = W))
            have HN := Aside0.mk (HNO.out (fun q => inB_false.1 h1 (HP0.out ▸ q.1)))
            clear h1
            go_wp2_with fail
            go_quiet ((go_at_call 40; exact Calls.quiet_of_same (C1.out _)))
            go_wp2_with fail
            go_ret
            exact ⟨ret_bool HN.out, pw_below_drewN HBX.out _⟩
          | true =>
            have C1 := Aside0.mk (fun W => (h1 ▸ impl_isDay.to p0 W : Calls Try.prog 40 #[.int .i64 p0] W fun e w' => e = .returned (.bool true) ∧ w' = W))
            obtain ⟨a0, a1⟩ := inB_true.1 h1
            clear h1
            cases h2 : inB p1 0 40000 with
            | false =>
              have C2 := Aside0.mk (fun W => (h2 ▸ impl_isDay.to p1 W : Calls Try.prog 40 #[.int .i64 p1] W fun e w' => e = .returned (.bool false) ∧ w' = W))
              have HN := Aside0.mk (HNO.out (fun q => inB_false.1 h2 (HP1.out ▸ q.2.1)))
              clear h2
              go_wp2_with fail
              go_quiet ((go_at_call 40; (first | exact Calls.quiet_of_same (C1.out _) | exact Calls.quiet_of_same (C2.out _))))
              go_wp2_with fail
              go_ret
              exact ⟨ret_bool HN.out, pw_below_drewN HBX.out _⟩
            | true =>
              have C2 := Aside0.mk (fun W => (h2 ▸ impl_isDay.to p1 W : Calls Try.prog 40 #[.int .i64 p1] W fun e w' => e = .returned (.bool true) ∧ w' = W))
              obtain ⟨b0, b1⟩ := inB_true.1 h2
              clear h2
              by_cases h3 : p1 < p0
              · have HN := Aside0.mk (HNO.out (fun q => by have := q.2.2.1; rw [HP0.out, HP1.out] at this; omega))
                have h3b : decide (p1 < p0) = true := decide_eq_true h3
                go_wp2_with fail
                go_quiet ((go_at_call 40; (first | exact Calls.quiet_of_same (C1.out _) | exact Calls.quiet_of_same (C2.out _))))
                go_wp2_with fail
                go_ret
                exact ⟨ret_bool HN.out, pw_below_drewN HBX.out _⟩
              · have h3b : decide (p1 < p0) = false := decide_eq_false h3
                by_cases h4 : 0 < i
                · obtain ⟨j, hj⟩ : ∃ j : Int, j = i - 1 := ⟨_, rfl⟩
                  have hj0 : 0 ≤ j := by omega
                  have hj1 : j < (l2.length : Int) := by omega
                  have hwr : IntKind.i64.wrap (i - 1) = j := by unfold IntKind.wrap; simp [IntKind.bits]; omega
                  obtain ⟨bd, e1, y0, y1⟩ := at_T84 (Kd.C_below H2.out HBW.out) j hj0 hj1
                  obtain rfl : ad = bd := by injection e1
                  have hz1 := World.block_lt_of_cell? _ _ y1
                  obtain ⟨m0, m1⟩ := (HO.out j hj0 (by omega)).2.1
                  have HJ := Aside0.mk hj
                  clear hj
                  generalize hq1 : (rd_T84 l2 j).f1 = q1 at *
                  have HQ1 := Aside0.mk hq1
                  clear hq1
                  have hwr2 : IntKind.i64.wrap (q1 + 1) = q1 + 1 := by unfold IntKind.wrap; simp [IntKind.bits]; omega
                  have h4b : decide (0 < i) = true := decide_eq_true h4
                  by_cases h7 : p0 = q1 + 1
                  · have h7b : (p0 != q1 + 1) = false := by rw [h7]; exact bne_self_eq_false' _
                    have HO2 := Aside0.mk (per_step HO.out (show perOk l2 i from ⟨by rw [HP0.out]; exact ⟨a0, a1⟩, by rw [HP1.out]; exact ⟨b0, b1⟩, by rw [HP0.out, HP1.out]; omega, fun q => by rw [HP0.out, ← HJ.out, HQ1.out]; exact h7⟩))
                    clear h7
                    go_wp2_with fail
                    go_quiet ((go_at_call 40; (first | exact Calls.quiet_of_same (C1.out _) | exact Calls.quiet_of_same (C2.out _))))
                    clear hwr hwr2
                    go_wp2_with fail
                    go_roundw
                    case rel => exact ⟨i + 1, by omega, by omega, rfl, ⟨pw_below_drewN HBY.out _⟩, HO2⟩
                    case measure => simp [intOf]; omega
                  · have h7b : (p0 != q1 + 1) = true := bne_iff_ne.2 h7
                    have HN := Aside0.mk (HNO.out (fun q => by have := q.2.2.2 h4; rw [HP0.out, ← HJ.out, HQ1.out] at this; exact h7 this))
                    clear h7
                    go_wp2_with fail
                    go_quiet ((go_at_call 40; (first | exact Calls.quiet_of_same (C1.out _) | exact Calls.quiet_of_same (C2.out _))))
                    clear hwr hwr2
                    go_wp2_with fail
                    go_ret
                    exact ⟨ret_bool HN.out, pw_below_drewN HBX.out _⟩
                · have h4b : decide (0 < i) = false := decide_eq_false h4
                  have HO2 := Aside0.mk (per_step HO.out (show perOk l2 i from ⟨by rw [HP0.out]; exact ⟨a0, a1⟩, by rw [HP1.out]; exact ⟨b0, b1⟩, by rw [HP0.out, HP1.out]; omega, fun q => absurd q h4⟩))
                  go_wp2_with fail
                  go_quiet ((go_at_call 40; (first | exact Calls.quiet_of_same (C1.out _) | exact Calls.quiet_of_same (C2.out _))))
                  go_wp2_with fail
                  go_roundw
                  case rel => exact ⟨i + 1, by omega, by omega, rfl, ⟨pw_below_drewN HBY.out _⟩, HO2⟩
                  case measure => simp [intOf]; omega
        · have HY := Aside0.mk (show yearP l2 from ⟨by omega, fun j h0 h1 => HO.out j h0 (by omega)⟩)
          clear f5
          cases q4 : leafB l0 kept with
          | false =>
            have HN := Aside0.mk (booksB_not (fun q => by have := leafB_of q.2.2.2.1; rw [q4] at this; cases this) : false = booksB l0 dims curs l1 h l2 closed kept)
            have C1 := Aside0.mk (fun W (hW : Kd.C k43 W A0 l0.length l0) => (q4 ▸ impl_leafAt.to A0 c0 l0 kept W hW : Calls Try.prog 41 #[.slice A0 l0.length c0, .int .i64 kept] W fun e w' => e = .returned (.bool false) ∧ w' = W))
            have HC := Aside0.mk (Kd.C_below H0.out HBW.out)
            clear q4
            go_wp2_with fail
            (refine (C1.out _ HC.out).mono ?_; rintro x w6 ⟨rfl, rfl⟩)
            go_wp2_with fail
            go_ret
            exact ⟨ret_bool HN.out, HBW.out⟩
          | true =>
            have hlf := leafB_true.1 q4
            have HLF := Aside0.mk hlf
            obtain ⟨k0, k1, _⟩ := hlf
            have C1 := Aside0.mk (fun W (hW : Kd.C k43 W A0 l0.length l0) => (q4 ▸ impl_leafAt.to A0 c0 l0 kept W hW : Calls Try.prog 41 #[.slice A0 l0.length c0, .int .i64 kept] W fun e w' => e = .returned (.bool true) ∧ w' = W))
            have HC := Aside0.mk (Kd.C_below H0.out HBW.out)
            clear q4
            obtain ⟨ad, e0, x0, x1, x2⟩ := at_T43 HC.out kept k0 k1
            cases e0
            by_cases q5 : (rd_T43 l0 kept).f2 = 3
            · have q5b : ((rd_T43 l0 kept).f2 == 3) = true := beq_iff_eq.2 q5
              have HBK := Aside0.mk (booksB_true.2 (show booksP l0 dims curs l1 h l2 closed kept from ⟨HL.out, HY.out, HCL.out, HLF.out, q5⟩))
              clear q5
              go_wp2_with fail
              (refine (C1.out _ HC.out).mono ?_; rintro x w6 ⟨rfl, rfl⟩)
              go_wp2_with fail
              go_ret
              exact ⟨ret_bool HBK.out.symm, HBW.out⟩
            · have q5b : ((rd_T43 l0 kept).f2 == 3) = false := beq_eq_false_iff_ne.2 q5
              have HN := Aside0.mk (booksB_not (fun q => q5 q.2.2.2.2) : false = booksB l0 dims curs l1 h l2 closed kept)
              clear q5
              go_wp2_with fail
              (refine (C1.out _ HC.out).mono ?_; rintro x w6 ⟨rfl, rfl⟩)
              go_wp2_with fail
              go_ret
              exact ⟨ret_bool HN.out, HBW.out⟩
end Go.Proofs.Ytjnibbkjoclboaa.Q
