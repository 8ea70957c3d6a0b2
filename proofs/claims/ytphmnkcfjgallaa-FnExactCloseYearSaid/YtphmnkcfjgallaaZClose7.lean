/- Parts of the proof: what functions of the program and of the reference answer.
   No condition. -/
import Derived.Test.YtphmnkcfjgallaaZClose1
import Derived.Test.YtphmnkcfjgallaaZClose2
import Derived.Test.YtphmnkcfjgallaaZClose3
namespace Go.Proofs.Ytphmnkcfjgallaa.Q
open Go.RowKit Go.Proofs.YtphmnkcfjgallaaW.PrintWords Go.Proofs.YtphmnkcfjgallaaW.PrintLast Go.Proofs.YtphmnkcfjgallaaW.PrintMore
set_option linter.unusedVariables false
set_option linter.unusedSimpArgs false
def Iv (a b : Nat) (k : Nat) : Prop := a ≤ k ∧ k < b
section
variable {α : Type} {d : Kd α} {e a b a' b' base n : Nat} {w w1 W W' : World} {v : Value} {l l' : List α}
theorem R_iv (h : d.R e w1 w.heap.size (fun _ => True) v l) : d.R e w1 w.heap.size (Iv w.heap.size w1.heap.size) v l := Kd.R_mono (Kd.R_bound h) (fun _ hk => ⟨hk.2.1, hk.2.2.1⟩)
theorem S_iv (h : Kd.S d e w1 w.heap.size (fun _ => True) v l) : Kd.S d e w1 w.heap.size (Iv w.heap.size w1.heap.size) v l := Kd.S_mono (Kd.S_bound h) (fun _ hk => ⟨hk.2.1, hk.2.2.1⟩)
theorem R_iv_kept (h : d.R e W base (Iv a b) v l) (hk : Kept W W' (Iv a' b')) (hd : b ≤ a' ∨ b' ≤ a) : d.R e W' base (Iv a b) v l := Kd.R_kept h hk (fun k hk1 hk2 => by have := hk1.1; have := hk1.2; have := hk2.1; have := hk2.2; omega)
theorem cell_iv_kept {p : Addr} {u : Value} (hc : W.cell? p = some u) (hk : Kept W W' (Iv a b)) (hd : p.block < a ∨ b ≤ p.block) : W'.cell? p = some u := cell_kept hc hk (fun h => by have := h.1; have := h.2; omega)
theorem R_iv_mark (hE : d.E = []) (h : d.R e W base (Iv a b) v l) (h' : d.R e W' base (fun k => Iv a b k ∨ n ≤ k) v l') : d.R e W' base (Iv a b) v l' := Kd.R_mono (Kd.R_tight hE h') (fun k hk => h.1 k hk.symm)
end
def kBig : Nat := 3000000
theorem kBig_le : 3000000 ≤ kBig := Nat.le_refl _
end Go.Proofs.Ytphmnkcfjgallaa.Q
namespace Go.Proofs.Ytphmnkcfjgallaa.Q
open Go.RowKit Go.Proofs.YtphmnkcfjgallaaW.PrintWords Go.Proofs.YtphmnkcfjgallaaW.PrintLast Go.Proofs.YtphmnkcfjgallaaW.PrintMore
attribute [local go_sem] max2_int min2_int max_two min_two max_three min_three max_four min_four   -- for this text's walks alone
set_option linter.unusedVariables false
set_option linter.unusedSimpArgs false
end Go.Proofs.Ytphmnkcfjgallaa.Q
namespace Go.Proofs.Ytphmnkcfjgallaa.Q
open Go.RowKit Go.Proofs.YtphmnkcfjgallaaW.PrintWords Go.Proofs.YtphmnkcfjgallaaW.PrintLast Go.Proofs.YtphmnkcfjgallaaW.PrintMore
attribute [local go_sem] max2_int min2_int max_two min_two max_three min_three max_four min_four   -- for this text's walks alone
set_option linter.unusedVariables false
set_option linter.unusedSimpArgs false
set_option maxHeartbeats 4000000 in
set_option maxRecDepth 100000 in
theorem laws_eqAccountS.calls (A0 : Option Addr) (c0 : Nat) (l0 : List (S131)) (A1 : Option Addr) (c1 : Nat) (l1 : List (S131)) (w : World) (hr0 : Kd.C k131 w A0 l0.length l0) (hr1 : Kd.C k131 w A1 l1.length l1) :
    Calls Try.prog 108 #[.slice A0 l0.length c0, .slice A1 l1.length c1] w fun e w' => e = .returned (.bool (same l0 l1)) ∧ Below w.heap.size w w' := by
  have hl := hr0.2.1
  have hm := hr1.2.1
  have H0 := Aside0.mk hr0
  have H1 := Aside0.mk hr1
  clear hr0 hr1
  by_cases hlen : l0.length = l1.length
  · have hlb : ((l0.length : Int) != (l1.length : Int)) = false := by rw [hlen]; simp
    have HL := Aside0.mk hlen
    clear hlen
    go_enter Try.func108, Try.ntmps108
    go_wp2
    go_loopw [5] (fun v wr => ∃ i : Int, 0 ≤ i ∧ i ≤ (l0.length : Int) ∧ v = .int .i64 i ∧ Aside0 (Below w.heap.size w wr) ∧ Aside0 (l0.take i.toNat = l1.take i.toNat)) (fun v _ => (l0.length - (intOf v).toNat))
    case atStart => exact ⟨0, by omega, by omega, rfl, ⟨Below.refl _ _⟩, ⟨rfl⟩⟩
    case round =>
      obtain ⟨i, hi0, hi1, rfl, HB, HT⟩ := hrel
      by_cases hlt : i < (l0.length : Int)
      · have hlt2 : i < (l1.length : Int) := by have := HL.out; omega
        obtain ⟨ad, ead, adx0, adx1, adx2⟩ := at_T131 (Kd.C_below H0.out HB.out) i hi0 hlt
        obtain ⟨bd, ebd, bdx0, bdx1, bdx2⟩ := at_T131 (Kd.C_below H1.out HB.out) i hi0 hlt2
        cases ead
        cases ebd
        go_wp2
        go_region_held3 (fun w' => w'.cell? (ad.add (i.toNat * 3)) = some (.string (rd_T131 l0 i).f0) ∧ w'.cell? ⟨(ad.add (i.toNat * 3)).block, (ad.add (i.toNat * 3)).off + 1, none⟩ = some (.int .i64 (rd_T131 l0 i).f1) ∧ w'.cell? ⟨(ad.add (i.toNat * 3)).block, (ad.add (i.toNat * 3)).off + 2, none⟩ = some (.int .i64 (rd_T131 l0 i).f2) ∧ w'.cell? (bd.add (i.toNat * 3)) = some (.string (rd_T131 l1 i).f0) ∧ w'.cell? ⟨(bd.add (i.toNat * 3)).block, (bd.add (i.toNat * 3)).off + 1, none⟩ = some (.int .i64 (rd_T131 l1 i).f1) ∧ w'.cell? ⟨(bd.add (i.toNat * 3)).block, (bd.add (i.toNat * 3)).off + 2, none⟩ = some (.int .i64 (rd_T131 l1 i).f2)) ((first | go_keep | exact ⟨pw_cell_below hb (by assumption), pw_cell_below hb (by assumption), pw_cell_below hb (by assumption), pw_cell_below hb (by assumption), pw_cell_below hb (by assumption), pw_cell_below hb (by assumption)⟩))
          ((go_at_call 150; refine (laws_eqAccount.calls (rd_T131 l0 i).f0 (rd_T131 l0 i).f1 (rd_T131 l0 i).f2 (rd_T131 l1 i).f0 (rd_T131 l1 i).f1 (rd_T131 l1 i).f2 _ ).mono ?_; rintro e w2 ⟨rfl, hb⟩))
        have HB2 := Aside0.mk (below_into (w := w) hb (by repeat (first | exact HB.out | refine below_drew1 ?_)))
        clear hb
        by_cases he : rd_T131 l0 i = rd_T131 l1 i
        · rw [← same_true (show ((⟨(rd_T131 l0 i).f0, (rd_T131 l0 i).f1, (rd_T131 l0 i).f2⟩ : S131) : S131) = (⟨(rd_T131 l1 i).f0, (rd_T131 l1 i).f1, (rd_T131 l1 i).f2⟩ : S131) from he)]
          go_wp2
          go_roundw
          case rel => exact ⟨i + 1, by omega, by omega, rfl, HB2, ⟨take_step hi0 hlt hlt2 HT.out he⟩⟩
          case measure => simp [intOf]; omega
        · rw [← same_false (show ((⟨(rd_T131 l0 i).f0, (rd_T131 l0 i).f1, (rd_T131 l0 i).f2⟩ : S131) : S131) = (⟨(rd_T131 l1 i).f0, (rd_T131 l1 i).f1, (rd_T131 l1 i).f2⟩ : S131) → False from he)]
          go_wp2
          go_ret
          exact ⟨ret_bool (same_false (fun h => he (by rw [h]))), HB2.out⟩
      · go_wp2
        go_ret
        exact ⟨ret_bool (same_true (take_end HL.out hlt HT.out)), HB.out⟩
  · go_enter Try.func108, Try.ntmps108
    go_wp2
    go_ret
    exact ⟨ret_bool (same_false (fun h => hlen (by rw [h]))), Below.refl _ _⟩
end Go.Proofs.Ytphmnkcfjgallaa.Q
namespace Go.Proofs.Ytphmnkcfjgallaa.Q
open Go.RowKit Go.Proofs.YtphmnkcfjgallaaW.PrintWords Go.Proofs.YtphmnkcfjgallaaW.PrintLast Go.Proofs.YtphmnkcfjgallaaW.PrintMore
attribute [local go_sem] max2_int min2_int max_two min_two max_three min_three max_four min_four   -- for this text's walks alone
set_option linter.unusedVariables false
set_option linter.unusedSimpArgs false
set_option maxHeartbeats 4000000 in
set_option maxRecDepth 100000 in
theorem laws_eqLineS.calls (A0 : Option Addr) (c0 : Nat) (l0 : List (S112)) (A1 : Option Addr) (c1 : Nat) (l1 : List (S112)) (w : World) (hr0 : Kd.C k112 w A0 l0.length l0) (hr1 : Kd.C k112 w A1 l1.length l1) :
    Calls Try.prog 117 #[.slice A0 l0.length c0, .slice A1 l1.length c1] w fun e w' => e = .returned (.bool (same l0 l1)) ∧ Below w.heap.size w w' := by
  have hl := hr0.2.1
  have hm := hr1.2.1
  have H0 := Aside0.mk hr0
  have H1 := Aside0.mk hr1
  clear hr0 hr1
  by_cases hlen : l0.length = l1.length
  · have hlb : ((l0.length : Int) != (l1.length : Int)) = false := by rw [hlen]; simp
    have HL := Aside0.mk hlen
    clear hlen
    go_enter Try.func117, Try.ntmps117
    go_wp2
    go_loopw [5] (fun v wr => ∃ i : Int, 0 ≤ i ∧ i ≤ (l0.length : Int) ∧ v = .int .i64 i ∧ Aside0 (Below w.heap.size w wr) ∧ Aside0 (l0.take i.toNat = l1.take i.toNat)) (fun v _ => (l0.length - (intOf v).toNat))
    case atStart => exact ⟨0, by omega, by omega, rfl, ⟨Below.refl _ _⟩, ⟨rfl⟩⟩
    case round =>
      obtain ⟨i, hi0, hi1, rfl, HB, HT⟩ := hrel
      by_cases hlt : i < (l0.length : Int)
      · have hlt2 : i < (l1.length : Int) := by have := HL.out; omega
        obtain ⟨ad, ead, adx0, adx1, adx2, adx3, adx4⟩ := at_T112 (Kd.C_below H0.out HB.out) i hi0 hlt
        obtain ⟨bd, ebd, bdx0, bdx1, bdx2, bdx3, bdx4⟩ := at_T112 (Kd.C_below H1.out HB.out) i hi0 hlt2
        cases ead
        cases ebd
        go_wp2
        go_region_held3 (fun w' => w'.cell? (ad.add (i.toNat * 5)) = some (.int .i64 (rd_T112 l0 i).f0) ∧ w'.cell? ⟨(ad.add (i.toNat * 5)).block, (ad.add (i.toNat * 5)).off + 1, none⟩ = some (.int .i64 (rd_T112 l0 i).f1) ∧ w'.cell? ⟨(ad.add (i.toNat * 5)).block, (ad.add (i.toNat * 5)).off + 2, none⟩ = some (.int .i64 (rd_T112 l0 i).f2) ∧ w'.cell? ⟨(ad.add (i.toNat * 5)).block, (ad.add (i.toNat * 5)).off + 3, none⟩ = some (.int .i64 (rd_T112 l0 i).f3) ∧ w'.cell? ⟨(ad.add (i.toNat * 5)).block, (ad.add (i.toNat * 5)).off + 4, none⟩ = some (.int .i64 (rd_T112 l0 i).f4) ∧ w'.cell? (bd.add (i.toNat * 5)) = some (.int .i64 (rd_T112 l1 i).f0) ∧ w'.cell? ⟨(bd.add (i.toNat * 5)).block, (bd.add (i.toNat * 5)).off + 1, none⟩ = some (.int .i64 (rd_T112 l1 i).f1) ∧ w'.cell? ⟨(bd.add (i.toNat * 5)).block, (bd.add (i.toNat * 5)).off + 2, none⟩ = some (.int .i64 (rd_T112 l1 i).f2) ∧ w'.cell? ⟨(bd.add (i.toNat * 5)).block, (bd.add (i.toNat * 5)).off + 3, none⟩ = some (.int .i64 (rd_T112 l1 i).f3) ∧ w'.cell? ⟨(bd.add (i.toNat * 5)).block, (bd.add (i.toNat * 5)).off + 4, none⟩ = some (.int .i64 (rd_T112 l1 i).f4)) ((first | go_keep | exact ⟨pw_cell_below hb (by assumption), pw_cell_below hb (by assumption), pw_cell_below hb (by assumption), pw_cell_below hb (by assumption), pw_cell_below hb (by assumption), pw_cell_below hb (by assumption), pw_cell_below hb (by assumption), pw_cell_below hb (by assumption), pw_cell_below hb (by assumption), pw_cell_below hb (by assumption)⟩))
          ((go_at_call 151; refine (laws_eqLine.calls (rd_T112 l0 i).f0 (rd_T112 l0 i).f1 (rd_T112 l0 i).f2 (rd_T112 l0 i).f3 (rd_T112 l0 i).f4 (rd_T112 l1 i).f0 (rd_T112 l1 i).f1 (rd_T112 l1 i).f2 (rd_T112 l1 i).f3 (rd_T112 l1 i).f4 _ ).mono ?_; rintro e w2 ⟨rfl, hb⟩))
        have HB2 := Aside0.mk (below_into (w := w) hb (by repeat (first | exact HB.out | refine below_drew1 ?_)))
        clear hb
        by_cases he : rd_T112 l0 i = rd_T112 l1 i
        · rw [← same_true (show ((⟨(rd_T112 l0 i).f0, (rd_T112 l0 i).f1, (rd_T112 l0 i).f2, (rd_T112 l0 i).f3, (rd_T112 l0 i).f4⟩ : S112) : S112) = (⟨(rd_T112 l1 i).f0, (rd_T112 l1 i).f1, (rd_T112 l1 i).f2, (rd_T112 l1 i).f3, (rd_T112 l1 i).f4⟩ : S112) from he)]
          go_wp2
          go_roundw
          case rel => exact ⟨i + 1, by omega, by omega, rfl, HB2, ⟨take_step hi0 hlt hlt2 HT.out he⟩⟩
          case measure => simp [intOf]; omega
        · rw [← same_false (show ((⟨(rd_T112 l0 i).f0, (rd_T112 l0 i).f1, (rd_T112 l0 i).f2, (rd_T112 l0 i).f3, (rd_T112 l0 i).f4⟩ : S112) : S112) = (⟨(rd_T112 l1 i).f0, (rd_T112 l1 i).f1, (rd_T112 l1 i).f2, (rd_T112 l1 i).f3, (rd_T112 l1 i).f4⟩ : S112) → False from he)]
          go_wp2
          go_ret
          exact ⟨ret_bool (same_false (fun h => he (by rw [h]))), HB2.out⟩
      · go_wp2
        go_ret
        exact ⟨ret_bool (same_true (take_end HL.out hlt HT.out)), HB.out⟩
  · go_enter Try.func117, Try.ntmps117
    go_wp2
    go_ret
    exact ⟨ret_bool (same_false (fun h => hlen (by rw [h]))), Below.refl _ _⟩
end Go.Proofs.Ytphmnkcfjgallaa.Q
namespace Go.Proofs.Ytphmnkcfjgallaa.Q
open Go.RowKit Go.Proofs.YtphmnkcfjgallaaW.PrintWords Go.Proofs.YtphmnkcfjgallaaW.PrintLast Go.Proofs.YtphmnkcfjgallaaW.PrintMore
attribute [local go_sem] max2_int min2_int max_two min_two max_three min_three max_four min_four   -- for this text's walks alone
set_option linter.unusedVariables false
set_option linter.unusedSimpArgs false
set_option maxHeartbeats 4000000 in
set_option maxRecDepth 100000 in
theorem laws_eqPeriodS.calls (A0 : Option Addr) (c0 : Nat) (l0 : List (S133)) (A1 : Option Addr) (c1 : Nat) (l1 : List (S133)) (w : World) (hr0 : Kd.C k133 w A0 l0.length l0) (hr1 : Kd.C k133 w A1 l1.length l1) :
    Calls Try.prog 42 #[.slice A0 l0.length c0, .slice A1 l1.length c1] w fun e w' => e = .returned (.bool (same l0 l1)) ∧ Below w.heap.size w w' := by
  have hl := hr0.2.1
  have hm := hr1.2.1
  have H0 := Aside0.mk hr0
  have H1 := Aside0.mk hr1
  clear hr0 hr1
  by_cases hlen : l0.length = l1.length
  · have hlb : ((l0.length : Int) != (l1.length : Int)) = false := by rw [hlen]; simp
    have HL := Aside0.mk hlen
    clear hlen
    go_enter Try.func42, Try.ntmps42
    go_wp2
    go_loopw [5] (fun v wr => ∃ i : Int, 0 ≤ i ∧ i ≤ (l0.length : Int) ∧ v = .int .i64 i ∧ Aside0 (Below w.heap.size w wr) ∧ Aside0 (l0.take i.toNat = l1.take i.toNat)) (fun v _ => (l0.length - (intOf v).toNat))
    case atStart => exact ⟨0, by omega, by omega, rfl, ⟨Below.refl _ _⟩, ⟨rfl⟩⟩
    case round =>
      obtain ⟨i, hi0, hi1, rfl, HB, HT⟩ := hrel
      by_cases hlt : i < (l0.length : Int)
      · have hlt2 : i < (l1.length : Int) := by have := HL.out; omega
        obtain ⟨ad, ead, adx0, adx1⟩ := at_T133 (Kd.C_below H0.out HB.out) i hi0 hlt
        obtain ⟨bd, ebd, bdx0, bdx1⟩ := at_T133 (Kd.C_below H1.out HB.out) i hi0 hlt2
        cases ead
        cases ebd
        go_wp2
        go_region_held3 (fun w' => w'.cell? (ad.add (i.toNat * 2)) = some (.int .i64 (rd_T133 l0 i).f0) ∧ w'.cell? ⟨(ad.add (i.toNat * 2)).block, (ad.add (i.toNat * 2)).off + 1, none⟩ = some (.int .i64 (rd_T133 l0 i).f1) ∧ w'.cell? (bd.add (i.toNat * 2)) = some (.int .i64 (rd_T133 l1 i).f0) ∧ w'.cell? ⟨(bd.add (i.toNat * 2)).block, (bd.add (i.toNat * 2)).off + 1, none⟩ = some (.int .i64 (rd_T133 l1 i).f1)) ((first | go_keep | exact ⟨pw_cell_below hb (by assumption), pw_cell_below hb (by assumption), pw_cell_below hb (by assumption), pw_cell_below hb (by assumption)⟩))
          ((go_at_call 109; refine (laws_eqPeriod.calls (rd_T133 l0 i).f0 (rd_T133 l0 i).f1 (rd_T133 l1 i).f0 (rd_T133 l1 i).f1 _ ).mono ?_; rintro e w2 ⟨rfl, hb⟩))
        have HB2 := Aside0.mk (below_into (w := w) hb (by repeat (first | exact HB.out | refine below_drew1 ?_)))
        clear hb
        by_cases he : rd_T133 l0 i = rd_T133 l1 i
        · rw [← same_true (show ((⟨(rd_T133 l0 i).f0, (rd_T133 l0 i).f1⟩ : S133) : S133) = (⟨(rd_T133 l1 i).f0, (rd_T133 l1 i).f1⟩ : S133) from he)]
          go_wp2
          go_roundw
          case rel => exact ⟨i + 1, by omega, by omega, rfl, HB2, ⟨take_step hi0 hlt hlt2 HT.out he⟩⟩
          case measure => simp [intOf]; omega
        · rw [← same_false (show ((⟨(rd_T133 l0 i).f0, (rd_T133 l0 i).f1⟩ : S133) : S133) = (⟨(rd_T133 l1 i).f0, (rd_T133 l1 i).f1⟩ : S133) → False from he)]
          go_wp2
          go_ret
          exact ⟨ret_bool (same_false (fun h => he (by rw [h]))), HB2.out⟩
      · go_wp2
        go_ret
        exact ⟨ret_bool (same_true (take_end HL.out hlt HT.out)), HB.out⟩
  · go_enter Try.func42, Try.ntmps42
    go_wp2
    go_ret
    exact ⟨ret_bool (same_false (fun h => hlen (by rw [h]))), Below.refl _ _⟩
end Go.Proofs.Ytphmnkcfjgallaa.Q
namespace Go.Proofs.Ytphmnkcfjgallaa.Q
open Go.RowKit Go.Proofs.YtphmnkcfjgallaaW.PrintWords Go.Proofs.YtphmnkcfjgallaaW.PrintLast Go.Proofs.YtphmnkcfjgallaaW.PrintMore
attribute [local go_sem] max2_int min2_int max_two min_two max_three min_three max_four min_four   -- for this text's walks alone
set_option linter.unusedVariables false
set_option linter.unusedSimpArgs false
noncomputable def laws_markEntry.f (k : Nat) (a0_0 : Int) (a0_1 : Int) (a0_2 : ByteArray) (l0_3 : List (S112)) (a1 : Int) : Option (Int × (List (S112))) := (laws_markLineS.f k l0_3 a1).bind fun bt57002 => (some (bt57002.1, bt57002.2))
set_option maxHeartbeats 8000000 in
set_option maxRecDepth 100000 in
theorem laws_markEntry.calls (k : Nat) (a0_0 : Int) (a0_1 : Int) (a0_2 : ByteArray) (P0_3_ : Nat → Prop) (u9000_ : Value) (l0_3 : List (S112)) (a1 : Int) (r1 : Int) (r2 : List (S112)) (w0 w : World) (hB : Below w0.heap.size w0 w) (ho0_3 : Kd.R k112 112 w w0.heap.size P0_3_ u9000_ l0_3) (h : laws_markEntry.f k a0_0 a0_1 a0_2 l0_3 a1 = some (r1, r2)) :
    Calls Try.prog 56 #[.agg #[.int .i64 a0_0, .int .i64 a0_1, .string a0_2, u9000_], .int .i64 a1] w fun e w' => e = .returned (.int .i64 r1) ∧ Kd.R k112 112 w' w0.heap.size (fun k_ => (P0_3_ k_ ∨ w.heap.size ≤ k_)) u9000_ r2 ∧ Below w0.heap.size w0 w' ∧ Kept w w' (fun k_ => P0_3_ k_) := by
  have hu34 := Try.underlying34
  have HO0_3 := Aside0.mk (show Kd.R k112 112 w w0.heap.size (fun k_ => (P0_3_ k_ ∨ w.heap.size ≤ k_)) u9000_ l0_3 from Kd.R_mono ho0_3 (fun k_ hk => (.inl hk)))
  have HK := Aside0.mk (Kept.refl w (fun k_ => P0_3_ k_))
  have HW0 := Aside0.mk hB.size
  have HB := Aside0.mk hB
  clear hB
  have H : ((laws_markLineS.f k l0_3 a1).bind fun bt57002 => (some (bt57002.1, bt57002.2))) = some (r1, r2) := h
  clear h
  replace H := Option.bind_eq_some_iff.mp H
  obtain ⟨⟨t57002, t57003⟩, A30, H⟩ := H
  replace H : (some (t57002, t57003)) = some (r1, r2) := H
  have A3 := Aside0.mk A30
  clear A30
  simp only [Option.some.injEq, Prod.mk.injEq] at H
  obtain ⟨rfl, rfl⟩ := H
  obtain ⟨Ao4, co4, eo4⟩ := Kd.R_slice HO0_3.out
  subst eo4
  go_enter Try.func56, Try.ntmps56
  go_wp2_with (first | ((with_reducible refine gate_dst (N := 2) rfl ?_); refine box_event ?hg (N := 2) ?hd (cs := #[.int .i64 a0_0, .int .i64 a0_1, .string a0_2, .slice Ao4 l0_3.length co4]) (t := 34) ?hr ?_; (case hd => rfl); (case hg => rfl); (case hr => first | (go_simp; done) | (go_simp; rfl)); intro gb57001 hg w5 hbox hb; have n0_ := Aside0.mk (Kd.R_below (by (with_reducible repeat (first | apply Kd.R_alloc | apply Kd.R_drewN | apply Kd.R_drew)); exact HO0_3.out) hb); have n1_ := Aside0.mk (Kept.below (S := (fun k_ => P0_3_ k_)) (by repeat (first | (with_reducible first | exact HK.out | apply Kept.alloc | apply Kept.drewN | apply Kept.drew) | exact HK.out)) hb); have n2_ := Aside0.mk (below_step (by repeat (first | (with_reducible first | exact HB.out | apply below_alloc | apply pw_below_drewN | apply below_drew1) | exact HB.out)) hb); have n3_ := Aside0.mk (hbox); have n4_ := Aside0.mk ((by rw [hg]; exact (by first | exact HK.out.1 | exact (show Kept w _ (fun k_ => P0_3_ k_) from by repeat (first | (with_reducible first | exact HK.out | apply Kept.alloc | apply Kept.drewN | apply Kept.drew) | exact HK.out)).1) : w.heap.size ≤ gb57001)); have n5_ := Aside0.mk ((by rw [hg]; exact (below_size (by repeat (first | (with_reducible first | exact HB.out | apply below_alloc | apply pw_below_drewN | apply below_drew1) | exact HB.out))) : w0.heap.size ≤ gb57001)); clear HO0_3; clear HK; clear HB; have HO0_3 := n0_; have HK := n1_; have HB := n2_; have BK57001 := n3_; have GW57001 := n4_; have GE57001 := n5_; clear n0_ n1_ n2_ n3_ n4_ n5_; clear hb hbox hg; have hcz6_0 : w5.cell? ⟨gb57001, 0, none⟩ = some (.int .i64 a0_0) := (blk_cell BK57001.out 0).trans rfl; have hcz6_1 : w5.cell? ⟨gb57001, 1, none⟩ = some (.int .i64 a0_1) := (blk_cell BK57001.out 1).trans rfl; have hcz6_2 : w5.cell? ⟨gb57001, 2, none⟩ = some (.string a0_2) := (blk_cell BK57001.out 2).trans rfl; have hcz6_3 : w5.cell? ⟨gb57001, 3, none⟩ = some (.slice Ao4 l0_3.length co4) := (blk_cell BK57001.out 3).trans rfl; have hfz6_0 := blk_frozen BK57001.out 0; have hfz6_1 := blk_frozen BK57001.out 1; have hfz6_2 := blk_frozen BK57001.out 2; have hfz6_3 := blk_frozen BK57001.out 3) | ((with_reducible refine gate_callee (f := 112) rfl ?_); refine goesL_ (some 8) rfl rfl Try.func112 (by kernel_rfl) rfl #[.slice Ao4 l0_3.length co4, .int .i64 a1] rfl (by (try simp only [List.map_toArray, List.map_cons, List.map_nil]); first | done | rfl | (simp only [List.length_drop, List.length_take]; rfl)) ?_; (with_reducible refine (laws_markLineS.calls k (fun k_ => some k_ = (.slice Ao4 l0_3.length co4 : Value).ownBlock) (.slice Ao4 l0_3.length co4) l0_3 a1 t57002 t57003 w0 _ ?side1 ?side2 A3.out).mono ?_); (case side1 => repeat (first | (with_reducible first | exact HB.out | apply below_alloc | apply pw_below_drewN | apply below_drew1 | refine below_set ?_ GE57001.out) | exact HB.out)); (case side2 => exact Kd.R_tight rfl HO0_3.out); rintro e w7 ⟨rfl, hy0, hb, hkp⟩; refine ⟨_, rfl, ?_⟩; have n0_ := Aside0.mk (Kd.R_reok rfl hy0 (fun k_ e_ => HO0_3.out.1 k_ e_)); have n1_ := Aside0.mk (blk_kept (by (with_reducible repeat (first | refine blk_drewN ?_ _ | refine blk_drew ?_ | refine blk_alloc ?_ _)); exact BK57001.out) hkp (fun hs_ => (fun e_ => (Kd.R_ne HO0_3.out BK57001.out (by decide)) e_) hs_)); have n2_ := Aside0.mk (Kept.then_ (S := (fun k_ => P0_3_ k_)) (by repeat (first | (with_reducible first | exact HK.out | apply Kept.alloc | apply Kept.drewN | apply Kept.drew | refine Kept.setCell ?_ (.inr GW57001.out) _) | exact HK.out)) hkp (fun k_ hs_ => (fun e_ => (HO0_3.out.1 k_ e_.symm)) hs_)); have n3_ := Aside0.mk (hb); clear HO0_3; clear BK57001; clear HK; clear HB; have HO0_3 := n0_; have BK57001 := n1_; have HK := n2_; have HB := n3_; clear n0_ n1_ n2_ n3_; (try clear hb); (try clear hkp); (try clear hy0)))
  go_ret
  exact ⟨by first | rfl | (simp [errW_none, errW_some] <;> rfl) | (simp [*, errW_none, errW_some] <;> rfl), by (with_reducible repeat (first | apply Kd.R_alloc | apply Kd.R_drewN | apply Kd.R_drew)); exact HO0_3.out, by repeat (first | (with_reducible first | exact HB.out | apply below_alloc | apply pw_below_drewN | apply below_drew1 | refine below_set ?_ GE57001.out) | exact HB.out), by repeat (first | (with_reducible first | exact HK.out | apply Kept.alloc | apply Kept.drewN | apply Kept.drew | refine Kept.setCell ?_ (.inr GW57001.out) _) | exact HK.out)⟩
end Go.Proofs.Ytphmnkcfjgallaa.Q
namespace Go.Proofs.Ytphmnkcfjgallaa.Q
open Go.RowKit Go.Proofs.YtphmnkcfjgallaaW.PrintWords Go.Proofs.YtphmnkcfjgallaaW.PrintLast Go.Proofs.YtphmnkcfjgallaaW.PrintMore
attribute [local go_sem] max2_int min2_int max_two min_two max_three min_three max_four min_four   -- for this text's walks alone
set_option linter.unusedVariables false
set_option linter.unusedSimpArgs false
noncomputable def laws_toAccountS.l0 : Nat → List (S176) → List (S131) → Int → Option ((List (S131)))
  | 0, _, _, _ => none
  | k + 1, x0, x3, x4 => if x4 < (x0.length : Int) then (if 0 ≤ x4 then ((laws_toAccount.f ((rd_T176 x0 x4).f0) ((rd_T176 x0 x4).f1) ((rd_T176 x0 x4).f2)).bind fun bt105005 => (if x4 < (x3.length : Int) then (laws_toAccountS.l0 k x0 (x3.set (x4 : Int).toNat (⟨bt105005.1, bt105005.2.1, bt105005.2.2⟩ : S131)) (wrap64 (x4 + 1))) else (none))) else (none)) else (some x3)
noncomputable def laws_toAccountS.f (k : Nat) (l0 : List (S176)) : Option ((List (S131))) := if 0 ≤ (l0.length : Int) then (if ((l0.length : Int) : Int).toNat ≤ 8796093022208 then (laws_toAccountS.l0 k l0 (List.replicate ((l0.length : Int) : Int).toNat z131) 0) else (none)) else (none)
set_option maxHeartbeats 8000000 in
set_option maxRecDepth 100000 in
theorem laws_toAccountS.calls (k : Nat) (A0 : Option Addr) (c0 : Nat) (l0 : List (S176)) (r : List (S131)) (w : World) (hr0 : Kd.C k176 w A0 l0.length l0) (hc0 : l0.length ≤ c0) (h : laws_toAccountS.f k l0 = some r) :
    Calls Try.prog 104 #[.slice A0 l0.length c0] w fun e w' => ∃ v0_ : Value, e = .returned (v0_) ∧ Kd.R k131 131 w' w.heap.size (fun _ => True) v0_ r ∧ Below w.heap.size w w' := by
  have hu176 := Try.underlying176
  have hu131 := Try.underlying131
  have HR0 := Aside0.mk hr0
  have HC0 := Aside0.mk hc0
  clear hr0 hc0
  have HB := Aside0.mk (Below.refl w.heap.size w)
  have H : (if 0 ≤ (l0.length : Int) then (if ((l0.length : Int) : Int).toNat ≤ 8796093022208 then (laws_toAccountS.l0 k l0 (List.replicate ((l0.length : Int) : Int).toNat z131) 0) else (none)) else (none)) = some r := h
  clear h
  by_cases c2 : 0 ≤ (l0.length : Int)
  · rw [if_pos c2] at H
    have c2b0 := eq_true c2
    have c2b1 : decide (0 ≤ (l0.length : Int)) = true := decide_eq_true c2
    clear c2
    by_cases c3 : ((l0.length : Int) : Int).toNat ≤ 8796093022208
    · rw [if_pos c3] at H
      have c3b0 := eq_true c3
      have c3b1 : decide (((l0.length : Int) : Int).toNat ≤ 8796093022208) = true := decide_eq_true c3
      clear c3
      obtain ⟨y105001, hy105001⟩ : ∃ y_ : List (S131), y_ = (List.replicate ((l0.length : Int) : Int).toNat z131) := ⟨_, rfl⟩
      replace H : (laws_toAccountS.l0 k l0 y105001 0) = some r := by first | (rw [hy105001]; with_reducible exact H) | (have H2_ := (Option.bind_some _ _).symm.trans H; rw [hy105001]; with_reducible exact H2_) | (have H2_ := (Option.bind_some _ _).symm.trans H; with_reducible exact H2_) | with_reducible exact H | (rw [hy105001]; exact H) | exact H
      have Ny105001 := Aside0.mk hy105001
      clear hy105001
      have H' := Aside0.mk H
      clear H
      go_enter Try.func104, Try.ntmps104
      go_wp2_with (first | ((with_reducible refine gate_dst (N := 7) rfl ?_); refine Kd.R_make k131 _ 131 rfl (N := 7) rfl 24 _ _ rfl (l0.length : Int) rfl rfl Try.underlying24 (.agg #[(.string ⟨#[]⟩), (.int .i64 0), (.int .i64 0)]) 32 info131 rfl (by decide) (by omega) z131 (ok := fun _ => True) (okp := fun _ => True) (k131_mkM _ _ _ z131 ) (fun _ hk => hk) trivial (of_decide_eq_true (by first | (with_reducible assumption) | assumption)) (Nat.le_trans (Nat.mul_le_mul_right _ (of_decide_eq_true (by first | (with_reducible assumption) | assumption) : (l0.length : Int).toNat ≤ 8796093022208)) (by omega)) (Below.refl _ _) (Nat.le_refl _) ?_; intro v105002 w4 ho5 hb hg_ hnew_; clear hg_ hnew_; (first | rw [← Ny105001.out] at ho5 | (simp only [Int.reduceToNat] at ho5; rw [← Ny105001.out] at ho5)); have n0_ := Aside0.mk (Kd.R_lower ho5 (below_size (by repeat (first | (with_reducible first | exact HB.out | apply below_alloc | apply pw_below_drewN | apply below_drew1) | exact HB.out)))); have n1_ := Aside0.mk (below_step (by repeat (first | (with_reducible first | exact HB.out | apply below_alloc | apply pw_below_drewN | apply below_drew1) | exact HB.out)) hb); clear HB; have HO105003 := n0_; have HB := n1_; clear n0_ n1_; clear hb ho5))
      go_loopg [4] k (fun kq v4 w' => ∃ (x3_1 : List (S131)) (x4_1 : Int), v4 = .int .i64 x4_1 ∧ Aside0 (laws_toAccountS.l0 kq l0 x3_1 x4_1 = some r) ∧ Aside0 (kq ≤ k) ∧ Aside0 (Kd.R k131 131 w' w.heap.size (fun _ => True) v105002 x3_1) ∧ Aside0 (Below w.heap.size w w'))
      case atStart => exact ⟨(y105001), (0), (by first | rfl | (simp; done) | (simp [*]; done)), H', ⟨Nat.le_refl _⟩, ⟨by (with_reducible repeat (first | apply Kd.R_alloc | apply Kd.R_drewN | apply Kd.R_drew)); exact HO105003.out⟩, ⟨by repeat (first | (with_reducible first | exact HB.out | apply below_alloc | apply pw_below_drewN | apply below_drew1) | exact HB.out)⟩⟩
      case round =>
        clear H'
        try clear c1
        try clear c2
        try clear c2b0
        try clear c2b1
        try clear p2
        try clear c3
        try clear c3b0
        try clear c3b1
        obtain ⟨x3_1, x4_1, rfl, HA, HK1, HO_3, HB⟩ := hrel
        cases gk with
        | zero => exact absurd HA.out (by simp [laws_toAccountS.l0])
        | succ k1 =>
          have H := HA.out
          clear HA
          simp only [laws_toAccountS.l0] at H
          by_cases c6 : x4_1 < (l0.length : Int)
          · rw [if_pos c6] at H
            have c6b0 : decide (x4_1 < (l0.length : Int)) = true := decide_eq_true c6
            clear c6
            by_cases c7 : 0 ≤ x4_1
            · rw [if_pos c7] at H
              have c7b0 : decide (0 ≤ x4_1) = true := decide_eq_true c7
              clear c7
              replace H := Option.bind_eq_some_iff.mp H
              obtain ⟨⟨t105005, t105006, t105007⟩, A80, H⟩ := H
              replace H : (if x4_1 < (x3_1.length : Int) then (laws_toAccountS.l0 k1 l0 (x3_1.set (x4_1 : Int).toNat (⟨t105005, t105006, t105007⟩ : S131)) (wrap64 (x4_1 + 1))) else (none)) = some r := H
              have A8 := Aside0.mk A80
              clear A80
              by_cases c9 : x4_1 < (x3_1.length : Int)
              · rw [if_pos c9] at H
                have c9b0 : decide (x4_1 < (x3_1.length : Int)) = true := decide_eq_true c9
                clear c9
                obtain ⟨y105008, hy105008⟩ : ∃ y_ : List (S131), y_ = (x3_1.set (x4_1 : Int).toNat (⟨t105005, t105006, t105007⟩ : S131)) := ⟨_, rfl⟩
                replace H : (laws_toAccountS.l0 k1 l0 y105008 (wrap64 (x4_1 + 1))) = some r := by first | (rw [hy105008]; with_reducible exact H) | (have H2_ := (Option.bind_some _ _).symm.trans H; rw [hy105008]; with_reducible exact H2_) | (have H2_ := (Option.bind_some _ _).symm.trans H; with_reducible exact H2_) | with_reducible exact H | (rw [hy105008]; exact H) | exact H
                have Ny105008 := Aside0.mk hy105008
                clear hy105008
                have H' := Aside0.mk H
                clear H
                have p105004 : 0 ≤ (x4_1 : Int) := of_decide_eq_true (by first | (with_reducible assumption) | assumption)
                have q105004 : x4_1 < (l0.length : Int) := of_decide_eq_true (by first | (with_reducible assumption) | assumption)
                obtain ⟨ad105004, e105004, hx105004_0, hx105004_1, hx105004_2⟩ := at_T176 HR0.out x4_1 p105004 q105004
                cases e105004
                replace hx105004_0 := (HB.out.cell (World.block_lt_of_cell? w _ hx105004_0)).trans hx105004_0
                replace hx105004_1 := (HB.out.cell (World.block_lt_of_cell? w _ hx105004_1)).trans hx105004_1
                replace hx105004_2 := (HB.out.cell (World.block_lt_of_cell? w _ hx105004_2)).trans hx105004_2
                replace p105004 := eq_true p105004
                replace q105004 := eq_true q105004
                go_wp2_with (first | ((with_reducible refine gate_callee (f := 145) rfl ?_); refine goesL_ (some 20) rfl rfl Try.func145 (by kernel_rfl) rfl #[.agg #[.string ((rd_T176 l0 x4_1).f0), .int .i64 ((rd_T176 l0 x4_1).f1), .int .i64 ((rd_T176 l0 x4_1).f2)]] rfl (by (try simp only [List.map_toArray, List.map_cons, List.map_nil]); first | done | rfl | (simp only [List.length_drop, List.length_take]; rfl)) ?_; (with_reducible refine (laws_toAccount.calls ((rd_T176 l0 x4_1).f0) ((rd_T176 l0 x4_1).f1) ((rd_T176 l0 x4_1).f2) t105005 t105006 t105007 _ A8.out).mono ?_); rintro e w11 ⟨rfl, hb⟩; refine ⟨_, rfl, ?_⟩; have n0_ := Aside0.mk (Kd.R_below (by (with_reducible repeat (first | apply Kd.R_alloc | apply Kd.R_drewN | apply Kd.R_drew)); exact HO_3.out) hb); have n1_ := Aside0.mk (below_step (by repeat (first | (with_reducible first | exact HB.out | apply below_alloc | apply pw_below_drewN | apply below_drew1) | exact HB.out)) hb); clear HO_3; clear HB; have HO_3 := n0_; have HB := n1_; clear n0_ n1_; (try clear hb); (try clear hb2); (try clear hk); (try clear hi); have p10 : 0 ≤ (x4_1 : Int) := of_decide_eq_true (by first | (with_reducible assumption) | assumption); have q10 : (x4_1 : Int) < ((x3_1.length : Int) : Int) := of_decide_eq_true (by first | (with_reducible assumption) | assumption); obtain ⟨go10, co10, eo10, gb10, gl10, cl10, HG10⟩ := Kd.R_form HO_3.out (by omega); (first | cases eo10 | (injection eo10 with ea_ en_ ec_; (first | subst ea_ | (injection ea_ with ea_; subst ea_)); subst ec_; clear en_)); have GB10 := Aside0.mk gb10; have GG10 := Aside0.mk HG10; clear gb10 gl10 HG10; obtain ⟨ce10, hcl10, hM10, hcc10, hfr10⟩ := Kd.R_elem HO_3.out z131 (x4_1 : Int) p10 q10; obtain rfl := k131_openM hM10; have hx10_0 : w11.cell? ⟨go10, (x4_1 : Int).toNat * 3, none⟩ = some (.string ((rd_T131 x3_1 x4_1).f0)) := hcc10 0 _ rfl; have hx10_1 : w11.cell? ⟨go10, (x4_1 : Int).toNat * 3 + 1, none⟩ = some (.int .i64 ((rd_T131 x3_1 x4_1).f1)) := hcc10 1 _ rfl; have hx10_2 : w11.cell? ⟨go10, (x4_1 : Int).toNat * 3 + 2, none⟩ = some (.int .i64 ((rd_T131 x3_1 x4_1).f2)) := hcc10 2 _ rfl; have hf10_0 : w11.frozen? ⟨go10, (x4_1 : Int).toNat * 3, none⟩ = false := hfr10 0; have hf10_1 : w11.frozen? ⟨go10, (x4_1 : Int).toNat * 3 + 1, none⟩ = false := hfr10 1; have hf10_2 : w11.frozen? ⟨go10, (x4_1 : Int).toNat * 3 + 2, none⟩ = false := hfr10 2; clear hcl10 hcc10 hfr10 hM10; replace p10 := eq_true p10; replace q10 := eq_true q10; have HX12 := Aside0.mk (show Kd.R k131 131 w11 w.heap.size (fun _ => True) (.slice (some ⟨go10, 0, none⟩) x3_1.length co10) x3_1 from (by (with_reducible repeat (first | apply Kd.R_alloc | apply Kd.R_drewN | apply Kd.R_drew)); exact HO_3.out)); obtain ⟨ce12, hcl12, hM12, hcc12, hfr12⟩ := Kd.R_elem HX12.out z131 (x4_1 : Int) (of_decide_eq_true (by first | (with_reducible assumption) | assumption)) (by have h_ : (x4_1 : Int) < ((x3_1.length : Int) : Int) := of_decide_eq_true (by first | (with_reducible assumption) | assumption); first | exact h_ | (have e_ := (Kd.R_reads' HO_3.out).1; omega) | simpa using h_); obtain rfl := k131_openM hM12; have HP12 := Kd.R_seg HX12.out (x4_1 : Int) (of_decide_eq_true (by first | (with_reducible assumption) | assumption)) (by have h_ : (x4_1 : Int) < ((x3_1.length : Int) : Int) := of_decide_eq_true (by first | (with_reducible assumption) | assumption); first | exact h_ | (have e_ := (Kd.R_reads' HO_3.out).1; omega) | simpa using h_) (seg := [.string t105005, .int .i64 t105006, .int .i64 t105007]) (j := 0) hcl12 hcc12 (show 3 ≤ 3 from by decide) (x' := (⟨t105005, t105006, t105007⟩ : S131)) (k131_mkM _ _ _ (⟨t105005, t105006, t105007⟩ : S131) ) (fun _ hk => hk); have hx12_0 := hcc12 0 _ rfl; (try simp only [show (k131).sz = 3 from rfl, Nat.mul_one, Nat.add_zero] at hx12_0); have hf12_0 := hfr12 0; (try simp only [show (k131).sz = 3 from rfl, Nat.mul_one, Nat.add_zero] at hf12_0); have hx12_1 := hcc12 1 _ rfl; (try simp only [show (k131).sz = 3 from rfl, Nat.mul_one, Nat.add_zero] at hx12_1); have hf12_1 := hfr12 1; (try simp only [show (k131).sz = 3 from rfl, Nat.mul_one, Nat.add_zero] at hf12_1); have hx12_2 := hcc12 2 _ rfl; (try simp only [show (k131).sz = 3 from rfl, Nat.mul_one, Nat.add_zero] at hx12_2); have hf12_2 := hfr12 2; (try simp only [show (k131).sz = 3 from rfl, Nat.mul_one, Nat.add_zero] at hf12_2); clear hcl12 hcc12 hfr12 hM12) | ((with_reducible refine gate_store (t := 131) (p := 21) rfl ?_); refine store_event (t := 131) (p := 21) (v := ?vo_w13) (w1 := (((w11.setCell ⟨go10, (x4_1 : Int).toNat * 3, none⟩ (.string t105005)).setCell ⟨go10, (x4_1 : Int).toNat * 3 + 1, none⟩ (.int .i64 t105006)).setCell ⟨go10, (x4_1 : Int).toNat * 3 + 2, none⟩ (.int .i64 t105007))) ?hg ?ho ?hn ?hr ?_; (case ho => rfl); (case hg => rfl); (case hn => rfl); (case hr => first | (go_simp; done) | (go_simp; rfl)); intro w13 hw; have hg : w11.grownBy w13 (some go10) := (by rw [hw]; exact HP12.2); have hp_ : Kd.R k131 131 w13 w.heap.size (fun _ => True) (.slice (some ⟨go10, 0, none⟩) x3_1.length co10) y105008 := (by rw [hw, Ny105008.out]; exact HP12.1); clear HP12; have n0_ := Aside0.mk (hp_); have n1_ := Aside0.mk ((by rw [hw]; exact below_set (below_set (below_set (HB.out) GB10.out) GB10.out) GB10.out : Below w.heap.size w w13)); clear HO_3; clear HB; have HO_3 := n0_; have HB := n1_; clear n0_ n1_; clear hg hw hp_))
                go_roundg k1
                case measure => have := HK1.out; omega
                case rel => exact ⟨(y105008), (wrap64 (x4_1 + 1)), (by first | rfl | (simp; done) | (simp [*]; done)), H', ⟨by have := HK1.out; omega⟩, ⟨by (with_reducible repeat (first | apply Kd.R_alloc | apply Kd.R_drewN | apply Kd.R_drew)); exact HO_3.out⟩, ⟨by repeat (first | (with_reducible first | exact HB.out | apply below_alloc | apply pw_below_drewN | apply below_drew1) | exact HB.out)⟩⟩
              · rw [if_neg c9] at H
                exact absurd H (by simp)
            · rw [if_neg c7] at H
              exact absurd H (by simp)
          · rw [if_neg c6] at H
            have c6b0 : decide (x4_1 < (l0.length : Int)) = false := decide_eq_false c6
            clear c6
            obtain rfl := Option.some.inj H
            go_wp2
            go_ret
            exact ⟨_, by first | rfl | (simp [errW_none, errW_some] <;> rfl) | (simp [*, errW_none, errW_some] <;> rfl), by (with_reducible repeat (first | apply Kd.R_alloc | apply Kd.R_drewN | apply Kd.R_drew)); exact HO_3.out, by repeat (first | (with_reducible first | exact HB.out | apply below_alloc | apply pw_below_drewN | apply below_drew1) | exact HB.out)⟩
    · rw [if_neg c3] at H
      exact absurd H (by simp)
  · rw [if_neg c2] at H
    exact absurd H (by simp)
end Go.Proofs.Ytphmnkcfjgallaa.Q
