/- Parts of the proof: what functions of the program and of the reference answer.
   No condition. -/
import Derived.Test.YtphmnkcfjgallaaZClose1
namespace Go.Proofs.Ytphmnkcfjgallaa.Q
open Go.RowKit Go.Proofs.YtphmnkcfjgallaaW.PrintWords Go.Proofs.YtphmnkcfjgallaaW.PrintLast Go.Proofs.YtphmnkcfjgallaaW.PrintMore
attribute [local go_sem] max2_int min2_int max_two min_two max_three min_three max_four min_four   -- for this text's walks alone
set_option linter.unusedVariables false
set_option linter.unusedSimpArgs false
abbrev Lin := S112
abbrev Ent := S34
def lineP (chart : List Acc) (dims curs : Int) (x : Lin) : Prop :=
  leafP chart x.f0 ∧ (0 ≤ x.f1 ∧ x.f1 ≤ dims - 1) ∧ (0 ≤ x.f2 ∧ x.f2 ≤ curs - 1) ∧ (-100000000000 ≤ x.f3 ∧ x.f3 ≤ 100000000000) ∧ (-100000000000 ≤ x.f4 ∧ x.f4 ≤ 100000000000) ∧ (x.f2 = 0 → x.f3 = x.f4)
def curSum : List Lin → Int → Int
  | [], _ => 0
  | x :: l, c => (if x.f2 = c then x.f3 else 0) + curSum l c
def dimSum : List Lin → Int → Int
  | [], _ => 0
  | x :: l, d => (if x.f1 = d then x.f4 else 0) + dimSum l d
def textUpto (s : ByteArray) (i : Int) : Prop := ∀ j : Int, 0 ≤ j → j < i → 32 ≤ bt s j
def entryP (chart : List Acc) (dims curs : Int) (e : Ent) : Prop :=
  (0 ≤ e.f0 ∧ e.f0 ≤ 40000) ∧ (0 ≤ e.f1 ∧ e.f1 ≤ 1000) ∧ e.f2.size ≤ 40 ∧ (2 ≤ e.f3.length ∧ e.f3.length ≤ 60) ∧ textUpto e.f2 e.f2.size ∧ (∀ x ∈ e.f3, lineP chart dims curs x) ∧ (∀ x ∈ e.f3, curSum e.f3 x.f2 = 0 ∧ dimSum e.f3 x.f1 = 0)
open Classical in
noncomputable def entryB (chart : List Acc) (dims curs : Int) (e : Ent) : Bool := decide (entryP chart dims curs e)
open Classical in
theorem entryB_true {chart : List Acc} {dims curs : Int} {e : Ent} : entryB chart dims curs e = true ↔ entryP chart dims curs e := by unfold entryB; rw [decide_eq_true_eq]
theorem entryB_not {chart : List Acc} {dims curs : Int} {e : Ent} (h : ¬ entryP chart dims curs e) : false = entryB chart dims curs e := by
  cases hb : entryB chart dims curs e with
  | false => rfl
  | true => exact absurd (entryB_true.1 hb) h
theorem curSum_snoc (l : List Lin) (x : Lin) (c : Int) : curSum (l ++ [x]) c = curSum l c + if x.f2 = c then x.f3 else 0 := by
  induction l with
  | nil => simp [curSum]
  | cons y l ih => simp only [List.cons_append, curSum, ih]; omega
theorem dimSum_snoc (l : List Lin) (x : Lin) (c : Int) : dimSum (l ++ [x]) c = dimSum l c + if x.f1 = c then x.f4 else 0 := by
  induction l with
  | nil => simp [dimSum]
  | cons y l ih => simp only [List.cons_append, dimSum, ih]; omega
def smallLines (l : List Lin) : Prop := ∀ x ∈ l, (-100000000000 ≤ x.f3 ∧ x.f3 ≤ 100000000000) ∧ (-100000000000 ≤ x.f4 ∧ x.f4 ≤ 100000000000)
theorem curSum_small {l : List Lin} (h : smallLines l) (c : Int) : -100000000000 * (l.length : Int) ≤ curSum l c ∧ curSum l c ≤ 100000000000 * (l.length : Int) := by
  induction l with
  | nil => simp [curSum]
  | cons y l ih =>
    have h1 := ih (fun x hx => h x (List.mem_cons_of_mem _ hx))
    have h2 := (h y List.mem_cons_self).1
    simp only [curSum, List.length_cons]
    split <;> (constructor <;> (push_cast; omega))
theorem dimSum_small {l : List Lin} (h : smallLines l) (c : Int) : -100000000000 * (l.length : Int) ≤ dimSum l c ∧ dimSum l c ≤ 100000000000 * (l.length : Int) := by
  induction l with
  | nil => simp [dimSum]
  | cons y l ih =>
    have h1 := ih (fun x hx => h x (List.mem_cons_of_mem _ hx))
    have h2 := (h y List.mem_cons_self).2
    simp only [dimSum, List.length_cons]
    split <;> (constructor <;> (push_cast; omega))
noncomputable def sumsOf (l : List Lin) (p : Int × Int) : Option Int := open Classical in
  if p.1 = 0 then (if ∃ x ∈ l, x.f2 = p.2 then some (curSum l p.2) else none)
  else if p.1 = 1 then (if ∃ x ∈ l, x.f1 = p.2 then some (dimSum l p.2) else none) else none
theorem curSum_none {l : List Lin} {c : Int} (h : ¬ ∃ x ∈ l, x.f2 = c) : curSum l c = 0 := by
  induction l with
  | nil => rfl
  | cons y l ih =>
    simp only [curSum]
    rw [if_neg (fun e => h ⟨y, List.mem_cons_self, e⟩), ih (fun ⟨x, hx, e⟩ => h ⟨x, List.mem_cons_of_mem _ hx, e⟩)]
    rfl
theorem dimSum_none {l : List Lin} {c : Int} (h : ¬ ∃ x ∈ l, x.f1 = c) : dimSum l c = 0 := by
  induction l with
  | nil => rfl
  | cons y l ih =>
    simp only [dimSum]
    rw [if_neg (fun e => h ⟨y, List.mem_cons_self, e⟩), ih (fun ⟨x, hx, e⟩ => h ⟨x, List.mem_cons_of_mem _ hx, e⟩)]
    rfl
theorem sums_cur (l : List Lin) (c : Int) : (sumsOf l (0, c)).getD 0 = curSum l c := by
  unfold sumsOf
  simp only [if_true]
  split
  · rfl
  · rename_i h
    rw [curSum_none h]; rfl
theorem sums_dim (l : List Lin) (c : Int) : (sumsOf l (1, c)).getD 0 = dimSum l c := by
  unfold sumsOf
  rw [if_neg (by simp), if_pos rfl]
  split
  · rfl
  · rename_i h
    rw [dimSum_none h]; rfl
theorem sums_nil : sumsOf [] = fun _ => none := by
  funext p
  unfold sumsOf
  simp
theorem sums_snoc (l : List Lin) (x : Lin) : HMap.upd (HMap.upd (sumsOf l) (0, x.f2) (curSum l x.f2 + x.f3)) (1, x.f1) (dimSum l x.f1 + x.f4) = sumsOf (l ++ [x]) := by
  funext p
  obtain ⟨a, b⟩ := p
  by_cases h1 : (a, b) = (1, x.f1)
  · rw [h1, HMap.upd_same]
    unfold sumsOf
    rw [if_neg (by simp), if_pos rfl, if_pos ⟨x, by simp, rfl⟩, dimSum_snoc, if_pos rfl]
  · rw [HMap.upd_other _ _ h1]
    by_cases h0 : (a, b) = (0, x.f2)
    · rw [h0, HMap.upd_same]
      unfold sumsOf
      rw [if_pos rfl, if_pos ⟨x, by simp, rfl⟩, curSum_snoc, if_pos rfl]
    · rw [HMap.upd_other _ _ h0]
      unfold sumsOf
      by_cases ha : a = 0
      · subst ha
        have hb : x.f2 ≠ b := fun e => h0 (by rw [e])
        simp only [if_true]
        rw [curSum_snoc, if_neg hb, Int.add_zero]
        have he : (∃ y ∈ l ++ [x], y.f2 = b) ↔ ∃ y ∈ l, y.f2 = b := by
          constructor
          · rintro ⟨y, hy, e⟩
            rcases List.mem_append.1 hy with hy | hy
            · exact ⟨y, hy, e⟩
            · simp at hy; subst hy; exact absurd e hb
          · rintro ⟨y, hy, e⟩
            exact ⟨y, List.mem_append_left _ hy, e⟩
        simp only [he]
      · simp only [ha, if_false]
        by_cases ha1 : a = 1
        · subst ha1
          have hb : x.f1 ≠ b := fun e => h1 (by rw [e])
          simp only [if_true]
          rw [dimSum_snoc, if_neg hb, Int.add_zero]
          have he : (∃ y ∈ l ++ [x], y.f1 = b) ↔ ∃ y ∈ l, y.f1 = b := by
            constructor
            · rintro ⟨y, hy, e⟩
              rcases List.mem_append.1 hy with hy | hy
              · exact ⟨y, hy, e⟩
              · simp at hy; subst hy; exact absurd e hb
            · rintro ⟨y, hy, e⟩
              exact ⟨y, List.mem_append_left _ hy, e⟩
          simp only [he]
        · simp only [ha1, if_false]
theorem sums_zero {l : List Lin} : (∀ p v, sumsOf l p = some v → v = 0) ↔ ∀ x ∈ l, curSum l x.f2 = 0 ∧ dimSum l x.f1 = 0 := by
  constructor
  · intro h x hx
    constructor
    · exact h (0, x.f2) _ (by unfold sumsOf; rw [if_pos rfl, if_pos ⟨x, hx, rfl⟩])
    · exact h (1, x.f1) _ (by unfold sumsOf; rw [if_neg (by simp), if_pos rfl, if_pos ⟨x, hx, rfl⟩])
  · intro h p v hv
    unfold sumsOf at hv
    split at hv
    · split at hv
      · rename_i hx
        obtain ⟨x, hx, e⟩ := hx
        cases hv
        rw [← e]; exact (h x hx).1
      · cases hv
    · split at hv
      · split at hv
        · rename_i hx
          obtain ⟨x, hx, e⟩ := hx
          cases hv
          rw [← e]; exact (h x hx).2
        · cases hv
      · cases hv
end Go.Proofs.Ytphmnkcfjgallaa.Q
namespace Go.Proofs.Ytphmnkcfjgallaa.Q
open Go.RowKit Go.Proofs.YtphmnkcfjgallaaW.PrintWords Go.Proofs.YtphmnkcfjgallaaW.PrintLast Go.Proofs.YtphmnkcfjgallaaW.PrintMore
attribute [local go_sem] max2_int min2_int max_two min_two max_three min_three max_four min_four   -- for this text's walks alone
set_option linter.unusedVariables false
set_option linter.unusedSimpArgs false
set_option maxHeartbeats 4000000 in
set_option maxRecDepth 100000 in
theorem impl_nameByte.to (a0 : Int) (w : World) : Calls Try.prog 164 #[.int .u8 a0] w fun e w' => e = .returned (.bool (nameB a0)) ∧ w' = w := by
  go_enter Try.func164, Try.ntmps164
  go_wp2
  all_goals
    go_ret
    refine ⟨ret_bool ?_, rfl⟩
    unfold nameB
    rw [Bool.eq_iff_iff]
    simp
    try omega
end Go.Proofs.Ytphmnkcfjgallaa.Q
namespace Go.Proofs.Ytphmnkcfjgallaa.Q
open Go.RowKit Go.Proofs.YtphmnkcfjgallaaW.PrintWords Go.Proofs.YtphmnkcfjgallaaW.PrintLast Go.Proofs.YtphmnkcfjgallaaW.PrintMore
attribute [local go_sem] max2_int min2_int max_two min_two max_three min_three max_four min_four   -- for this text's walks alone
set_option linter.unusedVariables false
set_option linter.unusedSimpArgs false
set_option maxRecDepth 100000 in
theorem impl_between.to (a b c : Int) (w : World) : Calls Try.prog 100 #[.int .i64 a, .int .i64 b, .int .i64 c] w fun e w' => e = .returned (.bool (inB a b c)) ∧ w' = w := by
  go_enter Try.func100, Try.ntmps100
  go_wp2
  all_goals
    go_ret
    refine ⟨ret_bool ?_, rfl⟩
    unfold inB
    rw [Bool.eq_iff_iff]
    simp
    try omega
end Go.Proofs.Ytphmnkcfjgallaa.Q
namespace Go.Proofs.Ytphmnkcfjgallaa.Q
open Go.RowKit Go.Proofs.YtphmnkcfjgallaaW.PrintWords Go.Proofs.YtphmnkcfjgallaaW.PrintLast Go.Proofs.YtphmnkcfjgallaaW.PrintMore
attribute [local go_sem] max2_int min2_int max_two min_two max_three min_three max_four min_four   -- for this text's walks alone
set_option linter.unusedVariables false
set_option linter.unusedSimpArgs false
set_option maxHeartbeats 4000000 in
set_option maxRecDepth 100000 in
theorem impl_leafAt.to (A0 : Option Addr) (c0 : Nat) (l0 : List Acc) (a : Int) (w : World) (hr0 : Kd.C k131 w A0 l0.length l0) :
    Calls Try.prog 101 #[.slice A0 l0.length c0, .int .i64 a] w fun e w' => e = .returned (.bool (leafB l0 a)) ∧ w' = w := by
  have hl := hr0.2.1
  have H0 := Aside0.mk hr0
  clear hr0
  by_cases h0 : 0 ≤ a
  · by_cases h1 : a < (l0.length : Int)
    · by_cases h2 : a + 1 = (l0.length : Int)
      · have hb : (a + 1 == (l0.length : Int)) = true := beq_iff_eq.2 h2
        have HQ := Aside0.mk (leafB_of (show leafP l0 a from ⟨h0, h1, Or.inl h2⟩))
        clear h2
        go_enter Try.func101, Try.ntmps101
        go_wp2_with fail
        go_ret
        exact ⟨ret_bool HQ.out.symm, rfl⟩
      · have hb : (a + 1 == (l0.length : Int)) = false := beq_eq_false_iff_ne.2 h2
        have hn0 : 0 ≤ a + 1 := by omega
        have hn1 : a + 1 < (l0.length : Int) := by omega
        obtain ⟨ad, e0, x0, x1, x2⟩ := at_T131 H0.out (a + 1) hn0 hn1
        cases e0
        by_cases h3 : (rd_T131 l0 (a + 1)).f1 = a
        · have hb3 : ((rd_T131 l0 (a + 1)).f1 != a) = false := by rw [h3]; exact bne_self_eq_false' _
          have HQ := Aside0.mk (leafB_not (show ¬ leafP l0 a from fun q => by rcases q.2.2 with q | q; exact h2 q; exact q h3))
          clear h2 h3
          go_enter Try.func101, Try.ntmps101
          go_wp2_with fail
          go_ret
          exact ⟨ret_bool HQ.out.symm, rfl⟩
        · have hb3 : ((rd_T131 l0 (a + 1)).f1 != a) = true := bne_iff_ne.2 h3
          have HQ := Aside0.mk (leafB_of (show leafP l0 a from ⟨h0, h1, Or.inr h3⟩))
          clear h2 h3
          go_enter Try.func101, Try.ntmps101
          go_wp2_with fail
          go_ret
          exact ⟨ret_bool HQ.out.symm, rfl⟩
    · have HQ := Aside0.mk (leafB_not (show ¬ leafP l0 a from fun q => h1 q.2.1))
      go_enter Try.func101, Try.ntmps101
      go_wp2_with fail
      go_ret
      exact ⟨ret_bool HQ.out.symm, rfl⟩
  · have HQ := Aside0.mk (leafB_not (show ¬ leafP l0 a from fun q => h0 q.1))
    go_enter Try.func101, Try.ntmps101
    go_wp2_with fail
    go_ret
    exact ⟨ret_bool HQ.out.symm, rfl⟩
end Go.Proofs.Ytphmnkcfjgallaa.Q
