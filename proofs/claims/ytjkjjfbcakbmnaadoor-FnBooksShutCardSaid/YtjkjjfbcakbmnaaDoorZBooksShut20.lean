/- Parts of the proof: what functions of the program and of the reference answer.
   No condition. -/
import Derived.Test.YtjkjjfbcakbmnaaDoorZBooksShut1
import Derived.Test.YtjkjjfbcakbmnaaDoorZBooksShut18
import Derived.Test.YtjkjjfbcakbmnaaDoorZBooksShut17
import Derived.Test.YtjkjjfbcakbmnaaDoorZBooksShut13
import Derived.Test.YtjkjjfbcakbmnaaDoorZBooksShut5
import Derived.Test.YtjkjjfbcakbmnaaDoorZBooksShut2
import Derived.Test.YtjkjjfbcakbmnaaDoorZBooksShut8
namespace Go.Proofs.YtjkjjfbcakbmnaaDoor.Q
open Go.RowKit Go.Proofs.YtjkjjfbcakbmnaaDoorW.PrintWords Go.Proofs.YtjkjjfbcakbmnaaDoorW.PrintLast Go.Proofs.YtjkjjfbcakbmnaaDoorW.PrintMore
attribute [local go_sem] max2_int min2_int max_two min_two max_three min_three max_four min_four   -- for this text's walks alone
set_option linter.unusedVariables false
set_option linter.unusedSimpArgs false
open Classical in
noncomputable def headR (h : Int) : List Ent → Int
  | [] => h
  | e :: l => if tooLong e then 0 else if (linkAll (h, false) (numsOf e)).2 = true then 0 else headR (linkAll (h, false) (numsOf e)).1 l
theorem linkStep_bad (h x : Int) : (linkStep (h, true) x).2 = true := by unfold linkStep; split <;> rfl
theorem linkAll_bad (xs : List Int) : ∀ s : Int × Bool, s.2 = true → (linkAll s xs).2 = true := by
  induction xs with
  | nil => intro s h; exact h
  | cons x xs ih =>
    intro s h
    obtain ⟨a, b⟩ := s
    cases h
    exact ih _ (linkStep_bad a x)
theorem headR_eq (l : List Ent) : ∀ h : Int, headR h l = open Classical in if ∃ e ∈ l, tooLong e then 0 else if (linkAll (h, false) (l.flatMap numsOf)).2 = true then 0 else (linkAll (h, false) (l.flatMap numsOf)).1 := by
  induction l with
  | nil => intro h; simp [headR, linkAll]
  | cons e l ih =>
    intro h
    unfold headR
    by_cases ht : tooLong e
    · rw [if_pos ht, if_pos ⟨e, List.mem_cons_self, ht⟩]
    · rw [if_neg ht]
      have hq : (∃ x ∈ e :: l, tooLong x) ↔ ∃ x ∈ l, tooLong x := by
        constructor
        · rintro ⟨x, hx, q⟩
          rcases List.mem_cons.1 hx with rfl | hx
          · exact absurd q ht
          · exact ⟨x, hx, q⟩
        · rintro ⟨x, hx, q⟩
          exact ⟨x, List.mem_cons_of_mem _ hx, q⟩
      rw [List.flatMap_cons, linkAll_append]
      by_cases hE : ∃ x ∈ l, tooLong x
      · rw [if_pos (hq.2 hE), ih, if_pos hE]
        split <;> rfl
      · rw [if_neg (fun q => hE (hq.1 q))]
        cases hb : (linkAll (h, false) (numsOf e)).2 with
        | true => rw [if_pos rfl, if_pos (linkAll_bad _ _ hb)]
        | false =>
          rw [if_neg (by simp), ih, if_neg hE]
          rw [show linkAll (h, false) (numsOf e) = ((linkAll (h, false) (numsOf e)).1, false) from Prod.ext rfl hb]
theorem headV_eq (l : List Ent) : headV l = if 1000 < l.length then 0 else headR 1 l := by
  unfold headV
  rw [headR_eq]
  by_cases h : 1000 < l.length
  · rw [if_pos h, if_pos (Or.inl h)]
  · rw [if_neg h]
    by_cases hE : ∃ e ∈ l, tooLong e
    · rw [if_pos (Or.inr hE), if_pos hE]
    · rw [if_neg (fun q => q.elim h hE), if_neg hE]
theorem nums_l1 (a0 a1 : Int) (t : ByteArray) (ls : List Lin) (hl : ls.length ≤ 60) : ∀ (n k : Nat) (i : Int) (acc : List Int), 0 ≤ i → i + n = (ls.length : Int) → acc.length + 5 * n ≤ 1000 →
    spec_l5Numbers.l1 (k + n + 1) acc i a0 a1 t ls = some (acc ++ (ls.drop i.toNat).flatMap lineNums) := by
  intro n
  induction n with
  | zero =>
    intro k i acc h0 h1 h2
    unfold spec_l5Numbers.l1
    rw [if_neg (by omega), List.drop_of_length_le (by omega)]
    simp
  | succ n ih =>
    intro k i acc h0 h1 h2
    rw [show k + (n + 1) + 1 = (k + n + 1) + 1 by omega]
    unfold spec_l5Numbers.l1
    rw [if_pos (by omega), if_pos h0]
    show (if acc.length + 5 < 17592186044416 then _ else _) = _
    rw [if_pos (by omega), show wrap64 (i + 1) = i + 1 by unfold wrap64; omega]
    rw [ih k (i + 1) _ (by omega) (by omega) (by simp; omega)]
    rw [List.append_assoc]
    congr 2
    rw [List.drop_eq_getElem_cons (show i.toNat < ls.length by omega), List.flatMap_cons, show (i + 1).toNat = i.toNat + 1 by omega]
    congr 1
    unfold rd_T81 lineNums
    rw [List.getD_eq_getElem?_getD, List.getElem?_eq_getElem (by omega)]
    rfl
theorem nums_l0 (e : Ent) (hl : e.f3.length ≤ 60) (ht : e.f2.size ≤ 40) : ∀ (n k : Nat) (i : Int), 0 ≤ i → i + n = (e.f2.size : Int) →
    spec_l5Numbers.l0 (k + n + e.f3.length + 2) ([e.f0, e.f1, (e.f2.size : Int)] ++ bytesN e.f2 i.toNat) i e.f0 e.f1 e.f2 e.f3 = some (numsOf e) := by
  have hb : ∀ m : Nat, (bytesN e.f2 m).length = m := by
    intro m
    induction m with
    | zero => rfl
    | succ m ih => simp [bytesN, ih]
  intro n
  induction n with
  | zero =>
    intro k i h0 h1
    obtain rfl : i = (e.f2.size : Int) := by omega
    rw [show k + 0 + e.f3.length + 2 = (k + e.f3.length + 1) + 1 by omega]
    unfold spec_l5Numbers.l0
    rw [if_neg (by omega), if_pos (by simp [hb]; omega), nums_l1 _ _ _ _ hl e.f3.length k 0 _ (by omega) (by omega) (by simp [hb]; omega)]
    unfold numsOf
    simp
  | succ n ih =>
    intro k i h0 h1
    rw [show k + (n + 1) + e.f3.length + 2 = (k + n + e.f3.length + 2) + 1 by omega]
    unfold spec_l5Numbers.l0
    rw [if_pos (by omega), if_pos h0, if_pos (by simp [hb]; omega)]
    have hr := bt_range e.f2 i
    rw [show wrap64 (i + 1) = i + 1 by unfold wrap64; omega, show wrap64 (bt e.f2 i) = bt e.f2 i by unfold wrap64; omega]
    have hs := ih k (i + 1) (by omega) (by omega)
    rw [show (i + 1).toNat = i.toNat + 1 by omega] at hs
    rw [← hs, List.append_assoc]
    show _ = spec_l5Numbers.l0 _ (_ ++ (bytesN e.f2 i.toNat ++ [bt e.f2 (i.toNat : Int)])) _ _ _ _ _
    rw [show ((i.toNat : Nat) : Int) = i by omega]
theorem nums_f (e : Ent) (h : ¬ tooLong e) {k : Nat} (hk : 200 ≤ k) : spec_l5Numbers.f k e.f0 e.f1 e.f2 e.f3 = some (numsOf e) := by
  unfold tooLong at h
  have := nums_l0 e (by omega) (by omega) e.f2.size (k - e.f2.size - e.f3.length - 2) 0 (by omega) (by omega)
  rw [show k - e.f2.size - e.f3.length - 2 + e.f2.size + e.f3.length + 2 = k by omega] at this
  exact this
theorem nums_len (e : Ent) (h : ¬ tooLong e) : (numsOf e).length ≤ 350 := by
  unfold tooLong at h
  have hb : ∀ m : Nat, (bytesN e.f2 m).length = m := by
    intro m
    induction m with
    | zero => rfl
    | succ m ih => simp [bytesN, ih]
  have hf : ∀ l : List Lin, (l.flatMap lineNums).length = 5 * l.length := by
    intro l
    induction l with
    | nil => rfl
    | cons x l ih => rw [List.flatMap_cons, List.length_append, ih]; simp [lineNums]; omega
  unfold numsOf
  simp only [List.length_append, hb, hf, List.length_cons, List.length_nil]
  omega
theorem link_wrap {h x : Int} (hh : HeadIn (h, false)) (hx : inB x (-549755813888) 549755813887 = true) : ((Int.tmod (wrap64 ((wrap64 ((wrap64 (h * 1000003)) + x)) + 549755813888)) 1099511627791), false) = linkStep (h, false) x := by
  obtain ⟨h0, h1⟩ := hh
  have hx' := inB_true.1 hx
  simp only at h0 h1
  rw [show wrap64 (h * 1000003) = h * 1000003 by unfold wrap64; omega, show wrap64 (h * 1000003 + x) = h * 1000003 + x by unfold wrap64; omega, show wrap64 (h * 1000003 + x + 549755813888) = h * 1000003 + x + 549755813888 by unfold wrap64; omega]
  unfold linkStep
  rw [if_pos hx', Int.tmod_eq_emod_of_nonneg (by omega)]
theorem link_out {h x : Int} (hx : inB x (-549755813888) 549755813887 = false) : linkStep (h, false) x = (h, true) := if_neg (inB_false.1 hx)
theorem head_l1 (l : List Ent) (xs : List Int) (i : Int) : ∀ (n k : Nat) (h j : Int), 0 ≤ j → j + n = (xs.length : Int) → xs.length ≤ 350 → HeadIn (h, false) →
    spec_HeadOf.l1 (k + n + 1) l h i xs j = if (linkAll (h, false) (xs.drop j.toNat)).2 = true then some 0 else spec_HeadOf.l0 k l (linkAll (h, false) (xs.drop j.toNat)).1 (wrap64 (i + 1)) := by
  intro n
  induction n with
  | zero =>
    intro k h j h0 h1 h2 hh
    unfold spec_HeadOf.l1
    rw [if_neg (by omega), List.drop_of_length_le (by omega)]
    rfl
  | succ n ih =>
    intro k h j h0 h1 h2 hh
    rw [show k + (n + 1) + 1 = (k + n + 1) + 1 by omega]
    unfold spec_HeadOf.l1
    rw [if_pos (by omega), if_pos h0]
    have hd : xs.drop j.toNat = rd xs j :: xs.drop (j + 1).toNat := by
      rw [List.drop_eq_getElem_cons (show j.toNat < xs.length by omega), show (j + 1).toNat = j.toNat + 1 by omega]
      unfold rd
      rw [List.getD_eq_getElem?_getD, List.getElem?_eq_getElem (by omega)]
      rfl
    rw [hd, linkAll_cons]
    show (if inB (rd xs j) (-549755813888) 549755813887 = true then _ else _) = _
    cases hx : inB (rd xs j) (-549755813888) 549755813887 with
    | true =>
      rw [if_pos rfl, show wrap64 (j + 1) = j + 1 by unfold wrap64; omega, ← link_wrap hh hx]
      exact ih k _ (j + 1) (by omega) (by omega) h2 (by rw [link_wrap hh hx]; exact linkStep_in hh _)
    | false =>
      rw [if_neg (by simp), link_out hx, if_pos (linkAll_bad _ _ rfl)]
theorem head_l0 (l : List Ent) (hl : l.length ≤ 1000) : ∀ (n k : Nat) (h i : Int), 0 ≤ i → i + n = (l.length : Int) → HeadIn (h, false) → 1000 ≤ k →
    spec_HeadOf.l0 (k + 400 * n) l h i = some (headR h (l.drop i.toNat)) := by
  intro n
  induction n with
  | zero =>
    intro k h i h0 h1 hh hk
    rw [show k + 400 * 0 = (k - 1) + 1 by omega]
    unfold spec_HeadOf.l0
    rw [if_neg (by omega), List.drop_of_length_le (by omega)]
    rfl
  | succ n ih =>
    intro k h i h0 h1 hh hk
    have hd : l.drop i.toNat = rd_T35 l i :: l.drop (i + 1).toNat := by
      rw [List.drop_eq_getElem_cons (show i.toNat < l.length by omega), show (i + 1).toNat = i.toNat + 1 by omega]
      unfold rd_T35
      rw [List.getD_eq_getElem?_getD, List.getElem?_eq_getElem (by omega)]
      rfl
    rw [hd]
    rw [show k + 400 * (n + 1) = ((k + 400 * n + 398) + 1) + 1 by omega]
    unfold spec_HeadOf.l0
    rw [if_pos (by omega), if_pos h0]
    unfold headR
    by_cases ht : tooLong (rd_T35 l i)
    · rw [if_pos ht]
      have hj : ∀ b : Bool, b = true → spec_HeadOf.j1 ((k + 400 * n + 398) + 1) l h i b = some 0 := fun b hb => by
        unfold spec_HeadOf.j1
        rw [if_pos hb]
      unfold tooLong at ht
      by_cases hc : ((rd_T35 l i).f3.length : Int) > 60
      · rw [if_pos hc]; exact hj _ rfl
      · rw [if_neg hc]; exact hj _ (by simp; omega)
    · have hj : spec_HeadOf.j1 ((k + 400 * n + 398) + 1) l h i false = some (if (linkAll (h, false) (numsOf (rd_T35 l i))).2 = true then 0 else headR (linkAll (h, false) (numsOf (rd_T35 l i))).1 (l.drop (i + 1).toNat)) := by
        unfold spec_HeadOf.j1
        rw [if_neg (by simp), if_pos h0, if_pos (by omega), nums_f _ ht (by omega)]
        have hn := nums_len _ ht
        show spec_HeadOf.l1 (k + 400 * n + 398) l h i (numsOf (rd_T35 l i)) 0 = _
        rw [show k + 400 * n + 398 = (k + 397 - (numsOf (rd_T35 l i)).length + 400 * n) + (numsOf (rd_T35 l i)).length + 1 by omega]
        rw [head_l1 l _ i _ _ h 0 (by omega) (by omega) hn hh, show wrap64 (i + 1) = i + 1 by unfold wrap64; omega]
        simp only [Int.toNat_zero, List.drop_zero]
        have hin : HeadIn ((linkAll (h, false) (numsOf (rd_T35 l i))).1, false) := linkAll_in hh (numsOf (rd_T35 l i))
        rw [ih _ _ (i + 1) (by omega) (by omega) hin (by omega)]
        split <;> rfl
      rw [if_neg ht, ← hj]
      unfold tooLong at ht
      rw [if_neg (by omega)]
      congr 1
      simp
      omega
theorem spec_HeadOf.to (A0 : Option Addr) (c0 : Nat) (l0 : List Ent) (w : World) (hr0 : Kd.C k35 w A0 l0.length l0) (hc : l0.length ≤ c0) :
    Calls Tryd.prog 46 #[.slice A0 l0.length c0] w fun e w' => e = .returned (.int .i64 (headV l0)) ∧ Below w.heap.size w w' := by
  refine spec_HeadOf.calls (1000 + 400 * l0.length) A0 c0 l0 (headV l0) w hr0 hc ?_
  unfold spec_HeadOf.f
  rw [headV_eq]
  by_cases h : 1000 < l0.length
  · rw [if_pos (by omega), if_pos h]
  · rw [if_neg (by omega), if_neg h, head_l0 l0 (by omega) l0.length 1000 1 0 (by omega) (by omega) headIn_one (by omega)]
    rfl
set_option maxHeartbeats 16000000 in
set_option maxRecDepth 100000 in
theorem spec_LedgerOk.to (A0 : Option Addr) (c0 : Nat) (l0 : List Acc) (dims curs : Int) (A1 : Option Addr) (c1 : Nat) (l1 : List Ent) (h : Int) (w : World) (hr0 : Kd.C k64 w A0 l0.length l0) (hs : ∀ x ∈ l0, x.f0.size ≤ maxLen) (hr1 : Kd.C k35 w A1 l1.length l1) (hc1 : l1.length ≤ c1) (hm : ∀ e ∈ l1, e.f2.size ≤ maxLen) :
    Calls Tryd.prog 24 #[.agg #[.slice A0 l0.length c0, .int .i64 dims, .int .i64 curs], .agg #[.slice A1 l1.length c1, .int .i64 h]] w fun x w' => x = .returned (.bool (ledgerB l0 dims curs l1 h)) ∧ Below w.heap.size w w' := by
  have hl0 := hr0.2.1
  have hl1 := hr1.2.1
  have H0 := Aside0.mk hr0
  have H1 := Aside0.mk hr1
  have HS := Aside0.mk hs
  have HM := Aside0.mk hm
  have HCAP := Aside0.mk hc1
  have HB0 := Aside0.mk (below_two w (.cells #[.slice A0 l0.length c0, .int .i64 dims, .int .i64 curs] 26) (.cells #[.slice A1 l1.length c1, .int .i64 h] 29))
  have H00 := Aside0.mk (Kd.C_below hr0 HB0.out)
  have H11 := Aside0.mk (Kd.C_below hr1 HB0.out)
  clear hr0 hr1 hs hm hc1
  by_cases hlen : 1000 < l1.length
  case pos =>
    have HN := Aside0.mk (ledgerB_not (fun q => by have := q.2.1; omega) : false = ledgerB l0 dims curs l1 h)
    have hlen' : 1000 < (l1.length : Int) := by omega
    go_enter Tryd.func24, Tryd.ntmps24
    go_wp2_with fail
    go_quiet (fail)
    go_wp2_with fail
    go_ret
    exact ⟨ret_bool HN.out, pw_below_drewN HB0.out _⟩
  have hlenb : decide (1000 < (l1.length : Int)) = false := by simp; omega
  have f0 : ((w.alloc (.cells #[.slice A0 l0.length c0, .int .i64 dims, .int .i64 curs] 26)).alloc (.cells #[.slice A1 l1.length c1, .int .i64 h] 29)).cell? ⟨w.heap.size, 0, none⟩ = some (.slice A0 l0.length c0) := by go_simp
  have f1 : ((w.alloc (.cells #[.slice A0 l0.length c0, .int .i64 dims, .int .i64 curs] 26)).alloc (.cells #[.slice A1 l1.length c1, .int .i64 h] 29)).cell? ⟨w.heap.size, 1, none⟩ = some (.int .i64 dims) := by go_simp
  have f2 : ((w.alloc (.cells #[.slice A0 l0.length c0, .int .i64 dims, .int .i64 curs] 26)).alloc (.cells #[.slice A1 l1.length c1, .int .i64 h] 29)).cell? ⟨w.heap.size, 2, none⟩ = some (.int .i64 curs) := by go_simp
  have f3 : ((w.alloc (.cells #[.slice A0 l0.length c0, .int .i64 dims, .int .i64 curs] 26)).alloc (.cells #[.slice A1 l1.length c1, .int .i64 h] 29)).cell? ⟨w.heap.size + 1, 0, none⟩ = some (.slice A1 l1.length c1) := by go_simp
  have f4 : ((w.alloc (.cells #[.slice A0 l0.length c0, .int .i64 dims, .int .i64 curs] 26)).alloc (.cells #[.slice A1 l1.length c1, .int .i64 h] 29)).cell? ⟨w.heap.size + 1, 1, none⟩ = some (.int .i64 h) := by go_simp
  cases hfr : frameB l0 dims curs with
  | false =>
    have HF := Aside0.mk hfr
    have HN := Aside0.mk (ledgerB_not (fun q => by have := q.1; rw [hfr] at this; cases this) : false = ledgerB l0 dims curs l1 h)
    clear hfr
    go_enter Tryd.func24, Tryd.ntmps24
    go_wp2_with fail
    first | (go_region_with (first | (go_at_call 41; refine (spec_FrameOk.to A0 c0 l0 dims curs _ (by repeat (first | exact H00.out | refine Kd.C_drew ?_)) HS.out).mono ?_; rintro x w2 ⟨rfl, hb⟩; rw [HF.out]; have g3 := pw_cell_below hb f3))) | fail
    all_goals (
      have HBF := Aside0.mk (below_into (w := w) hb (below_drew HB0.out))
      clear hb
      go_wp2_with fail
      go_ret
      exact ⟨ret_bool HN.out, HBF.out⟩)
  | true =>
    have HF := Aside0.mk hfr
    clear hfr
    by_cases hh : h = headV l1
    case neg =>
      have HN := Aside0.mk (ledgerB_not (fun q => hh q.2.2.2) : false = ledgerB l0 dims curs l1 h)
      have hhb : (h != headV l1) = true := bne_iff_ne.2 hh
      go_enter Tryd.func24, Tryd.ntmps24
      go_wp2_with fail
      go_region_held3 (fun w' => w'.cell? ⟨w.heap.size, 0, none⟩ = some (.slice A0 l0.length c0) ∧ w'.cell? ⟨w.heap.size, 1, none⟩ = some (.int .i64 dims) ∧ w'.cell? ⟨w.heap.size, 2, none⟩ = some (.int .i64 curs) ∧ w'.cell? ⟨w.heap.size + 1, 0, none⟩ = some (.slice A1 l1.length c1) ∧ w'.cell? ⟨w.heap.size + 1, 1, none⟩ = some (.int .i64 h)) ((first | go_keep | exact ⟨pw_cell_below hb (by assumption), pw_cell_below hb (by assumption), pw_cell_below hb (by assumption), pw_cell_below hb (by assumption), pw_cell_below hb (by assumption)⟩))
        (first
          | (go_at_call 41; refine (spec_FrameOk.to A0 c0 l0 dims curs _ (by repeat (first | exact H00.out | refine Kd.C_drew ?_)) HS.out).mono ?_; rintro x w2 ⟨rfl, hb⟩; rw [HF.out])
          | (go_at_call 46; refine (spec_HeadOf.to A1 c1 l1 _ (by first | exact Kd.C_below H11.out (below_into hb (below_drew (Below.refl _ _))) | (repeat (first | exact H11.out | refine Kd.C_drew ?_))) HCAP.out).mono ?_; rintro x w3 ⟨rfl, hb3⟩; replace hb := below_into hb3 hb; clear hb3))
      have HBF := Aside0.mk (below_into (w := w) hb (below_drew HB0.out))
      clear hb
      go_wp2_with fail
      go_ret
      exact ⟨ret_bool HN.out, HBF.out⟩
    have hhb : (h != headV l1) = false := by rw [hh]; exact bne_self_eq_false' _
    have HH := Aside0.mk hh
    clear hh
    obtain ⟨hch, hd, hc⟩ := frame_parts HF.out
    clear hch hd hc
    go_enter Tryd.func24, Tryd.ntmps24
    go_wp2_with fail
    go_region_held3 (fun w' => w'.cell? ⟨w.heap.size, 0, none⟩ = some (.slice A0 l0.length c0) ∧ w'.cell? ⟨w.heap.size, 1, none⟩ = some (.int .i64 dims) ∧ w'.cell? ⟨w.heap.size, 2, none⟩ = some (.int .i64 curs) ∧ w'.cell? ⟨w.heap.size + 1, 0, none⟩ = some (.slice A1 l1.length c1) ∧ w'.cell? ⟨w.heap.size + 1, 1, none⟩ = some (.int .i64 h)) ((first | go_keep | exact ⟨pw_cell_below hb (by assumption), pw_cell_below hb (by assumption), pw_cell_below hb (by assumption), pw_cell_below hb (by assumption), pw_cell_below hb (by assumption)⟩))
        (first
          | (go_at_call 41; refine (spec_FrameOk.to A0 c0 l0 dims curs _ (by repeat (first | exact H00.out | refine Kd.C_drew ?_)) HS.out).mono ?_; rintro x w2 ⟨rfl, hb⟩; rw [HF.out])
          | (go_at_call 46; refine (spec_HeadOf.to A1 c1 l1 _ (by first | exact Kd.C_below H11.out (below_into hb (below_drew (Below.refl _ _))) | (repeat (first | exact H11.out | refine Kd.C_drew ?_))) HCAP.out).mono ?_; rintro x w3 ⟨rfl, hb3⟩; replace hb := below_into hb3 hb; clear hb3))
    have HBW1 := Aside0.mk (below_into (w := w) hb (below_drew HB0.out))
    have F0 := Aside0.mk (pw_cell_below hb f0)
    have F1 := Aside0.mk (pw_cell_below hb f1)
    have F2 := Aside0.mk (pw_cell_below hb f2)
    have F3 := Aside0.mk (pw_cell_below hb f3)
    have F4 := Aside0.mk (pw_cell_below hb f4)
    have HB1 := Aside0.mk (Below.refl w3.heap.size w3)
    have g3 := pw_cell_below hb f3
    clear hb f0 f1 f2 f3 f4
    go_wp2_with fail
    clear g3
    go_loopw [5] (fun v wr => ∃ i : Int, 0 ≤ i ∧ i ≤ (l1.length : Int) ∧ v = .int .i64 i ∧ Aside0 (Below w3.heap.size w3 wr) ∧ Aside0 (∀ e ∈ l1.take i.toNat, entryP l0 dims curs e)) (fun v _ => (l1.length - (intOf v).toNat))
    case atStart => exact ⟨0, by omega, by omega, rfl, HB1, ⟨fun x hx => by cases hx⟩⟩
    case round =>
      clear HB1
      obtain ⟨i, hi0, hi1, rfl, HB1, HO⟩ := hrel
      have g0 := pw_cell_below HB1.out F0.out
      have g1 := pw_cell_below HB1.out F1.out
      have g2 := pw_cell_below HB1.out F2.out
      have g3 := pw_cell_below HB1.out F3.out
      have HBW := Aside0.mk (below_into HB1.out HBW1.out)
      by_cases hlt : i < (l1.length : Int)
      · obtain ⟨ad, A3, c3, e0, x0, x1, x2, x3, x4, x5⟩ := at_T35 (Kd.C_below H1.out HBW.out) i hi0 hlt
        cases e0
        have X5 := Aside0.mk x5
        have HC0 := Aside0.mk (Kd.C_below H0.out HBW.out)
        have HMI := Aside0.mk (all_at (z := z35) (p := fun e => e.f2.size ≤ maxLen) hi0 hlt HM.out)
        clear x5
        go_wp2_with fail
        go_region_held3 (fun w' => w'.cell? ⟨w.heap.size, 0, none⟩ = some (.slice A0 l0.length c0) ∧ w'.cell? ⟨w.heap.size, 1, none⟩ = some (.int .i64 dims) ∧ w'.cell? ⟨w.heap.size, 2, none⟩ = some (.int .i64 curs) ∧ w'.cell? ⟨w.heap.size + 1, 0, none⟩ = some (.slice (some ad) l1.length c1) ∧ w'.cell? (ad.add (i.toNat * 4)) = some (.int .i64 (rd_T35 l1 i).f0) ∧ w'.cell? ⟨(ad.add (i.toNat * 4)).block, (ad.add (i.toNat * 4)).off + 1, none⟩ = some (.int .i64 (rd_T35 l1 i).f1) ∧ w'.cell? ⟨(ad.add (i.toNat * 4)).block, (ad.add (i.toNat * 4)).off + 2, none⟩ = some (.string (rd_T35 l1 i).f2) ∧ w'.cell? ⟨(ad.add (i.toNat * 4)).block, (ad.add (i.toNat * 4)).off + 3, none⟩ = some (.slice A3 (rd_T35 l1 i).f3.length c3)) ((first | go_keep | exact ⟨pw_cell_below hb (by assumption), pw_cell_below hb (by assumption), pw_cell_below hb (by assumption), pw_cell_below hb (by assumption), pw_cell_below hb (by assumption), pw_cell_below hb (by assumption), pw_cell_below hb (by assumption), pw_cell_below hb (by assumption)⟩))
          ((go_at_call 18; refine (spec_EntryOk.to A0 c0 l0 dims curs (rd_T35 l1 i) A3 c3 _ (by repeat (first | exact HC0.out | refine Kd.C_drew ?_)) HS.out (by repeat (first | exact X5.out | refine Kd.C_drew ?_)) HMI.out).mono ?_; rintro x w2 ⟨rfl, hb⟩; rw [HF.out, Bool.true_and]))
        have HB2 := Aside0.mk (below_into (w := w3) hb (below_drew HB1.out))
        clear hb
        cases hen : entryB l0 dims curs (rd_T35 l1 i) with
        | false =>
          have HN := Aside0.mk (ledgerB_not (fun q => by have := entryB_true.2 (all_at (z := z35) (p := entryP l0 dims curs) hi0 hlt q.2.2.1); rw [show entryB l0 dims curs (l1.getD i.toNat z35) = false from hen] at this; cases this) : false = ledgerB l0 dims curs l1 h)
          have HBF := Aside0.mk (below_into HB2.out HBW1.out)
          clear hen HB2
          go_wp2_with fail
          go_ret
          exact ⟨ret_bool HN.out, HBF.out⟩
        | true =>
          have HO2 := Aside0.mk (all_step (z := z35) (p := entryP l0 dims curs) hi0 hlt HO.out (entryB_true.1 hen))
          clear hen
          go_wp2_with fail
          go_roundw
          case rel => exact ⟨i + 1, by omega, by omega, rfl, HB2, HO2⟩
          case measure => simp [intOf]; omega
      · have HY := Aside0.mk (ledgerB_true.2 (show ledgerP l0 dims curs l1 h from ⟨HF.out, by omega, all_end (by omega) HO.out, HH.out⟩))
        go_wp2_with fail
        go_ret
        exact ⟨ret_bool HY.out.symm, HBW.out⟩
def booksP (chart : List Acc) (dims curs : Int) (es : List Ent) (h : Int) (ps : List Per) (closed kept : Int) : Prop := ledgerP chart dims curs es h ∧ yearP ps ∧ (0 ≤ closed ∧ closed ≤ (ps.length : Int)) ∧ leafP chart kept ∧ knd chart kept = 3
open Classical in
noncomputable def booksB (chart : List Acc) (dims curs : Int) (es : List Ent) (h : Int) (ps : List Per) (closed kept : Int) : Bool := decide (booksP chart dims curs es h ps closed kept)
open Classical in
theorem booksB_true {chart : List Acc} {dims curs : Int} {es : List Ent} {h : Int} {ps : List Per} {closed kept : Int} : booksB chart dims curs es h ps closed kept = true ↔ booksP chart dims curs es h ps closed kept := by unfold booksB; rw [decide_eq_true_eq]
theorem booksB_not {chart : List Acc} {dims curs : Int} {es : List Ent} {h : Int} {ps : List Per} {closed kept : Int} (k : ¬ booksP chart dims curs es h ps closed kept) : false = booksB chart dims curs es h ps closed kept := by
  cases hb : booksB chart dims curs es h ps closed kept with
  | false => rfl
  | true => exact absurd (booksB_true.1 hb) k
set_option maxHeartbeats 16000000 in
set_option maxRecDepth 100000 in
theorem spec_BooksOk.to (A0 : Option Addr) (c0 : Nat) (l0 : List Acc) (dims curs : Int) (A1 : Option Addr) (c1 : Nat) (l1 : List Ent) (h : Int) (A2 : Option Addr) (c2 : Nat) (l2 : List Per) (closed kept : Int) (w : World) (hr0 : Kd.C k64 w A0 l0.length l0) (hs : ∀ x ∈ l0, x.f0.size ≤ maxLen) (hr1 : Kd.C k35 w A1 l1.length l1) (hc1 : l1.length ≤ c1) (hm : ∀ e ∈ l1, e.f2.size ≤ maxLen) (hr2 : Kd.C k66 w A2 l2.length l2) :
    Calls Tryd.prog 8 #[.agg #[.slice A0 l0.length c0, .int .i64 dims, .int .i64 curs, .slice A1 l1.length c1, .int .i64 h, .slice A2 l2.length c2, .int .i64 closed, .int .i64 kept]] w fun x w' => x = .returned (.bool (booksB l0 dims curs l1 h l2 closed kept)) ∧ Below w.heap.size w w' := by
  have hl0 := hr0.2.1
  have hl2 := hr2.2.1
  have H0 := Aside0.mk hr0
  have H1 := Aside0.mk hr1
  have H2 := Aside0.mk hr2
  have HS := Aside0.mk hs
  have HM := Aside0.mk hm
  have HCAP := Aside0.mk hc1
  have HB0 := Aside0.mk (below_alloc (Below.refl w.heap.size w) (.cells #[.slice A0 l0.length c0, .int .i64 dims, .int .i64 curs, .slice A1 l1.length c1, .int .i64 h, .slice A2 l2.length c2, .int .i64 closed, .int .i64 kept] 32))
  clear hr0 hr1 hr2 hs hm hc1
  go_enter Tryd.func8, Tryd.ntmps8
  go_wp2_with fail
  refine (spec_LedgerOk.to A0 c0 l0 dims curs A1 c1 l1 h _ (Kd.C_below H0.out HB0.out) HS.out (Kd.C_below H1.out HB0.out) HCAP.out HM.out).mono ?_
  rintro x w1 ⟨rfl, hb⟩
  have HB := Aside0.mk (below_into (w := w) hb HB0.out)
  have f0 : w1.cell? ⟨w.heap.size, 0, none⟩ = some (.slice A0 l0.length c0) := pw_cell_below hb (by go_simp)
  have f5 : w1.cell? ⟨w.heap.size, 5, none⟩ = some (.slice A2 l2.length c2) := pw_cell_below hb (by go_simp)
  have f6 : w1.cell? ⟨w.heap.size, 6, none⟩ = some (.int .i64 closed) := pw_cell_below hb (by go_simp)
  have f7 : w1.cell? ⟨w.heap.size, 7, none⟩ = some (.int .i64 kept) := pw_cell_below hb (by go_simp)
  clear hb
  cases q1 : ledgerB l0 dims curs l1 h with
  | false =>
    have HN := Aside0.mk (booksB_not (fun q => by have := ledgerB_true.2 q.1; rw [q1] at this; cases this) : false = booksB l0 dims curs l1 h l2 closed kept)
    clear q1
    go_wp2_with fail
    go_ret
    exact ⟨ret_bool HN.out, HB.out⟩
  | true =>
    have HL := Aside0.mk (ledgerB_true.1 q1)
    have HCH := Aside0.mk ((frame_parts (ledgerB_true.1 q1).1).1)
    clear q1
    go_wp2_with fail
    refine (spec_l6Year.to A2 c2 l2 _ (Kd.C_below H2.out HB.out)).mono ?_
    rintro x w2 ⟨rfl, hb⟩
    have HB2 := Aside0.mk (below_into (w := w) hb HB.out)
    have g0 := pw_cell_below hb f0
    have g5 := pw_cell_below hb f5
    have g6 := pw_cell_below hb f6
    have g7 := pw_cell_below hb f7
    clear hb f0 f5 f6 f7 HB
    cases q2 : yearB l2 with
    | false =>
      have HN := Aside0.mk (booksB_not (fun q => by have := yearB_true.2 q.2.1; rw [q2] at this; cases this) : false = booksB l0 dims curs l1 h l2 closed kept)
      clear q2
      go_wp2_with fail
      go_ret
      exact ⟨ret_bool HN.out, HB2.out⟩
    | true =>
      have HY := Aside0.mk (yearB_true.1 q2)
      clear q2
      go_wp2_with fail
      refine (spec_l1In.to _ _ _ _).mono ?_
      rintro x w' ⟨rfl, rfl⟩
      cases q3 : inB closed 0 (l2.length : Int) with
      | false =>
        have HN := Aside0.mk (booksB_not (fun q => inB_false.1 q3 q.2.2.1) : false = booksB l0 dims curs l1 h l2 closed kept)
        clear q3
        go_wp2_with fail
        go_ret
        exact ⟨ret_bool HN.out, HB2.out⟩
      | true =>
        have HCL := Aside0.mk (inB_true.1 q3)
        clear q3
        go_wp2_with fail
        refine (spec_Leaf.to A0 c0 l0 kept _ (Kd.C_below H0.out HB2.out) HS.out).mono ?_
        rintro x w3 ⟨rfl, hb⟩
        have HB3 := Aside0.mk (below_into (w := w) hb HB2.out)
        have f0 := pw_cell_below hb g0
        have f7 := pw_cell_below hb g7
        clear hb g0 g5 g6 g7 HB2
        rw [HCH.out, Bool.true_and]
        cases q4 : leafB l0 kept with
        | false =>
          have HN := Aside0.mk (booksB_not (fun q => by have := leafB_of q.2.2.2.1; rw [q4] at this; cases this) : false = booksB l0 dims curs l1 h l2 closed kept)
          clear q4
          go_wp2_with fail
          go_ret
          exact ⟨ret_bool HN.out, HB3.out⟩
        | true =>
          have hlf := leafB_true.1 q4
          have HLF := Aside0.mk hlf
          obtain ⟨k0, k1, _⟩ := hlf
          clear q4
          obtain ⟨ad, e0, x0, x1, x2⟩ := at_T64 (Kd.C_below H0.out HB3.out) kept k0 k1
          cases e0
          by_cases q5 : (rd_T64 l0 kept).f2 = 3
          · have q5b : ((rd_T64 l0 kept).f2 == 3) = true := beq_iff_eq.2 q5
            have HBK := Aside0.mk (booksB_true.2 (show booksP l0 dims curs l1 h l2 closed kept from ⟨HL.out, HY.out, HCL.out, HLF.out, q5⟩))
            clear q5
            go_wp2_with fail
            go_ret
            exact ⟨ret_bool HBK.out.symm, HB3.out⟩
          · have q5b : ((rd_T64 l0 kept).f2 == 3) = false := beq_eq_false_iff_ne.2 q5
            have HN := Aside0.mk (booksB_not (fun q => q5 q.2.2.2.2) : false = booksB l0 dims curs l1 h l2 closed kept)
            clear q5
            go_wp2_with fail
            go_ret
            exact ⟨ret_bool HN.out, HB3.out⟩
end Go.Proofs.YtjkjjfbcakbmnaaDoor.Q
