/- Parts of the proof: what functions of the program and of the reference answer.
   No condition. -/
import Derived.Test.YtphmnkcfjgallaaZReversed1
import Derived.Test.YtphmnkcfjgallaaZReversed12
import Derived.Test.YtphmnkcfjgallaaZReversed11
import Derived.Test.YtphmnkcfjgallaaZReversed9
import Derived.Test.YtphmnkcfjgallaaZReversed5
import Derived.Test.YtphmnkcfjgallaaZReversed3
import Derived.Test.YtphmnkcfjgallaaZReversed4
namespace Go.Proofs.Ytphmnkcfjgallaa.Q
open Go.RowKit Go.Proofs.YtphmnkcfjgallaaW.PrintWords Go.Proofs.YtphmnkcfjgallaaW.PrintLast Go.Proofs.YtphmnkcfjgallaaW.PrintMore
attribute [local go_sem] max2_int min2_int max_two min_two max_three min_three max_four min_four   -- for this text's walks alone
set_option linter.unusedVariables false
set_option linter.unusedSimpArgs false
open Classical in
noncomputable def headR (h : Int) : List Ent → Int
  | [] => h
  | e :: l => if tooLong e then 0 else if (linkAll (h, false) (numsOf e)).2 = true then 0 else headR (linkAll (h, false) (numsOf e)).1 l
theorem linkStep_bad (h x : Int) : (linkStep (h, true) x).2 = true := by unfold linkStep; split <;> rfl
theorem linkAll_bad (xs : List Int) : ∀ s : Int × Bool, s.2 = true → (linkAll s xs).2 = true := by
  induction xs with
  | nil => intro s h; exact h
  | cons x xs ih =>
    intro s h
    obtain ⟨a, b⟩ := s
    cases h
    exact ih _ (linkStep_bad a x)
theorem headR_eq (l : List Ent) : ∀ h : Int, headR h l = open Classical in if ∃ e ∈ l, tooLong e then 0 else if (linkAll (h, false) (l.flatMap numsOf)).2 = true then 0 else (linkAll (h, false) (l.flatMap numsOf)).1 := by
  induction l with
  | nil => intro h; simp [headR, linkAll]
  | cons e l ih =>
    intro h
    unfold headR
    by_cases ht : tooLong e
    · rw [if_pos ht, if_pos ⟨e, List.mem_cons_self, ht⟩]
    · rw [if_neg ht]
      have hq : (∃ x ∈ e :: l, tooLong x) ↔ ∃ x ∈ l, tooLong x := by
        constructor
        · rintro ⟨x, hx, q⟩
          rcases List.mem_cons.1 hx with rfl | hx
          · exact absurd q ht
          · exact ⟨x, hx, q⟩
        · rintro ⟨x, hx, q⟩
          exact ⟨x, List.mem_cons_of_mem _ hx, q⟩
      rw [List.flatMap_cons, linkAll_append]
      by_cases hE : ∃ x ∈ l, tooLong x
      · rw [if_pos (hq.2 hE), ih, if_pos hE]
        split <;> rfl
      · rw [if_neg (fun q => hE (hq.1 q))]
        cases hb : (linkAll (h, false) (numsOf e)).2 with
        | true => rw [if_pos rfl, if_pos (linkAll_bad _ _ hb)]
        | false =>
          rw [if_neg (by simp), ih, if_neg hE]
          rw [show linkAll (h, false) (numsOf e) = ((linkAll (h, false) (numsOf e)).1, false) from Prod.ext rfl hb]
theorem headV_eq (l : List Ent) : headV l = if 1000 < l.length then 0 else headR 1 l := by
  unfold headV
  rw [headR_eq]
  by_cases h : 1000 < l.length
  · rw [if_pos h, if_pos (Or.inl h)]
  · rw [if_neg h]
    by_cases hE : ∃ e ∈ l, tooLong e
    · rw [if_pos (Or.inr hE), if_pos hE]
    · rw [if_neg (fun q => q.elim h hE), if_neg hE]
theorem nums_l1 (a0 a1 : Int) (t : ByteArray) (ls : List Lin) (hl : ls.length ≤ 60) : ∀ (n k : Nat) (i : Int) (acc : List Int), 0 ≤ i → i + n = (ls.length : Int) → acc.length + 5 * n ≤ 1000 →
    spec_l5Numbers.l1 (k + n + 1) acc i a0 a1 t ls = some (acc ++ (ls.drop i.toNat).flatMap lineNums) := by
  intro n
  induction n with
  | zero =>
    intro k i acc h0 h1 h2
    unfold spec_l5Numbers.l1
    rw [if_neg (by omega), List.drop_of_length_le (by omega)]
    simp
  | succ n ih =>
    intro k i acc h0 h1 h2
    rw [show k + (n + 1) + 1 = (k + n + 1) + 1 by omega]
    unfold spec_l5Numbers.l1
    rw [if_pos (by omega), if_pos h0]
    show (if acc.length + 5 < 17592186044416 then _ else _) = _
    rw [if_pos (by omega), show wrap64 (i + 1) = i + 1 by unfold wrap64; omega]
    rw [ih k (i + 1) _ (by omega) (by omega) (by simp; omega)]
    rw [List.append_assoc]
    congr 2
    rw [List.drop_eq_getElem_cons (show i.toNat < ls.length by omega), List.flatMap_cons, show (i + 1).toNat = i.toNat + 1 by omega]
    congr 1
    unfold rd_T112 lineNums
    rw [List.getD_eq_getElem?_getD, List.getElem?_eq_getElem (by omega)]
    rfl
theorem nums_l0 (e : Ent) (hl : e.f3.length ≤ 60) (ht : e.f2.size ≤ 40) : ∀ (n k : Nat) (i : Int), 0 ≤ i → i + n = (e.f2.size : Int) →
    spec_l5Numbers.l0 (k + n + e.f3.length + 2) ([e.f0, e.f1, (e.f2.size : Int)] ++ bytesN e.f2 i.toNat) i e.f0 e.f1 e.f2 e.f3 = some (numsOf e) := by
  have hb : ∀ m : Nat, (bytesN e.f2 m).length = m := by
    intro m
    induction m with
    | zero => rfl
    | succ m ih => simp [bytesN, ih]
  intro n
  induction n with
  | zero =>
    intro k i h0 h1
    obtain rfl : i = (e.f2.size : Int) := by omega
    rw [show k + 0 + e.f3.length + 2 = (k + e.f3.length + 1) + 1 by omega]
    unfold spec_l5Numbers.l0
    rw [if_neg (by omega), if_pos (by simp [hb]; omega), nums_l1 _ _ _ _ hl e.f3.length k 0 _ (by omega) (by omega) (by simp [hb]; omega)]
    unfold numsOf
    simp
  | succ n ih =>
    intro k i h0 h1
    rw [show k + (n + 1) + e.f3.length + 2 = (k + n + e.f3.length + 2) + 1 by omega]
    unfold spec_l5Numbers.l0
    rw [if_pos (by omega), if_pos h0, if_pos (by simp [hb]; omega)]
    have hr := bt_range e.f2 i
    rw [show wrap64 (i + 1) = i + 1 by unfold wrap64; omega, show wrap64 (bt e.f2 i) = bt e.f2 i by unfold wrap64; omega]
    have hs := ih k (i + 1) (by omega) (by omega)
    rw [show (i + 1).toNat = i.toNat + 1 by omega] at hs
    rw [← hs, List.append_assoc]
    show _ = spec_l5Numbers.l0 _ (_ ++ (bytesN e.f2 i.toNat ++ [bt e.f2 (i.toNat : Int)])) _ _ _ _ _
    rw [show ((i.toNat : Nat) : Int) = i by omega]
theorem nums_f (e : Ent) (h : ¬ tooLong e) {k : Nat} (hk : 200 ≤ k) : spec_l5Numbers.f k e.f0 e.f1 e.f2 e.f3 = some (numsOf e) := by
  unfold tooLong at h
  have := nums_l0 e (by omega) (by omega) e.f2.size (k - e.f2.size - e.f3.length - 2) 0 (by omega) (by omega)
  rw [show k - e.f2.size - e.f3.length - 2 + e.f2.size + e.f3.length + 2 = k by omega] at this
  exact this
theorem nums_len (e : Ent) (h : ¬ tooLong e) : (numsOf e).length ≤ 350 := by
  unfold tooLong at h
  have hb : ∀ m : Nat, (bytesN e.f2 m).length = m := by
    intro m
    induction m with
    | zero => rfl
    | succ m ih => simp [bytesN, ih]
  have hf : ∀ l : List Lin, (l.flatMap lineNums).length = 5 * l.length := by
    intro l
    induction l with
    | nil => rfl
    | cons x l ih => rw [List.flatMap_cons, List.length_append, ih]; simp [lineNums]; omega
  unfold numsOf
  simp only [List.length_append, hb, hf, List.length_cons, List.length_nil]
  omega
theorem link_wrap {h x : Int} (hh : HeadIn (h, false)) (hx : inB x (-549755813888) 549755813887 = true) : ((Int.tmod (wrap64 ((wrap64 ((wrap64 (h * 1000003)) + x)) + 549755813888)) 1099511627791), false) = linkStep (h, false) x := by
  obtain ⟨h0, h1⟩ := hh
  have hx' := inB_true.1 hx
  simp only at h0 h1
  rw [show wrap64 (h * 1000003) = h * 1000003 by unfold wrap64; omega, show wrap64 (h * 1000003 + x) = h * 1000003 + x by unfold wrap64; omega, show wrap64 (h * 1000003 + x + 549755813888) = h * 1000003 + x + 549755813888 by unfold wrap64; omega]
  unfold linkStep
  rw [if_pos hx', Int.tmod_eq_emod_of_nonneg (by omega)]
theorem link_out {h x : Int} (hx : inB x (-549755813888) 549755813887 = false) : linkStep (h, false) x = (h, true) := if_neg (inB_false.1 hx)
theorem head_l1 (l : List Ent) (xs : List Int) (i : Int) : ∀ (n k : Nat) (h j : Int), 0 ≤ j → j + n = (xs.length : Int) → xs.length ≤ 350 → HeadIn (h, false) →
    spec_HeadOf.l1 (k + n + 1) l h i xs j = if (linkAll (h, false) (xs.drop j.toNat)).2 = true then some 0 else spec_HeadOf.l0 k l (linkAll (h, false) (xs.drop j.toNat)).1 (wrap64 (i + 1)) := by
  intro n
  induction n with
  | zero =>
    intro k h j h0 h1 h2 hh
    unfold spec_HeadOf.l1
    rw [if_neg (by omega), List.drop_of_length_le (by omega)]
    rfl
  | succ n ih =>
    intro k h j h0 h1 h2 hh
    rw [show k + (n + 1) + 1 = (k + n + 1) + 1 by omega]
    unfold spec_HeadOf.l1
    rw [if_pos (by omega), if_pos h0]
    have hd : xs.drop j.toNat = rd xs j :: xs.drop (j + 1).toNat := by
      rw [List.drop_eq_getElem_cons (show j.toNat < xs.length by omega), show (j + 1).toNat = j.toNat + 1 by omega]
      unfold rd
      rw [List.getD_eq_getElem?_getD, List.getElem?_eq_getElem (by omega)]
      rfl
    rw [hd, linkAll_cons]
    show (if inB (rd xs j) (-549755813888) 549755813887 = true then _ else _) = _
    cases hx : inB (rd xs j) (-549755813888) 549755813887 with
    | true =>
      rw [if_pos rfl, show wrap64 (j + 1) = j + 1 by unfold wrap64; omega, ← link_wrap hh hx]
      exact ih k _ (j + 1) (by omega) (by omega) h2 (by rw [link_wrap hh hx]; exact linkStep_in hh _)
    | false =>
      rw [if_neg (by simp), link_out hx, if_pos (linkAll_bad _ _ rfl)]
theorem head_l0 (l : List Ent) (hl : l.length ≤ 1000) : ∀ (n k : Nat) (h i : Int), 0 ≤ i → i + n = (l.length : Int) → HeadIn (h, false) → 1000 ≤ k →
    spec_HeadOf.l0 (k + 400 * n) l h i = some (headR h (l.drop i.toNat)) := by
  intro n
  induction n with
  | zero =>
    intro k h i h0 h1 hh hk
    rw [show k + 400 * 0 = (k - 1) + 1 by omega]
    unfold spec_HeadOf.l0
    rw [if_neg (by omega), List.drop_of_length_le (by omega)]
    rfl
  | succ n ih =>
    intro k h i h0 h1 hh hk
    have hd : l.drop i.toNat = rd_T34 l i :: l.drop (i + 1).toNat := by
      rw [List.drop_eq_getElem_cons (show i.toNat < l.length by omega), show (i + 1).toNat = i.toNat + 1 by omega]
      unfold rd_T34
      rw [List.getD_eq_getElem?_getD, List.getElem?_eq_getElem (by omega)]
      rfl
    rw [hd]
    rw [show k + 400 * (n + 1) = ((k + 400 * n + 398) + 1) + 1 by omega]
    unfold spec_HeadOf.l0
    rw [if_pos (by omega), if_pos h0]
    unfold headR
    by_cases ht : tooLong (rd_T34 l i)
    · rw [if_pos ht]
      have hj : ∀ b : Bool, b = true → spec_HeadOf.j1 ((k + 400 * n + 398) + 1) l h i b = some 0 := fun b hb => by
        unfold spec_HeadOf.j1
        rw [if_pos hb]
      unfold tooLong at ht
      by_cases hc : ((rd_T34 l i).f3.length : Int) > 60
      · rw [if_pos hc]; exact hj _ rfl
      · rw [if_neg hc]; exact hj _ (by simp; omega)
    · have hj : spec_HeadOf.j1 ((k + 400 * n + 398) + 1) l h i false = some (if (linkAll (h, false) (numsOf (rd_T34 l i))).2 = true then 0 else headR (linkAll (h, false) (numsOf (rd_T34 l i))).1 (l.drop (i + 1).toNat)) := by
        unfold spec_HeadOf.j1
        rw [if_neg (by simp), if_pos h0, if_pos (by omega), nums_f _ ht (by omega)]
        have hn := nums_len _ ht
        show spec_HeadOf.l1 (k + 400 * n + 398) l h i (numsOf (rd_T34 l i)) 0 = _
        rw [show k + 400 * n + 398 = (k + 397 - (numsOf (rd_T34 l i)).length + 400 * n) + (numsOf (rd_T34 l i)).length + 1 by omega]
        rw [head_l1 l _ i _ _ h 0 (by omega) (by omega) hn hh, show wrap64 (i + 1) = i + 1 by unfold wrap64; omega]
        simp only [Int.toNat_zero, List.drop_zero]
        have hin : HeadIn ((linkAll (h, false) (numsOf (rd_T34 l i))).1, false) := linkAll_in hh (numsOf (rd_T34 l i))
        rw [ih _ _ (i + 1) (by omega) (by omega) hin (by omega)]
        split <;> rfl
      rw [if_neg ht, ← hj]
      unfold tooLong at ht
      rw [if_neg (by omega)]
      congr 1
      simp
      omega
theorem spec_HeadOf.to (A0 : Option Addr) (c0 : Nat) (l0 : List Ent) (w : World) (hr0 : Kd.C k34 w A0 l0.length l0) (hc : l0.length ≤ c0) :
    Calls Try.prog 92 #[.slice A0 l0.length c0] w fun e w' => e = .returned (.int .i64 (headV l0)) ∧ Below w.heap.size w w' := by
  refine spec_HeadOf.calls (1000 + 400 * l0.length) A0 c0 l0 (headV l0) w hr0 hc ?_
  unfold spec_HeadOf.f
  rw [headV_eq]
  by_cases h : 1000 < l0.length
  · rw [if_pos (by omega), if_pos h]
  · rw [if_neg (by omega), if_neg h, head_l0 l0 (by omega) l0.length 1000 1 0 (by omega) (by omega) headIn_one (by omega)]
    rfl
set_option maxHeartbeats 16000000 in
set_option maxRecDepth 100000 in
theorem spec_LedgerOk.to (A0 : Option Addr) (c0 : Nat) (l0 : List Acc) (dims curs : Int) (A1 : Option Addr) (c1 : Nat) (l1 : List Ent) (h : Int) (w : World) (hr0 : Kd.C k131 w A0 l0.length l0) (hs : ∀ x ∈ l0, x.f0.size ≤ maxLen) (hr1 : Kd.C k34 w A1 l1.length l1) (hc1 : l1.length ≤ c1) (hm : ∀ e ∈ l1, e.f2.size ≤ maxLen) :
    Calls Try.prog 78 #[.agg #[.slice A0 l0.length c0, .int .i64 dims, .int .i64 curs], .agg #[.slice A1 l1.length c1, .int .i64 h]] w fun x w' => x = .returned (.bool (ledgerB l0 dims curs l1 h)) ∧ Below w.heap.size w w' := by
  have hl0 := hr0.2.1
  have hl1 := hr1.2.1
  have H0 := Aside0.mk hr0
  have H1 := Aside0.mk hr1
  have HS := Aside0.mk hs
  have HM := Aside0.mk hm
  have HCAP := Aside0.mk hc1
  have HB0 := Aside0.mk (below_two w (.cells #[.slice A0 l0.length c0, .int .i64 dims, .int .i64 curs] 26) (.cells #[.slice A1 l1.length c1, .int .i64 h] 29))
  have H00 := Aside0.mk (Kd.C_below hr0 HB0.out)
  have H11 := Aside0.mk (Kd.C_below hr1 HB0.out)
  clear hr0 hr1 hs hm hc1
  by_cases hlen : 1000 < l1.length
  case pos =>
    have HN := Aside0.mk (ledgerB_not (fun q => by have := q.2.1; omega) : false = ledgerB l0 dims curs l1 h)
    have hlen' : 1000 < (l1.length : Int) := by omega
    go_enter Try.func78, Try.ntmps78
    go_wp2_with fail
    go_quiet (fail)
    go_wp2_with fail
    go_ret
    exact ⟨ret_bool HN.out, pw_below_drewN HB0.out _⟩
  have hlenb : decide (1000 < (l1.length : Int)) = false := by simp; omega
  have f0 : ((w.alloc (.cells #[.slice A0 l0.length c0, .int .i64 dims, .int .i64 curs] 26)).alloc (.cells #[.slice A1 l1.length c1, .int .i64 h] 29)).cell? ⟨w.heap.size, 0, none⟩ = some (.slice A0 l0.length c0) := by go_simp
  have f1 : ((w.alloc (.cells #[.slice A0 l0.length c0, .int .i64 dims, .int .i64 curs] 26)).alloc (.cells #[.slice A1 l1.length c1, .int .i64 h] 29)).cell? ⟨w.heap.size, 1, none⟩ = some (.int .i64 dims) := by go_simp
  have f2 : ((w.alloc (.cells #[.slice A0 l0.length c0, .int .i64 dims, .int .i64 curs] 26)).alloc (.cells #[.slice A1 l1.length c1, .int .i64 h] 29)).cell? ⟨w.heap.size, 2, none⟩ = some (.int .i64 curs) := by go_simp
  have f3 : ((w.alloc (.cells #[.slice A0 l0.length c0, .int .i64 dims, .int .i64 curs] 26)).alloc (.cells #[.slice A1 l1.length c1, .int .i64 h] 29)).cell? ⟨w.heap.size + 1, 0, none⟩ = some (.slice A1 l1.length c1) := by go_simp
  have f4 : ((w.alloc (.cells #[.slice A0 l0.length c0, .int .i64 dims, .int .i64 curs] 26)).alloc (.cells #[.slice A1 l1.length c1, .int .i64 h] 29)).cell? ⟨w.heap.size + 1, 1, none⟩ = some (.int .i64 h) := by go_simp
  cases hfr : frameB l0 dims curs with
  | false =>
    have HF := Aside0.mk hfr
    have HN := Aside0.mk (ledgerB_not (fun q => by have := q.1; rw [hfr] at this; cases this) : false = ledgerB l0 dims curs l1 h)
    clear hfr
    go_enter Try.func78, Try.ntmps78
    go_wp2_with fail
    first | (go_region_with (first | (go_at_call 131; refine (spec_FrameOk.to A0 c0 l0 dims curs _ (by repeat (first | exact H00.out | refine Kd.C_drew ?_)) HS.out).mono ?_; rintro x w2 ⟨rfl, hb⟩; rw [HF.out]; have g3 := pw_cell_below hb f3))) | fail
    all_goals (
      have HBF := Aside0.mk (below_into (w := w) hb (below_drew HB0.out))
      clear hb
      go_wp2_with fail
      go_ret
      exact ⟨ret_bool HN.out, HBF.out⟩)
  | true =>
    have HF := Aside0.mk hfr
    clear hfr
    by_cases hh : h = headV l1
    case neg =>
      have HN := Aside0.mk (ledgerB_not (fun q => hh q.2.2.2) : false = ledgerB l0 dims curs l1 h)
      have hhb : (h != headV l1) = true := bne_iff_ne.2 hh
      go_enter Try.func78, Try.ntmps78
      go_wp2_with fail
      go_region_held3 (fun w' => w'.cell? ⟨w.heap.size, 0, none⟩ = some (.slice A0 l0.length c0) ∧ w'.cell? ⟨w.heap.size, 1, none⟩ = some (.int .i64 dims) ∧ w'.cell? ⟨w.heap.size, 2, none⟩ = some (.int .i64 curs) ∧ w'.cell? ⟨w.heap.size + 1, 0, none⟩ = some (.slice A1 l1.length c1) ∧ w'.cell? ⟨w.heap.size + 1, 1, none⟩ = some (.int .i64 h)) ((first | go_keep | exact ⟨pw_cell_below hb (by assumption), pw_cell_below hb (by assumption), pw_cell_below hb (by assumption), pw_cell_below hb (by assumption), pw_cell_below hb (by assumption)⟩))
        (first
          | (go_at_call 131; refine (spec_FrameOk.to A0 c0 l0 dims curs _ (by repeat (first | exact H00.out | refine Kd.C_drew ?_)) HS.out).mono ?_; rintro x w2 ⟨rfl, hb⟩; rw [HF.out])
          | (go_at_call 92; refine (spec_HeadOf.to A1 c1 l1 _ (by first | exact Kd.C_below H11.out (below_into hb (below_drew (Below.refl _ _))) | (repeat (first | exact H11.out | refine Kd.C_drew ?_))) HCAP.out).mono ?_; rintro x w3 ⟨rfl, hb3⟩; replace hb := below_into hb3 hb; clear hb3))
      have HBF := Aside0.mk (below_into (w := w) hb (below_drew HB0.out))
      clear hb
      go_wp2_with fail
      go_ret
      exact ⟨ret_bool HN.out, HBF.out⟩
    have hhb : (h != headV l1) = false := by rw [hh]; exact bne_self_eq_false' _
    have HH := Aside0.mk hh
    clear hh
    obtain ⟨hch, hd, hc⟩ := frame_parts HF.out
    clear hch hd hc
    go_enter Try.func78, Try.ntmps78
    go_wp2_with fail
    go_region_held3 (fun w' => w'.cell? ⟨w.heap.size, 0, none⟩ = some (.slice A0 l0.length c0) ∧ w'.cell? ⟨w.heap.size, 1, none⟩ = some (.int .i64 dims) ∧ w'.cell? ⟨w.heap.size, 2, none⟩ = some (.int .i64 curs) ∧ w'.cell? ⟨w.heap.size + 1, 0, none⟩ = some (.slice A1 l1.length c1) ∧ w'.cell? ⟨w.heap.size + 1, 1, none⟩ = some (.int .i64 h)) ((first | go_keep | exact ⟨pw_cell_below hb (by assumption), pw_cell_below hb (by assumption), pw_cell_below hb (by assumption), pw_cell_below hb (by assumption), pw_cell_below hb (by assumption)⟩))
        (first
          | (go_at_call 131; refine (spec_FrameOk.to A0 c0 l0 dims curs _ (by repeat (first | exact H00.out | refine Kd.C_drew ?_)) HS.out).mono ?_; rintro x w2 ⟨rfl, hb⟩; rw [HF.out])
          | (go_at_call 92; refine (spec_HeadOf.to A1 c1 l1 _ (by first | exact Kd.C_below H11.out (below_into hb (below_drew (Below.refl _ _))) | (repeat (first | exact H11.out | refine Kd.C_drew ?_))) HCAP.out).mono ?_; rintro x w3 ⟨rfl, hb3⟩; replace hb := below_into hb3 hb; clear hb3))
    have HBW1 := Aside0.mk (below_into (w := w) hb (below_drew HB0.out))
    have F0 := Aside0.mk (pw_cell_below hb f0)
    have F1 := Aside0.mk (pw_cell_below hb f1)
    have F2 := Aside0.mk (pw_cell_below hb f2)
    have F3 := Aside0.mk (pw_cell_below hb f3)
    have F4 := Aside0.mk (pw_cell_below hb f4)
    have HB1 := Aside0.mk (Below.refl w3.heap.size w3)
    have g3 := pw_cell_below hb f3
    clear hb f0 f1 f2 f3 f4
    go_wp2_with fail
    clear g3
    go_loopw [5] (fun v wr => ∃ i : Int, 0 ≤ i ∧ i ≤ (l1.length : Int) ∧ v = .int .i64 i ∧ Aside0 (Below w3.heap.size w3 wr) ∧ Aside0 (∀ e ∈ l1.take i.toNat, entryP l0 dims curs e)) (fun v _ => (l1.length - (intOf v).toNat))
    case atStart => exact ⟨0, by omega, by omega, rfl, HB1, ⟨fun x hx => by cases hx⟩⟩
    case round =>
      clear HB1
      obtain ⟨i, hi0, hi1, rfl, HB1, HO⟩ := hrel
      have g0 := pw_cell_below HB1.out F0.out
      have g1 := pw_cell_below HB1.out F1.out
      have g2 := pw_cell_below HB1.out F2.out
      have g3 := pw_cell_below HB1.out F3.out
      have HBW := Aside0.mk (below_into HB1.out HBW1.out)
      by_cases hlt : i < (l1.length : Int)
      · obtain ⟨ad, A3, c3, e0, x0, x1, x2, x3, x4, x5⟩ := at_T34 (Kd.C_below H1.out HBW.out) i hi0 hlt
        cases e0
        have X5 := Aside0.mk x5
        have HC0 := Aside0.mk (Kd.C_below H0.out HBW.out)
        have HMI := Aside0.mk (all_at (z := z34) (p := fun e => e.f2.size ≤ maxLen) hi0 hlt HM.out)
        clear x5
        go_wp2_with fail
        go_region_held3 (fun w' => w'.cell? ⟨w.heap.size, 0, none⟩ = some (.slice A0 l0.length c0) ∧ w'.cell? ⟨w.heap.size, 1, none⟩ = some (.int .i64 dims) ∧ w'.cell? ⟨w.heap.size, 2, none⟩ = some (.int .i64 curs) ∧ w'.cell? ⟨w.heap.size + 1, 0, none⟩ = some (.slice (some ad) l1.length c1) ∧ w'.cell? (ad.add (i.toNat * 4)) = some (.int .i64 (rd_T34 l1 i).f0) ∧ w'.cell? ⟨(ad.add (i.toNat * 4)).block, (ad.add (i.toNat * 4)).off + 1, none⟩ = some (.int .i64 (rd_T34 l1 i).f1) ∧ w'.cell? ⟨(ad.add (i.toNat * 4)).block, (ad.add (i.toNat * 4)).off + 2, none⟩ = some (.string (rd_T34 l1 i).f2) ∧ w'.cell? ⟨(ad.add (i.toNat * 4)).block, (ad.add (i.toNat * 4)).off + 3, none⟩ = some (.slice A3 (rd_T34 l1 i).f3.length c3)) ((first | go_keep | exact ⟨pw_cell_below hb (by assumption), pw_cell_below hb (by assumption), pw_cell_below hb (by assumption), pw_cell_below hb (by assumption), pw_cell_below hb (by assumption), pw_cell_below hb (by assumption), pw_cell_below hb (by assumption), pw_cell_below hb (by assumption)⟩))
          ((go_at_call 91; refine (spec_EntryOk.to A0 c0 l0 dims curs (rd_T34 l1 i) A3 c3 _ (by repeat (first | exact HC0.out | refine Kd.C_drew ?_)) HS.out (by repeat (first | exact X5.out | refine Kd.C_drew ?_)) HMI.out).mono ?_; rintro x w2 ⟨rfl, hb⟩; rw [HF.out, Bool.true_and]))
        have HB2 := Aside0.mk (below_into (w := w3) hb (below_drew HB1.out))
        clear hb
        cases hen : entryB l0 dims curs (rd_T34 l1 i) with
        | false =>
          have HN := Aside0.mk (ledgerB_not (fun q => by have := entryB_true.2 (all_at (z := z34) (p := entryP l0 dims curs) hi0 hlt q.2.2.1); rw [show entryB l0 dims curs (l1.getD i.toNat z34) = false from hen] at this; cases this) : false = ledgerB l0 dims curs l1 h)
          have HBF := Aside0.mk (below_into HB2.out HBW1.out)
          clear hen HB2
          go_wp2_with fail
          go_ret
          exact ⟨ret_bool HN.out, HBF.out⟩
        | true =>
          have HO2 := Aside0.mk (all_step (z := z34) (p := entryP l0 dims curs) hi0 hlt HO.out (entryB_true.1 hen))
          clear hen
          go_wp2_with fail
          go_roundw
          case rel => exact ⟨i + 1, by omega, by omega, rfl, HB2, HO2⟩
          case measure => simp [intOf]; omega
      · have HY := Aside0.mk (ledgerB_true.2 (show ledgerP l0 dims curs l1 h from ⟨HF.out, by omega, all_end (by omega) HO.out, HH.out⟩))
        go_wp2_with fail
        go_ret
        exact ⟨ret_bool HY.out.symm, HBW.out⟩
open Classical in
noncomputable def spec_LedgerOk.f (l0 : List Acc) (dims curs : Int) (l1 : List Ent) (h : Int) : Option Bool := if (∀ x ∈ l0, x.f0.size ≤ maxLen) ∧ (∀ e ∈ l1, e.f2.size ≤ maxLen) then some (ledgerB l0 dims curs l1 h) else none
theorem spec_LedgerOk.calls (A0 : Option Addr) (c0 : Nat) (l0 : List Acc) (dims curs : Int) (A1 : Option Addr) (c1 : Nat) (l1 : List Ent) (h : Int) (r : Bool) (w : World) (hr0 : Kd.C k131 w A0 l0.length l0) (hc0 : l0.length ≤ c0) (hr1 : Kd.C k34 w A1 l1.length l1) (hc1 : l1.length ≤ c1) (hf : spec_LedgerOk.f l0 dims curs l1 h = some r) :
    Calls Try.prog 78 #[.agg #[.slice A0 l0.length c0, .int .i64 dims, .int .i64 curs], .agg #[.slice A1 l1.length c1, .int .i64 h]] w fun x w' => x = .returned (.bool r) ∧ Below w.heap.size w w' := by
  unfold spec_LedgerOk.f at hf
  split at hf
  · rename_i q
    cases hf
    exact spec_LedgerOk.to A0 c0 l0 dims curs A1 c1 l1 h w hr0 q.1 hr1 hc1 q.2
  · cases hf
end Go.Proofs.Ytphmnkcfjgallaa.Q
namespace Go.Proofs.Ytphmnkcfjgallaa.Q
open Go.RowKit Go.Proofs.YtphmnkcfjgallaaW.PrintWords Go.Proofs.YtphmnkcfjgallaaW.PrintLast Go.Proofs.YtphmnkcfjgallaaW.PrintMore
set_option linter.unusedVariables false
set_option linter.unusedSimpArgs false
theorem ledger_fine {chart : List Acc} {d c : Int} {es : List Ent} {h : Int} (q : ledgerB chart d c es h = true) : es.length ≤ 1000 ∧ chart.length ≤ 120 ∧ (∀ e ∈ es, entFine e) ∧ (∀ e ∈ es, ∀ x ∈ e.f3, 0 ≤ x.f0 ∧ x.f0 < (chart.length : Int)) ∧ (∀ e ∈ es, 0 ≤ e.f0 ∧ e.f0 ≤ 40000) := by
  obtain ⟨h1, h2, h3, _⟩ := ledgerB_true.1 q
  obtain ⟨hc, _, _⟩ := frame_parts h1
  refine ⟨h2, (chartOk_iff.1 hc).2.1, fun e he => ⟨(h3 e he).2.2.2.1.2, fun x hx => ?_⟩, fun e he x hx => ?_, fun e he => (h3 e he).1⟩
  · have := (h3 e he).2.2.2.2.2.1 x hx
    exact ⟨this.2.2.2.1, this.2.2.2.2.1⟩
  · have := (h3 e he).2.2.2.2.2.1 x hx
    exact ⟨this.1.1, this.1.2.1⟩
end Go.Proofs.Ytphmnkcfjgallaa.Q
