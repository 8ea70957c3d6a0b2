/- Parts of the proof: what functions of the program and of the reference answer.
   No condition. -/
import Derived.Test.YtphmnkcfjgallaaZSpread1
import Derived.Test.YtphmnkcfjgallaaZSpread11
import Derived.Test.YtphmnkcfjgallaaZSpread9
import Derived.Test.YtphmnkcfjgallaaZSpread3
import Derived.Test.YtphmnkcfjgallaaZSpread6
import Derived.Test.YtphmnkcfjgallaaZSpread13
import Derived.Test.YtphmnkcfjgallaaZSpread10
import Derived.Test.YtphmnkcfjgallaaZSpread12
namespace Go.Proofs.Ytphmnkcfjgallaa.Q
open Go.RowKit Go.Proofs.YtphmnkcfjgallaaW.PrintWords Go.Proofs.YtphmnkcfjgallaaW.PrintLast Go.Proofs.YtphmnkcfjgallaaW.PrintMore
set_option linter.unusedVariables false
set_option linter.unusedSimpArgs false
theorem Shares_l3 (x5 x8 : List Int) (x9 one m : Int) (hm : firstMax x8 m) (hl : x5.length = x8.length) : ∀ (n k : Nat) (b i : Int), 0 ≤ b → b < i → i + n = (x8.length : Int) → x8.length ≤ 200 → n < k → (∀ j : Int, 0 ≤ j → j < i → rd x8 j ≤ rd x8 b ∧ (j < b → rd x8 j < rd x8 b)) →
    spec_Shares.l3 k x5 x8 x9 one b i = spec_Shares.l2 (k - n - 1) (x5.set m.toNat (wrap64 (rd x5 m + one))) (x8.set m.toNat (-1)) (wrap64 (x9 - one)) one := by
  intro n
  induction n with
  | zero =>
    intro k b i b0 bi hi hc hk hp
    obtain ⟨k, rfl⟩ : ∃ j, k = j + 1 := ⟨k - 1, by omega⟩
    have hb : b = m := firstMax_one ⟨b0, by omega, fun j j0 j1 => hp j j0 (by omega)⟩ hm
    subst hb
    rw [spec_Shares.l3, if_neg (by omega), if_pos b0, if_pos (by omega), if_pos (by omega)]
    rfl
  | succ n ih =>
    intro k b i b0 bi hi hc hk hp
    obtain ⟨k, rfl⟩ : ∃ j, k = j + 1 := ⟨k - 1, by omega⟩
    have hw : wrap64 (i + 1) = i + 1 := by unfold wrap64; omega
    rw [spec_Shares.l3, if_pos (by omega), if_pos (by omega), if_pos b0, if_pos (by omega), hw]
    have e : k + 1 - (n + 1) - 1 = k - n - 1 := by omega
    by_cases q : rd x8 i > rd x8 b
    · rw [if_pos q, e]
      refine ih k i (i + 1) (by omega) (by omega) (by omega) hc (by omega) (fun j j0 j1 => ?_)
      by_cases ej : j = i
      · subst ej; exact ⟨Int.le_refl _, fun q => absurd q (by omega)⟩
      · have := (hp j j0 (by omega)).1
        exact ⟨by omega, fun _ => by omega⟩
    · rw [if_neg q, e]
      refine ih k b (i + 1) b0 (by omega) (by omega) hc (by omega) (fun j j0 j1 => ?_)
      by_cases ej : j = i
      · subst ej; exact ⟨by omega, fun q => absurd q (by omega)⟩
      · exact hp j j0 (by omega)
set_option maxRecDepth 100000 in
theorem Shares_l2 {one : Int} (ho : one = 1 ∨ one = -1) : ∀ (P : List Cut) (k : Nat) (x5 x8 : List Int), P.length ≤ 200 → picks x8 P → x5.length = x8.length → x8.length ≤ 200 → P.length * 300 < k →
    spec_Shares.l2 k x5 x8 (one * (P.length : Int)) one = some (giveC one x5 P)
  | [], k, x5, x8, _, _, _, _, hk => by
    obtain ⟨k, rfl⟩ : ∃ j, k = j + 1 := ⟨k - 1, by omega⟩
    rw [spec_Shares.l2, if_pos (by simp)]
    rfl
  | c :: cs, k, x5, x8, hP, hp, hl, hc, hk => by
    obtain ⟨k, rfl⟩ : ∃ j, k = j + 1 := ⟨k - 1, by omega⟩
    unfold picks at hp
    obtain ⟨hm, hp⟩ := hp
    have hlen := hm.2.1
    have h0 := hm.1
    simp only [List.length_cons] at hP hk
    have hne : ¬ one * (((c :: cs).length : Nat) : Int) = 0 := by
      simp only [List.length_cons]
      rcases ho with rfl | rfl <;> omega
    rw [spec_Shares.l2, if_neg hne]
    rw [Shares_l3 x5 x8 _ one c.f0 hm hl (x8.length - 1) k 0 1 (by omega) (by omega) (by omega) hc (by omega) (fun j j0 j1 => by
      have : j = 0 := by omega
      subst this
      exact ⟨Int.le_refl _, fun q => absurd q (by omega)⟩)]
    have hs : wrap64 (one * (((c :: cs).length : Nat) : Int) - one) = one * (cs.length : Int) := by
      simp only [List.length_cons]
      unfold wrap64
      rcases ho with rfl | rfl <;> omega
    rw [hs, Shares_l2 ho cs _ _ _ (by omega) hp (by simp [hl]) (by simpa using hc) (by omega)]
    rfl
theorem Shares_l0 (t : Int) (ws : List Int) (hl : ws.length ≤ 200) : ∀ (n k : Nat) (i : Int), 0 ≤ i → i + n = (ws.length : Int) → n < k → (∀ x ∈ ws.take i.toNat, factP x) →
    spec_Shares.l0 k t ws [] (sumS (ws.take i.toNat)) i = open Classical in if ∀ x ∈ ws, factP x then (if sumS ws = 0 then some [] else spec_Shares.l1 (k - n - 1) t ws [] (sumS ws) [] t 0) else some [] := by
  intro n
  induction n with
  | zero =>
    intro k i i0 hi hk hp
    obtain ⟨k, rfl⟩ : ∃ j, k = j + 1 := ⟨k - 1, by omega⟩
    have e : ws.take i.toNat = ws := List.take_of_length_le (by omega)
    rw [e] at hp ⊢
    rw [spec_Shares.l0, if_neg (by omega), if_pos hp]
    rfl
  | succ n ih =>
    intro k i i0 hi hk hp
    obtain ⟨k, rfl⟩ : ∃ j, k = j + 1 := ⟨k - 1, by omega⟩
    have hm := mem_rd (l := ws) i0 (by omega)
    have hw : wrap64 (i + 1) = i + 1 := by unfold wrap64; omega
    rw [spec_Shares.l0, if_pos (by omega), if_pos i0]
    by_cases q : factP (rd ws i)
    · have hf : spec_l1Factor.f (rd ws i) = some true := by
        unfold spec_l1Factor.f spec_l1In.f
        unfold factP at q
        simp [inB_of q]
      have hs := sumS_b hp
      have hs2 : wrap64 (sumS (ws.take i.toNat) + rd ws i) = sumS (ws.take (i + 1).toNat) := by
        rw [take_rd i0 (by omega), sumS_app]
        simp only [sumS]
        have hl2 : (ws.take i.toNat).length ≤ 200 := by rw [List.length_take]; omega
        unfold factP at q
        unfold wrap64
        omega
      rw [hf]
      simp only [Option.bind_some, if_true]
      rw [hs2, hw, ih k (i + 1) (by omega) (by omega) (by omega) (fun x hx => by
        rw [take_rd i0 (by omega)] at hx
        rcases List.mem_append.1 hx with hx | hx
        · exact hp x hx
        · rw [List.mem_singleton.1 hx]; exact q)]
      rw [show k + 1 - (n + 1) - 1 = k - n - 1 by omega]
    · have hf : spec_l1Factor.f (rd ws i) = some false := by
        unfold spec_l1Factor.f spec_l1In.f
        unfold factP at q
        simp [inB_not q]
      rw [hf, if_neg (fun h => q (h _ hm))]
      simp
theorem Shares_l1 (t all : Int) (ws : List Int) (hl : ws.length ≤ 200) (ht : -100000000000 ≤ t ∧ t ≤ 100000000000) (hf : ∀ x ∈ ws, factP x) (ha : all ≠ 0) : ∀ (n k : Nat) (i : Int), 0 ≤ i → i + n = (ws.length : Int) → n < k →
    spec_Shares.l1 k t ws ((quoS t all ws).take i.toNat) all ((rstS t all ws).take i.toNat) (wrap64 (t - sumS ((quoS t all ws).take i.toNat))) i = if wrap64 (t - sumS (quoS t all ws)) < 0 then spec_Shares.j3 (k - n - 1) (quoS t all ws) (rstS t all ws) (wrap64 (t - sumS (quoS t all ws))) (-1) else spec_Shares.j3 (k - n - 1) (quoS t all ws) (rstS t all ws) (wrap64 (t - sumS (quoS t all ws))) 1 := by
  have l1 : (quoS t all ws).length = ws.length := by unfold quoS; rw [List.length_map]
  have l2 : (rstS t all ws).length = ws.length := by unfold rstS; rw [List.length_map]
  intro n
  induction n with
  | zero =>
    intro k i i0 hi hk
    obtain ⟨k, rfl⟩ : ∃ j, k = j + 1 := ⟨k - 1, by omega⟩
    have e : (quoS t all ws).take i.toNat = quoS t all ws := List.take_of_length_le (by omega)
    have e2 : (rstS t all ws).take i.toNat = rstS t all ws := List.take_of_length_le (by omega)
    rw [e, e2, spec_Shares.l1, if_neg (by omega)]
    rfl
  | succ n ih =>
    intro k i i0 hi hk
    obtain ⟨k, rfl⟩ : ∃ j, k = j + 1 := ⟨k - 1, by omega⟩
    have hm := mem_rd (l := ws) i0 (by omega)
    have hw : wrap64 (i + 1) = i + 1 := by unfold wrap64; omega
    have hb := mulB ht (hf _ hm)
    have hwm : wrap64 (t * rd ws i) = t * rd ws i := by unfold wrap64; omega
    have hd := tdivB (a := t * rd ws i) (b := all)
    have hr := tmodB (a := t * rd ws i) (b := all)
    have hwd : wrap64 (Int.tdiv (t * rd ws i) all) = Int.tdiv (t * rd ws i) all := by unfold wrap64; omega
    have habs : spec_l1Abs.f (Int.tmod (t * rd ws i) all) = some (absI (Int.tmod (t * rd ws i) all)) := by
      unfold spec_l1Abs.f absI
      split
      · congr 1; unfold wrap64; omega
      · rfl
    have hq : rd (quoS t all ws) i = Int.tdiv (t * rd ws i) all := by
      unfold rd quoS
      rw [List.getD_eq_getElem?_getD, List.getD_eq_getElem?_getD, List.getElem?_map, List.getElem?_eq_getElem (by omega)]
      rfl
    have hq2 : rd (rstS t all ws) i = absI (Int.tmod (t * rd ws i) all) := by
      unfold rd rstS
      rw [List.getD_eq_getElem?_getD, List.getD_eq_getElem?_getD, List.getElem?_map, List.getElem?_eq_getElem (by omega)]
      rfl
    rw [spec_Shares.l1, if_pos (by omega), if_pos i0, if_neg ha, if_pos (by rw [List.length_take]; omega), hwm, habs]
    simp only [Option.bind_some]
    rw [if_pos (by rw [List.length_take]; omega), hwd, ← hq, ← hq2, ← take_rd i0 (by omega), ← take_rd i0 (by omega), hw, wrap_sub]
    have hs : t - sumS ((quoS t all ws).take i.toNat) - rd (quoS t all ws) i = t - sumS ((quoS t all ws).take (i + 1).toNat) := by
      rw [take_rd i0 (by omega), sumS_app]
      simp only [sumS]
      omega
    rw [hs, ih k (i + 1) (by omega) (by omega) (by omega)]
    rw [show k + 1 - (n + 1) - 1 = k - n - 1 by omega]
theorem spec_Shares_is (t : Int) (ws : List Int) (k : Nat) (hk : 100000 ≤ k) : spec_Shares.f k t ws = some (sharesR t ws) := by
  unfold spec_Shares.f spec_l1Amount.f
  simp only [Option.bind_some]
  by_cases ht : -100000000000 ≤ t ∧ t ≤ 100000000000
  case neg =>
    obtain ⟨k, rfl⟩ : ∃ j, k = j + 1 := ⟨k - 1, by omega⟩
    rw [inB_not ht, if_neg (by simp), spec_Shares.j0, if_pos rfl]
    unfold sharesR
    rw [if_neg (fun q => ht q.1)]
  obtain ⟨k, rfl⟩ : ∃ j, k = j + 1 := ⟨k - 1, by omega⟩
  rw [inB_of ht, if_pos rfl, spec_Shares.j0]
  by_cases hl : ws.length ≤ 200
  case neg =>
    rw [if_pos (by simp; omega)]
    unfold sharesR
    rw [if_neg (fun q => hl q.2.1)]
  rw [if_neg (by simp; omega)]
  have h0 := Shares_l0 t ws hl ws.length k 0 (Int.le_refl _) (by omega) (by omega) (by simp)
  simp only [Int.toNat_zero, List.take_zero, sumS] at h0
  rw [h0]
  by_cases hf : ∀ x ∈ ws, factP x
  case neg =>
    rw [if_neg hf]
    unfold sharesR
    rw [if_neg (fun q => hf q.2.2.1)]
  rw [if_pos hf]
  by_cases hs : sumS ws = 0
  · rw [if_pos hs]
    unfold sharesR
    rw [if_neg (fun q => q.2.2.2 hs)]
  rw [if_neg hs]
  have hpos := sumS_b hf
  have h1 := Shares_l1 t (sumS ws) ws hl ht hf hs ws.length (k - ws.length - 1) 0 (Int.le_refl _) (by omega) (by omega)
  simp only [Int.toNat_zero, List.take_zero, sumS, Int.sub_zero] at h1
  rw [show wrap64 t = t by unfold wrap64; omega] at h1
  rw [h1]
  obtain ⟨f1, f2, f3⟩ := left_few (t := t) (ws := ws) (fun x hx => (hf x hx).1) (by omega)
  have hpk := picks_rst (t := t) (ws := ws) (t - sumS (quoS t (sumS ws) ws)).natAbs (by omega)
  have e1 : (quoS t (sumS ws) ws).length = ws.length := by unfold quoS; rw [List.length_map]
  have e2 : (rstS t (sumS ws) ws).length = ws.length := by unfold rstS; rw [List.length_map]
  have e3 : ((msortC ws.length (cutsOf (rstS t (sumS ws) ws))).take (t - sumS (quoS t (sumS ws) ws)).natAbs).length = (t - sumS (quoS t (sumS ws) ws)).natAbs := by
    rw [List.length_take, (msortC_perm _ _).length_eq]
    unfold cutsOf
    rw [List.length_map, List.length_range, e2]
    omega
  have hsr : sharesR t ws = giveC (oneS (t - sumS (quoS t (sumS ws) ws))) (quoS t (sumS ws) ws) ((msortC ws.length (cutsOf (rstS t (sumS ws) ws))).take (t - sumS (quoS t (sumS ws) ws)).natAbs) := by
    unfold sharesR
    rw [if_pos ⟨ht, hl, hf, hs⟩]
  rw [hsr]
  clear hsr
  generalize t - sumS (quoS t (sumS ws) ws) = L at *
  generalize (msortC ws.length (cutsOf (rstS t (sumS ws) ws))).take L.natAbs = P at *
  rw [show wrap64 L = L by unfold wrap64; omega]
  obtain ⟨k2, hk2⟩ : ∃ j, k - ws.length - 1 - ws.length - 1 = j + 1 := ⟨k - ws.length - 1 - ws.length - 1 - 1, by omega⟩
  rw [hk2]
  by_cases hL : L < 0
  · rw [if_pos hL, spec_Shares.j3]
    have := Shares_l2 (one := -1) (.inr rfl) P k2 (quoS t (sumS ws) ws) (rstS t (sumS ws) ws) (by omega) hpk (by omega) (by omega) (by omega)
    rw [show (-1 : Int) * (P.length : Int) = L by omega] at this
    rw [this]
    unfold oneS
    rw [if_pos hL]
  · rw [if_neg hL, spec_Shares.j3]
    have := Shares_l2 (one := 1) (.inl rfl) P k2 (quoS t (sumS ws) ws) (rstS t (sumS ws) ws) (by omega) hpk (by omega) (by omega) (by omega)
    rw [show (1 : Int) * (P.length : Int) = L by omega] at this
    rw [this]
    unfold oneS
    rw [if_neg hL]
end Go.Proofs.Ytphmnkcfjgallaa.Q
namespace Go.Proofs.Ytphmnkcfjgallaa.Q
open Go.RowKit Go.Proofs.YtphmnkcfjgallaaW.PrintWords Go.Proofs.YtphmnkcfjgallaaW.PrintLast Go.Proofs.YtphmnkcfjgallaaW.PrintMore
attribute [local go_sem] max2_int min2_int max_two min_two max_three min_three max_four min_four   -- for this text's walks alone
set_option linter.unusedVariables false
set_option linter.unusedSimpArgs false
end Go.Proofs.Ytphmnkcfjgallaa.Q
namespace Go.Proofs.Ytphmnkcfjgallaa.Q
open Go.RowKit Go.Proofs.YtphmnkcfjgallaaW.PrintWords Go.Proofs.YtphmnkcfjgallaaW.PrintLast Go.Proofs.YtphmnkcfjgallaaW.PrintMore
attribute [local go_sem] max2_int min2_int max_two min_two max_three min_three max_four min_four   -- for this text's walks alone
set_option linter.unusedVariables false
set_option linter.unusedSimpArgs false
end Go.Proofs.Ytphmnkcfjgallaa.Q
namespace Go.Proofs.Ytphmnkcfjgallaa.Q
open Go.RowKit Go.Proofs.YtphmnkcfjgallaaW.PrintWords Go.Proofs.YtphmnkcfjgallaaW.PrintLast Go.Proofs.YtphmnkcfjgallaaW.PrintMore
attribute [local go_sem] max2_int min2_int max_two min_two max_three min_three max_four min_four   -- for this text's walks alone
set_option linter.unusedVariables false
set_option linter.unusedSimpArgs false
noncomputable def impl_EntryOk.f (l0_0 : List (S131)) (a0_1 : Int) (a0_2 : Int) (a1_0 : Int) (a1_1 : Int) (a1_2 : ByteArray) (l1_3 : List (S112)) : Option (Bool) := (impl_FrameOk.f l0_0 a0_1 a0_2).bind fun t108003 => (if t108003 = true then ((impl_entryIn.f l0_0 a0_1 a0_2 a1_0 a1_1 a1_2 l1_3).bind fun t108004 => (some t108004)) else (some false))
set_option maxHeartbeats 8000000 in
set_option maxRecDepth 100000 in
theorem impl_EntryOk.calls (A0_0 : Option Addr) (c0_0 : Nat) (l0_0 : List (S131)) (a0_1 : Int) (a0_2 : Int) (a1_0 : Int) (a1_1 : Int) (a1_2 : ByteArray) (A1_3 : Option Addr) (c1_3 : Nat) (l1_3 : List (S112)) (r : Bool) (w : World) (hr0_0 : Kd.C k131 w A0_0 l0_0.length l0_0) (hc0_0 : l0_0.length ≤ c0_0) (hr1_3 : Kd.C k112 w A1_3 l1_3.length l1_3) (hc1_3 : l1_3.length ≤ c1_3) (h : impl_EntryOk.f l0_0 a0_1 a0_2 a1_0 a1_1 a1_2 l1_3 = some r) :
    Calls Try.prog 107 #[.agg #[.slice A0_0 l0_0.length c0_0, .int .i64 a0_1, .int .i64 a0_2], .agg #[.int .i64 a1_0, .int .i64 a1_1, .string a1_2, .slice A1_3 l1_3.length c1_3]] w fun e w' => e = .returned (.bool r) ∧ Below w.heap.size w w' := by
  have hu26 := Try.underlying26
  have hu34 := Try.underlying34
  have HR0_0 := Aside0.mk hr0_0
  have HC0_0 := Aside0.mk hc0_0
  clear hr0_0 hc0_0
  have HR1_3 := Aside0.mk hr1_3
  have HC1_3 := Aside0.mk hc1_3
  clear hr1_3 hc1_3
  have HB := Aside0.mk (Below.refl w.heap.size w)
  have H : ((impl_FrameOk.f l0_0 a0_1 a0_2).bind fun t108003 => (if t108003 = true then ((impl_entryIn.f l0_0 a0_1 a0_2 a1_0 a1_1 a1_2 l1_3).bind fun t108004 => (some t108004)) else (some false))) = some r := h
  clear h
  replace H := Option.bind_eq_some_iff.mp H
  obtain ⟨t108003, A30, H⟩ := H
  replace H : (if t108003 = true then ((impl_entryIn.f l0_0 a0_1 a0_2 a1_0 a1_1 a1_2 l1_3).bind fun t108004 => (some t108004)) else (some false)) = some r := H
  have A3 := Aside0.mk A30
  clear A30
  by_cases c4 : t108003 = true
  · subst c4
    have H1 : ((impl_entryIn.f l0_0 a0_1 a0_2 a1_0 a1_1 a1_2 l1_3).bind fun t108004 => (some t108004)) = some r := by rw [if_pos rfl] at H; exact H
    clear H
    have H := H1
    clear H1
    replace H := Option.bind_eq_some_iff.mp H
    obtain ⟨t108004, A50, H⟩ := H
    replace H : (some t108004) = some r := H
    have A5 := Aside0.mk A50
    clear A50
    obtain rfl := Option.some.inj H
    go_enter Try.func107, Try.ntmps107
    go_wp2_with (first | ((with_reducible refine gate_dst (N := 2) rfl ?_); refine box_event ?hg (N := 2) ?hd (cs := #[.slice A0_0 l0_0.length c0_0, .int .i64 a0_1, .int .i64 a0_2]) (t := 26) ?hr ?_; (case hd => rfl); (case hg => rfl); (case hr => first | (go_simp; done) | (go_simp; rfl)); intro gb108001 hg w6 hbox hb; have n0_ := Aside0.mk (below_step (by repeat (first | (with_reducible first | exact HB.out | apply below_alloc | apply pw_below_drewN | apply below_drew1) | exact HB.out)) hb); have n1_ := Aside0.mk (hbox); have n2_ := Aside0.mk ((by rw [hg]; exact (below_size (by repeat (first | (with_reducible first | exact HB.out | apply below_alloc | apply pw_below_drewN | apply below_drew1) | exact HB.out))) : w.heap.size ≤ gb108001)); have n3_ := Aside0.mk ((by rw [hg]; exact (below_size (by repeat (first | (with_reducible first | exact HB.out | apply below_alloc | apply pw_below_drewN | apply below_drew1) | exact HB.out))) : w.heap.size ≤ gb108001)); clear HB; have HB := n0_; have BK108001 := n1_; have GW108001 := n2_; have GE108001 := n3_; clear n0_ n1_ n2_ n3_; clear hb hbox hg) | ((with_reducible refine gate_dst (N := 3) rfl ?_); refine box_event ?hg (N := 3) ?hd (cs := #[.int .i64 a1_0, .int .i64 a1_1, .string a1_2, .slice A1_3 l1_3.length c1_3]) (t := 34) ?hr ?_; (case hd => rfl); (case hg => rfl); (case hr => first | (go_simp; done) | (go_simp; rfl)); intro gb108002 hg w7 hbox hb; have n0_ := Aside0.mk (blk_below (g := gb108001) (o := .cells #[.slice A0_0 l0_0.length c0_0, .int .i64 a0_1, .int .i64 a0_2] 26 (0, 0)) (by (with_reducible repeat (first | refine blk_drewN ?_ _ | refine blk_drew ?_ | refine blk_alloc ?_ _)); exact BK108001.out) hb); have n1_ := Aside0.mk (below_step (by repeat (first | (with_reducible first | exact HB.out | apply below_alloc | apply pw_below_drewN | apply below_drew1 | refine below_set ?_ GE108001.out) | exact HB.out)) hb); have n2_ := Aside0.mk (hbox); have n3_ := Aside0.mk ((by rw [hg]; exact (below_size (by repeat (first | (with_reducible first | exact HB.out | apply below_alloc | apply pw_below_drewN | apply below_drew1 | refine below_set ?_ GE108001.out) | exact HB.out))) : w.heap.size ≤ gb108002)); have n4_ := Aside0.mk ((by rw [hg]; exact (below_size (by repeat (first | (with_reducible first | exact HB.out | apply below_alloc | apply pw_below_drewN | apply below_drew1 | refine below_set ?_ GE108001.out) | exact HB.out))) : w.heap.size ≤ gb108002)); have n5_ := Aside0.mk ((by rw [hg]; exact Nat.ne_of_lt (blk_lt (g := gb108001) (o := .cells #[.slice A0_0 l0_0.length c0_0, .int .i64 a0_1, .int .i64 a0_2] 26 (0, 0)) (by (with_reducible repeat (first | refine blk_drewN ?_ _ | refine blk_drew ?_ | refine blk_alloc ?_ _)); exact BK108001.out)) : gb108001 ≠ gb108002)); have n6_ := Aside0.mk ((by rw [hg]; exact Nat.ne_of_gt (blk_lt (g := gb108001) (o := .cells #[.slice A0_0 l0_0.length c0_0, .int .i64 a0_1, .int .i64 a0_2] 26 (0, 0)) (by (with_reducible repeat (first | refine blk_drewN ?_ _ | refine blk_drew ?_ | refine blk_alloc ?_ _)); exact BK108001.out)) : gb108002 ≠ gb108001)); clear BK108001; clear HB; have BK108001 := n0_; have HB := n1_; have BK108002 := n2_; have GW108002 := n3_; have GE108002 := n4_; have NB108001_108002 := n5_; have NB108002_108001 := n6_; clear n0_ n1_ n2_ n3_ n4_ n5_ n6_; clear hb hbox hg; have hnb8 := NB108001_108002.out; have hnc8 := NB108002_108001.out; have hcz9_0 : w7.cell? ⟨gb108001, 0, none⟩ = some (.slice A0_0 l0_0.length c0_0) := (blk_cell BK108001.out 0).trans rfl; have hcz9_1 : w7.cell? ⟨gb108001, 1, none⟩ = some (.int .i64 a0_1) := (blk_cell BK108001.out 1).trans rfl; have hcz9_2 : w7.cell? ⟨gb108001, 2, none⟩ = some (.int .i64 a0_2) := (blk_cell BK108001.out 2).trans rfl; have hfz9_0 := blk_frozen BK108001.out 0; have hfz9_1 := blk_frozen BK108001.out 1; have hfz9_2 := blk_frozen BK108001.out 2) | ((with_reducible refine gate_callee (f := 93) rfl ?_); refine goesL_ (some 6) rfl rfl Try.func93 (by kernel_rfl) rfl #[.agg #[.slice A0_0 l0_0.length c0_0, .int .i64 a0_1, .int .i64 a0_2]] rfl (by (try simp only [List.map_toArray, List.map_cons, List.map_nil]); first | done | rfl | (simp only [List.length_drop, List.length_take]; rfl)) ?_; (with_reducible refine (impl_FrameOk.calls _ _ l0_0 a0_1 a0_2 true _ ?side1 ?side2 A3.out).mono ?_); (case side1 => repeat (first | exact (Kd.C_below HR0_0.out HB.out) | (with_reducible refine Kd.C_alloc ?_ _) | (with_reducible refine Kd.C_drewN ?_ _) | (with_reducible refine Kd.C_drew ?_))); (case side2 => exact HC0_0.out); rintro e w10 ⟨rfl, hb⟩; refine ⟨_, rfl, ?_⟩; have n0_ := Aside0.mk (blk_below (g := gb108001) (o := .cells #[.slice A0_0 l0_0.length c0_0, .int .i64 a0_1, .int .i64 a0_2] 26 (0, 0)) (by (with_reducible repeat (first | refine blk_drewN ?_ _ | refine blk_drew ?_ | refine blk_alloc ?_ _)); exact BK108001.out) hb); have n1_ := Aside0.mk (blk_below (g := gb108002) (o := .cells #[.int .i64 a1_0, .int .i64 a1_1, .string a1_2, .slice A1_3 l1_3.length c1_3] 34 (0, 0)) (by (with_reducible repeat (first | refine blk_drewN ?_ _ | refine blk_drew ?_ | refine blk_alloc ?_ _)); exact BK108002.out) hb); have n2_ := Aside0.mk (below_step (by repeat (first | (with_reducible first | exact HB.out | apply below_alloc | apply pw_below_drewN | apply below_drew1 | refine below_set ?_ GE108001.out | refine below_set ?_ GE108002.out) | exact HB.out)) hb); clear BK108001; clear BK108002; clear HB; have BK108001 := n0_; have BK108002 := n1_; have HB := n2_; clear n0_ n1_ n2_; (try clear hb); (try clear hb2); (try clear hk); (try clear hi); have hcz11_0 : w10.cell? ⟨gb108001, 0, none⟩ = some (.slice A0_0 l0_0.length c0_0) := (blk_cell BK108001.out 0).trans rfl; have hcz11_1 : w10.cell? ⟨gb108001, 1, none⟩ = some (.int .i64 a0_1) := (blk_cell BK108001.out 1).trans rfl; have hcz11_2 : w10.cell? ⟨gb108001, 2, none⟩ = some (.int .i64 a0_2) := (blk_cell BK108001.out 2).trans rfl; have hfz11_0 := blk_frozen BK108001.out 0; have hfz11_1 := blk_frozen BK108001.out 1; have hfz11_2 := blk_frozen BK108001.out 2; have hcz12_0 : w10.cell? ⟨gb108002, 0, none⟩ = some (.int .i64 a1_0) := (blk_cell BK108002.out 0).trans rfl; have hcz12_1 : w10.cell? ⟨gb108002, 1, none⟩ = some (.int .i64 a1_1) := (blk_cell BK108002.out 1).trans rfl; have hcz12_2 : w10.cell? ⟨gb108002, 2, none⟩ = some (.string a1_2) := (blk_cell BK108002.out 2).trans rfl; have hcz12_3 : w10.cell? ⟨gb108002, 3, none⟩ = some (.slice A1_3 l1_3.length c1_3) := (blk_cell BK108002.out 3).trans rfl; have hfz12_0 := blk_frozen BK108002.out 0; have hfz12_1 := blk_frozen BK108002.out 1; have hfz12_2 := blk_frozen BK108002.out 2; have hfz12_3 := blk_frozen BK108002.out 3) | (go_at_call 84; (with_reducible refine (impl_entryIn.calls _ _ l0_0 a0_1 a0_2 a1_0 a1_1 a1_2 _ _ l1_3 t108004 _ ?side1 ?side2 ?side3 ?side4 A5.out).mono ?_); (case side1 => repeat (first | exact (Kd.C_below HR0_0.out HB.out) | (with_reducible refine Kd.C_alloc ?_ _) | (with_reducible refine Kd.C_drewN ?_ _) | (with_reducible refine Kd.C_drew ?_))); (case side2 => exact HC0_0.out); (case side3 => repeat (first | exact (Kd.C_below HR1_3.out HB.out) | (with_reducible refine Kd.C_alloc ?_ _) | (with_reducible refine Kd.C_drewN ?_ _) | (with_reducible refine Kd.C_drew ?_))); (case side4 => exact HC1_3.out); rintro e w13 ⟨rfl, hb⟩; have n0_ := Aside0.mk (blk_below (g := gb108001) (o := .cells #[.slice A0_0 l0_0.length c0_0, .int .i64 a0_1, .int .i64 a0_2] 26 (0, 0)) (by (with_reducible repeat (first | refine blk_drewN ?_ _ | refine blk_drew ?_ | refine blk_alloc ?_ _)); exact BK108001.out) hb); have n1_ := Aside0.mk (blk_below (g := gb108002) (o := .cells #[.int .i64 a1_0, .int .i64 a1_1, .string a1_2, .slice A1_3 l1_3.length c1_3] 34 (0, 0)) (by (with_reducible repeat (first | refine blk_drewN ?_ _ | refine blk_drew ?_ | refine blk_alloc ?_ _)); exact BK108002.out) hb); have n2_ := Aside0.mk (below_step (by repeat (first | (with_reducible first | exact HB.out | apply below_alloc | apply pw_below_drewN | apply below_drew1 | refine below_set ?_ GE108001.out | refine below_set ?_ GE108002.out) | exact HB.out)) hb); clear BK108001; clear BK108002; clear HB; have BK108001 := n0_; have BK108002 := n1_; have HB := n2_; clear n0_ n1_ n2_; (try clear hb); (try clear hb2); (try clear hk); (try clear hi)))
    go_ret
    exact ⟨by first | rfl | (simp [errW_none, errW_some] <;> rfl) | (simp [*, errW_none, errW_some] <;> rfl), by repeat (first | (with_reducible first | exact HB.out | apply below_alloc | apply pw_below_drewN | apply below_drew1 | refine below_set ?_ GE108001.out | refine below_set ?_ GE108002.out) | exact HB.out)⟩
  · replace c4 := Bool.eq_false_iff.mpr c4
    subst c4
    have H1 : (some false) = some r := by rw [if_neg (show ¬ (false = true) by decide)] at H; exact H
    clear H
    have H := H1
    clear H1
    obtain rfl := Option.some.inj H
    go_enter Try.func107, Try.ntmps107
    go_wp2_with (first | ((with_reducible refine gate_dst (N := 2) rfl ?_); refine box_event ?hg (N := 2) ?hd (cs := #[.slice A0_0 l0_0.length c0_0, .int .i64 a0_1, .int .i64 a0_2]) (t := 26) ?hr ?_; (case hd => rfl); (case hg => rfl); (case hr => first | (go_simp; done) | (go_simp; rfl)); intro gb108001 hg w14 hbox hb; have n0_ := Aside0.mk (below_step (by repeat (first | (with_reducible first | exact HB.out | apply below_alloc | apply pw_below_drewN | apply below_drew1) | exact HB.out)) hb); have n1_ := Aside0.mk (hbox); have n2_ := Aside0.mk ((by rw [hg]; exact (below_size (by repeat (first | (with_reducible first | exact HB.out | apply below_alloc | apply pw_below_drewN | apply below_drew1) | exact HB.out))) : w.heap.size ≤ gb108001)); have n3_ := Aside0.mk ((by rw [hg]; exact (below_size (by repeat (first | (with_reducible first | exact HB.out | apply below_alloc | apply pw_below_drewN | apply below_drew1) | exact HB.out))) : w.heap.size ≤ gb108001)); clear HB; have HB := n0_; have BK108001 := n1_; have GW108001 := n2_; have GE108001 := n3_; clear n0_ n1_ n2_ n3_; clear hb hbox hg) | ((with_reducible refine gate_dst (N := 3) rfl ?_); refine box_event ?hg (N := 3) ?hd (cs := #[.int .i64 a1_0, .int .i64 a1_1, .string a1_2, .slice A1_3 l1_3.length c1_3]) (t := 34) ?hr ?_; (case hd => rfl); (case hg => rfl); (case hr => first | (go_simp; done) | (go_simp; rfl)); intro gb108002 hg w15 hbox hb; have n0_ := Aside0.mk (blk_below (g := gb108001) (o := .cells #[.slice A0_0 l0_0.length c0_0, .int .i64 a0_1, .int .i64 a0_2] 26 (0, 0)) (by (with_reducible repeat (first | refine blk_drewN ?_ _ | refine blk_drew ?_ | refine blk_alloc ?_ _)); exact BK108001.out) hb); have n1_ := Aside0.mk (below_step (by repeat (first | (with_reducible first | exact HB.out | apply below_alloc | apply pw_below_drewN | apply below_drew1 | refine below_set ?_ GE108001.out) | exact HB.out)) hb); have n2_ := Aside0.mk (hbox); have n3_ := Aside0.mk ((by rw [hg]; exact (below_size (by repeat (first | (with_reducible first | exact HB.out | apply below_alloc | apply pw_below_drewN | apply below_drew1 | refine below_set ?_ GE108001.out) | exact HB.out))) : w.heap.size ≤ gb108002)); have n4_ := Aside0.mk ((by rw [hg]; exact (below_size (by repeat (first | (with_reducible first | exact HB.out | apply below_alloc | apply pw_below_drewN | apply below_drew1 | refine below_set ?_ GE108001.out) | exact HB.out))) : w.heap.size ≤ gb108002)); have n5_ := Aside0.mk ((by rw [hg]; exact Nat.ne_of_lt (blk_lt (g := gb108001) (o := .cells #[.slice A0_0 l0_0.length c0_0, .int .i64 a0_1, .int .i64 a0_2] 26 (0, 0)) (by (with_reducible repeat (first | refine blk_drewN ?_ _ | refine blk_drew ?_ | refine blk_alloc ?_ _)); exact BK108001.out)) : gb108001 ≠ gb108002)); have n6_ := Aside0.mk ((by rw [hg]; exact Nat.ne_of_gt (blk_lt (g := gb108001) (o := .cells #[.slice A0_0 l0_0.length c0_0, .int .i64 a0_1, .int .i64 a0_2] 26 (0, 0)) (by (with_reducible repeat (first | refine blk_drewN ?_ _ | refine blk_drew ?_ | refine blk_alloc ?_ _)); exact BK108001.out)) : gb108002 ≠ gb108001)); clear BK108001; clear HB; have BK108001 := n0_; have HB := n1_; have BK108002 := n2_; have GW108002 := n3_; have GE108002 := n4_; have NB108001_108002 := n5_; have NB108002_108001 := n6_; clear n0_ n1_ n2_ n3_ n4_ n5_ n6_; clear hb hbox hg; have hnb16 := NB108001_108002.out; have hnc16 := NB108002_108001.out; have hcz17_0 : w15.cell? ⟨gb108001, 0, none⟩ = some (.slice A0_0 l0_0.length c0_0) := (blk_cell BK108001.out 0).trans rfl; have hcz17_1 : w15.cell? ⟨gb108001, 1, none⟩ = some (.int .i64 a0_1) := (blk_cell BK108001.out 1).trans rfl; have hcz17_2 : w15.cell? ⟨gb108001, 2, none⟩ = some (.int .i64 a0_2) := (blk_cell BK108001.out 2).trans rfl; have hfz17_0 := blk_frozen BK108001.out 0; have hfz17_1 := blk_frozen BK108001.out 1; have hfz17_2 := blk_frozen BK108001.out 2) | ((with_reducible refine gate_callee (f := 93) rfl ?_); refine goesL_ (some 6) rfl rfl Try.func93 (by kernel_rfl) rfl #[.agg #[.slice A0_0 l0_0.length c0_0, .int .i64 a0_1, .int .i64 a0_2]] rfl (by (try simp only [List.map_toArray, List.map_cons, List.map_nil]); first | done | rfl | (simp only [List.length_drop, List.length_take]; rfl)) ?_; (with_reducible refine (impl_FrameOk.calls _ _ l0_0 a0_1 a0_2 false _ ?side1 ?side2 A3.out).mono ?_); (case side1 => repeat (first | exact (Kd.C_below HR0_0.out HB.out) | (with_reducible refine Kd.C_alloc ?_ _) | (with_reducible refine Kd.C_drewN ?_ _) | (with_reducible refine Kd.C_drew ?_))); (case side2 => exact HC0_0.out); rintro e w18 ⟨rfl, hb⟩; refine ⟨_, rfl, ?_⟩; have n0_ := Aside0.mk (blk_below (g := gb108001) (o := .cells #[.slice A0_0 l0_0.length c0_0, .int .i64 a0_1, .int .i64 a0_2] 26 (0, 0)) (by (with_reducible repeat (first | refine blk_drewN ?_ _ | refine blk_drew ?_ | refine blk_alloc ?_ _)); exact BK108001.out) hb); have n1_ := Aside0.mk (blk_below (g := gb108002) (o := .cells #[.int .i64 a1_0, .int .i64 a1_1, .string a1_2, .slice A1_3 l1_3.length c1_3] 34 (0, 0)) (by (with_reducible repeat (first | refine blk_drewN ?_ _ | refine blk_drew ?_ | refine blk_alloc ?_ _)); exact BK108002.out) hb); have n2_ := Aside0.mk (below_step (by repeat (first | (with_reducible first | exact HB.out | apply below_alloc | apply pw_below_drewN | apply below_drew1 | refine below_set ?_ GE108001.out | refine below_set ?_ GE108002.out) | exact HB.out)) hb); clear BK108001; clear BK108002; clear HB; have BK108001 := n0_; have BK108002 := n1_; have HB := n2_; clear n0_ n1_ n2_; (try clear hb); (try clear hb2); (try clear hk); (try clear hi)))
    go_ret
    exact ⟨by first | rfl | (simp [errW_none, errW_some] <;> rfl) | (simp [*, errW_none, errW_some] <;> rfl), by repeat (first | (with_reducible first | exact HB.out | apply below_alloc | apply pw_below_drewN | apply below_drew1 | refine below_set ?_ GE108001.out | refine below_set ?_ GE108002.out) | exact HB.out)⟩
end Go.Proofs.Ytphmnkcfjgallaa.Q
