/- Parts of the proof: what functions of the program and of the reference answer.
   No condition. -/
import Derived.Test.YtphmnkcfjgallaaZSpread1
import Derived.Test.YtphmnkcfjgallaaZSpread13
import Derived.Test.YtphmnkcfjgallaaZSpread6
import Derived.Test.YtphmnkcfjgallaaZSpread2
import Derived.Test.YtphmnkcfjgallaaZSpread15
import Derived.Test.YtphmnkcfjgallaaZSpread10
import Derived.Test.YtphmnkcfjgallaaZSpread8
import Derived.Test.YtphmnkcfjgallaaZSpread14
import Derived.Test.YtphmnkcfjgallaaZSpread4
import Derived.Test.YtphmnkcfjgallaaZSpread3
import Derived.Test.YtphmnkcfjgallaaZSpread11
import Derived.Test.YtphmnkcfjgallaaZSpread16
import Derived.Test.YtphmnkcfjgallaaZSpread12
import Derived.Test.YtphmnkcfjgallaaZSpread17
namespace Go.Proofs.Ytphmnkcfjgallaa.Q
open Go.RowKit Go.Proofs.YtphmnkcfjgallaaW.PrintWords Go.Proofs.YtphmnkcfjgallaaW.PrintLast Go.Proofs.YtphmnkcfjgallaaW.PrintMore
set_option linter.unusedVariables false
set_option linter.unusedSimpArgs false
theorem fill_loop {α β : Type} (F : Nat → List α → List β → Int → Option (List β)) (cv : α → β) (z : α) (l : List α) (D : Nat)
    (hstep : ∀ k x i, D ≤ k → 0 ≤ i → i < (l.length : Int) → x.length = l.length → F (k + 1) l x i = F k l (x.set i.toNat (cv (l.getD i.toNat z))) (i + 1))
    (hend : ∀ k x i, (l.length : Int) ≤ i → F (k + 1) l x i = some x) :
    ∀ (n k : Nat) (x : List β) (i : Nat), i + n = l.length → n + D < k → x.length = l.length → x.take i = (l.map cv).take i → F k l x i = some (l.map cv)
  | 0, k, x, i, hi, hk, hx, ht => by
    obtain ⟨m, rfl⟩ : ∃ m, k = m + 1 := ⟨k - 1, by omega⟩
    rw [hend m x i (by omega)]
    rw [List.take_of_length_le (by omega), List.take_of_length_le (by simp; omega)] at ht
    rw [ht]
  | n + 1, k, x, i, hi, hk, hx, ht => by
    obtain ⟨m, rfl⟩ : ∃ m, k = m + 1 := ⟨k - 1, by omega⟩
    rw [hstep m x i (by omega) (by omega) (by omega) hx]
    refine fill_loop F cv z l D hstep hend n m _ (i + 1) (by omega) (by omega) (by simpa using hx) ?_
    have hxi : i < x.length := by omega
    have hli : i < l.length := by omega
    simp only [Int.toNat_natCast]
    rw [List.take_add_one, List.take_add_one, List.take_set, ht, List.getElem?_set_self (by omega), List.getElem?_map, List.getElem?_eq_getElem hli, List.getD_eq_getElem?_getD, List.getElem?_eq_getElem hli]
    rw [List.set_eq_of_length_le (by simp; omega)]
    simp
def cvAccount (x : S176) : S131 := ⟨x.f0, x.f1, x.f2⟩
def cvPeriod (x : S138) : S133 := ⟨x.f0, x.f1⟩
theorem laws_toAccountS_is (l : List S176) (k : Nat) (hl : l.length ≤ 1048576) (hk : l.length < k) : laws_toAccountS.f k l = some (l.map cvAccount) := by
  unfold laws_toAccountS.f
  rw [if_pos (by omega), if_pos (by omega)]
  exact fill_loop laws_toAccountS.l0 cvAccount z176 l 0 (fun k x i _ h0 h1 hx => by
    simp only [laws_toAccountS.l0]
    rw [if_pos h1, if_pos h0]
    simp only [laws_toAccount.f, Option.bind_some]
    rw [if_pos (by omega), show wrap64 (i + 1) = i + 1 by unfold wrap64; omega]
    rfl) (fun k x i h => by simp only [laws_toAccountS.l0]; rw [if_neg (by omega)]) l.length k _ 0 (by omega) (by omega) (by simp) (by simp)
theorem laws_toPeriodS_is (l : List S138) (k : Nat) (hl : l.length ≤ 1048576) (hk : l.length < k) : laws_toPeriodS.f k l = some (l.map cvPeriod) := by
  unfold laws_toPeriodS.f
  rw [if_pos (by omega), if_pos (by omega)]
  exact fill_loop laws_toPeriodS.l0 cvPeriod z138 l 0 (fun k x i _ h0 h1 hx => by
    simp only [laws_toPeriodS.l0]
    rw [if_pos h1, if_pos h0]
    simp only [laws_toPeriod.f, Option.bind_some]
    rw [if_pos (by omega), show wrap64 (i + 1) = i + 1 by unfold wrap64; omega]
    rfl) (fun k x i h => by simp only [laws_toPeriodS.l0]; rw [if_neg (by omega)]) l.length k _ 0 (by omega) (by omega) (by simp) (by simp)
theorem laws_toFrame_is (l : List S176) (d c : Int) (k : Nat) (hl : l.length ≤ 1048576) (hk : 3000000 ≤ k) : laws_toFrame.f k l d c = some (l.map cvAccount, d, c) := by
  unfold laws_toFrame.f
  rw [laws_toAccountS_is l k hl (by omega)]
  rfl
theorem text_cvAccount {l : List S176} (h : ∀ y ∈ l, wf176 y) : ∀ x ∈ l.map cvAccount, x.f0.size ≤ maxLen := by
  intro x hx
  obtain ⟨y, hy, rfl⟩ := List.mem_map.1 hx
  exact (h y hy).1
end Go.Proofs.Ytphmnkcfjgallaa.Q
namespace Go.Proofs.Ytphmnkcfjgallaa.Q
open Go.RowKit Go.Proofs.YtphmnkcfjgallaaW.PrintWords Go.Proofs.YtphmnkcfjgallaaW.PrintLast Go.Proofs.YtphmnkcfjgallaaW.PrintMore
set_option linter.unusedVariables false
set_option linter.unusedSimpArgs false
noncomputable def okE (m0 : List Acc) (d c : Int) (e : Ent) : Bool := frameB m0 d c && entryB m0 d c e
def sprT : ByteArray := ⟨#[115, 112, 114, 101, 97, 100]⟩
def sprE (fr tt dim : Int) (ps : List Per) (sh : List Int) (i : Nat) : Ent := ⟨(rd_T133 ps (i : Int)).f1, 0, sprT, [⟨tt, dim, 0, rd sh (i : Int), rd sh (i : Int)⟩, ⟨fr, dim, 0, wrap64 (-(rd sh (i : Int))), wrap64 (-(rd sh (i : Int)))⟩]⟩
open Classical in
noncomputable def sprF (m0 : List Acc) (d c fr tt dim : Int) (ps : List Per) (sh : List Int) (i : Nat) : List Ent := if ∀ j : Nat, i ≤ j → j < sh.length → okE m0 d c (sprE fr tt dim ps sh j) = true then (List.range sh.length).map (sprE fr tt dim ps sh) else []
theorem impl_EntryOk_is (m0 : List Acc) (d c : Int) (e : Ent) (h1 : ∀ x ∈ m0, x.f0.size ≤ maxLen) (h2 : e.f2.size ≤ maxLen) : impl_EntryOk.f m0 d c e.f0 e.f1 e.f2 e.f3 = some (okE m0 d c e) := by
  unfold impl_EntryOk.f impl_FrameOk.f okE
  rw [if_pos h1]
  simp only [Option.bind_some]
  cases h : frameB m0 d c with
  | false => simp
  | true =>
    obtain ⟨_, q1, q2⟩ := frame_parts h
    unfold impl_entryIn.f
    rw [if_pos rfl, if_pos ⟨q1, q2, h2⟩]
    simp
theorem spec_EntryOk_is (m0 : List Acc) (d c : Int) (e : Ent) (h1 : ∀ x ∈ m0, x.f0.size ≤ maxLen) (h2 : e.f2.size ≤ maxLen) : spec_EntryOk.f m0 d c e.f0 e.f1 e.f2 e.f3 = some (okE m0 d c e) := by
  unfold spec_EntryOk.f okE
  rw [if_pos ⟨h1, h2⟩]
theorem sprT_small : sprT.size ≤ maxLen := by
  have : sprT.size = 6 := by decide
  unfold maxLen; omega
theorem sprF_end {m0 : List Acc} {d c fr tt dim : Int} {ps : List Per} {sh : List Int} {i : Nat} (h : sh.length ≤ i) : sprF m0 d c fr tt dim ps sh i = (List.range sh.length).map (sprE fr tt dim ps sh) := if_pos (fun j h1 h2 => by omega)
theorem sprF_go {m0 : List Acc} {d c fr tt dim : Int} {ps : List Per} {sh : List Int} {i : Nat} (h : okE m0 d c (sprE fr tt dim ps sh i) = true) : sprF m0 d c fr tt dim ps sh i = sprF m0 d c fr tt dim ps sh (i + 1) := by
  unfold sprF
  by_cases q : ∀ j : Nat, i + 1 ≤ j → j < sh.length → okE m0 d c (sprE fr tt dim ps sh j) = true
  · rw [if_pos q, if_pos (fun j h1 h2 => by
      by_cases e : j = i
      · rw [e]; exact h
      · exact q j (by omega) h2)]
  · rw [if_neg q, if_neg (fun r => q (fun j h1 h2 => r j (by omega) h2))]
theorem sprF_no {m0 : List Acc} {d c fr tt dim : Int} {ps : List Per} {sh : List Int} {i : Nat} (hi : i < sh.length) (h : okE m0 d c (sprE fr tt dim ps sh i) = false) : sprF m0 d c fr tt dim ps sh i = [] := if_neg (fun q => by have := q i (Nat.le_refl _) hi; rw [h] at this; cases this)
theorem range_snoc (i : Nat) (g : Nat → Ent) : (List.range i).map g ++ [g i] = (List.range (i + 1)).map g := by rw [List.range_succ, List.map_append]; rfl
section
variable (m0 : List Acc) (d c fr tt dim : Int) (ps : List Per) (sh : List Int) (hs : ∀ x ∈ m0, x.f0.size ≤ maxLen) (hl : sh.length ≤ 200) (hp : sh.length = 0 ∨ sh.length = ps.length)
include hs hl hp
theorem Spread_l1I : ∀ n k i : Nat, i + n = sh.length → n < k → impl_Spread.l1 k fr tt dim ps ((List.range i).map (sprE fr tt dim ps sh)) sh (sh.length : Int) (i : Int) m0 d c = some (sprF m0 d c fr tt dim ps sh i) := by
  intro n
  induction n with
  | zero =>
    intro k i hi hk
    obtain ⟨k, rfl⟩ : ∃ j, k = j + 1 := ⟨k - 1, by omega⟩
    rw [impl_Spread.l1, if_neg (by omega), sprF_end (by omega), show i = sh.length by omega]
  | succ n ih =>
    intro k i hi hk
    obtain ⟨k, rfl⟩ : ∃ j, k = j + 1 := ⟨k - 1, by omega⟩
    have hw : wrap64 ((i : Int) + 1) = ((i + 1 : Nat) : Int) := by unfold wrap64; omega
    have he := impl_EntryOk_is m0 d c (sprE fr tt dim ps sh i) hs sprT_small
    rw [impl_Spread.l1, if_pos (by omega), if_pos (by omega), if_pos (by omega), if_pos (by omega)]
    simp only [Option.bind_some]
    rw [show impl_EntryOk.f m0 d c (rd_T133 ps (i : Int)).f1 0 (⟨#[115, 112, 114, 101, 97, 100]⟩ : ByteArray) [⟨tt, dim, 0, rd sh (i : Int), rd sh (i : Int)⟩, ⟨fr, dim, 0, wrap64 (-(rd sh (i : Int))), wrap64 (-(rd sh (i : Int)))⟩] = some (okE m0 d c (sprE fr tt dim ps sh i)) from he]
    simp only [Option.bind_some]
    cases hb : okE m0 d c (sprE fr tt dim ps sh i) with
    | false => rw [if_neg (by simp), sprF_no (by omega) hb]
    | true =>
      rw [if_pos rfl, if_pos (by rw [List.length_map, List.length_range]; omega), hw, sprF_go hb, ← ih k (i + 1) (by omega) (by omega), ← range_snoc]
      rfl
theorem Spread_l1S : ∀ n k i : Nat, i + n = sh.length → n < k → spec_Spread.l1 k fr tt dim ps ((List.range i).map (sprE fr tt dim ps sh)) sh (i : Int) m0 d c = some (sprF m0 d c fr tt dim ps sh i) := by
  intro n
  induction n with
  | zero =>
    intro k i hi hk
    obtain ⟨k, rfl⟩ : ∃ j, k = j + 1 := ⟨k - 1, by omega⟩
    rw [spec_Spread.l1, if_neg (by omega), sprF_end (by omega), show i = sh.length by omega]
  | succ n ih =>
    intro k i hi hk
    obtain ⟨k, rfl⟩ : ∃ j, k = j + 1 := ⟨k - 1, by omega⟩
    have hw : wrap64 ((i : Int) + 1) = ((i + 1 : Nat) : Int) := by unfold wrap64; omega
    have he := spec_EntryOk_is m0 d c (sprE fr tt dim ps sh i) hs sprT_small
    rw [spec_Spread.l1, if_pos (by omega), if_pos (by omega), if_pos (by omega)]
    simp only [Option.bind_some, List.length_nil, List.length_cons, List.nil_append]
    rw [if_pos (by omega)]
    rw [show spec_EntryOk.f m0 d c (rd_T133 ps (i : Int)).f1 0 (⟨#[115, 112, 114, 101, 97, 100]⟩ : ByteArray) [⟨tt, dim, 0, rd sh (i : Int), rd sh (i : Int)⟩, ⟨fr, dim, 0, wrap64 (-(rd sh (i : Int))), wrap64 (-(rd sh (i : Int)))⟩] = some (okE m0 d c (sprE fr tt dim ps sh i)) from he]
    simp only [Option.bind_some]
    cases hb : okE m0 d c (sprE fr tt dim ps sh i) with
    | false => rw [if_neg (by simp), sprF_no (by omega) hb]
    | true =>
      rw [if_pos rfl, if_pos (by rw [List.length_map, List.length_range]; omega), hw, sprF_go hb, ← ih k (i + 1) (by omega) (by omega), ← range_snoc]
      rfl
end
def spanR (p : Per) : Int := wrap64 (wrap64 (p.f1 - p.f0) + 1)
def finI (p : Per) : Prop := ¬ p.f1 < p.f0 ∧ ¬ wrap64 (p.f1 - p.f0) < 0 ∧ ¬ wrap64 (p.f1 - p.f0) ≥ 10000000
def finS (p : Per) : Prop := (0 ≤ p.f1 ∧ p.f1 ≤ 40000) ∧ (-10000000 ≤ p.f0 ∧ p.f0 ≤ 40000) ∧ ¬ p.f1 < p.f0
theorem sharesR_len (t : Int) (ws : List Int) : (sharesR t ws).length = 0 ∨ (sharesR t ws).length = ws.length := by
  unfold sharesR
  split
  · right; rw [giveC_len]; unfold quoS; rw [List.length_map]
  · left; rfl
theorem take_per {l : List Per} {i : Nat} (h : i < l.length) : l.take (i + 1) = l.take i ++ [rd_T133 l (i : Int)] := by
  rw [List.take_add_one, List.getElem?_eq_getElem h]
  unfold rd_T133
  rw [List.getD_eq_getElem?_getD, Int.toNat_natCast, List.getElem?_eq_getElem h]
  rfl
theorem mem_per {l : List Per} {i : Nat} (h : i < l.length) : rd_T133 l (i : Int) ∈ l := mem_at (l := l) (z := z133) (i := (i : Int)) (by omega) (by omega)
open Classical in
noncomputable def sprI (m0 : List Acc) (d c t fr tt dim : Int) (ps : List Per) : List Ent := if ps.length ≤ 200 ∧ (∀ p ∈ ps, finI p) then sprF m0 d c fr tt dim ps (sharesR t (ps.map spanR)) 0 else []
open Classical in
noncomputable def sprS (m0 : List Acc) (d c t fr tt dim : Int) (ps : List Per) : List Ent := if ps.length ≤ 200 ∧ (∀ p ∈ ps, finS p) then sprF m0 d c fr tt dim ps (sharesR t (ps.map spanR)) 0 else []
open Classical in
theorem Spread_l0I (m0 : List Acc) (d c t fr tt dim : Int) (ps : List Per) (hs : ∀ x ∈ m0, x.f0.size ≤ maxLen) (hl : ps.length ≤ 200) : ∀ n k i : Nat, i + n = ps.length → n + 300 < k →
    impl_Spread.l0 k t fr tt dim ps ((ps.take i).map spanR) ps (ps.length : Int) (i : Int) m0 d c = some (if ∀ j : Nat, i ≤ j → j < ps.length → finI (rd_T133 ps (j : Int)) then sprF m0 d c fr tt dim ps (sharesR t (ps.map spanR)) 0 else []) := by
  intro n
  induction n with
  | zero =>
    intro k i hi hk
    obtain ⟨k, rfl⟩ : ∃ j, k = j + 1 := ⟨k - 1, by omega⟩
    have hsl := sharesR_len t (ps.map spanR)
    rw [List.length_map] at hsl
    rw [impl_Spread.l0, if_neg (by omega), List.take_of_length_le (by omega), if_pos (fun j h1 h2 => by omega)]
    unfold impl_Shares.f
    simp only [Option.bind_some]
    exact Spread_l1I m0 d c fr tt dim ps _ hs (by omega) hsl (sharesR t (ps.map spanR)).length k 0 (by omega) (by omega)
  | succ n ih =>
    intro k i hi hk
    obtain ⟨k, rfl⟩ : ∃ j, k = j + 1 := ⟨k - 1, by omega⟩
    have hw : wrap64 ((i : Int) + 1) = ((i + 1 : Nat) : Int) := by unfold wrap64; omega
    rw [impl_Spread.l0, if_pos (by omega), if_pos (by omega), if_pos (by omega)]
    by_cases q : finI (rd_T133 ps (i : Int))
    · rw [if_neg q.1, if_neg q.2.1, if_neg q.2.2, if_pos (by rw [List.length_map, List.length_take]; omega), hw]
      rw [show (ps.take i).map spanR ++ [wrap64 (wrap64 ((rd_T133 ps (i : Int)).f1 - (rd_T133 ps (i : Int)).f0) + 1)] = (ps.take (i + 1)).map spanR by rw [take_per (by omega), List.map_append]; rfl]
      rw [ih k (i + 1) (by omega) (by omega)]
      by_cases r : ∀ j : Nat, i + 1 ≤ j → j < ps.length → finI (rd_T133 ps (j : Int))
      · rw [if_pos r, if_pos (fun j h1 h2 => by
          by_cases e : j = i
          · rw [e]; exact q
          · exact r j (by omega) h2)]
      · rw [if_neg r, if_neg (fun r' => r (fun j h1 h2 => r' j (by omega) h2))]
    · rw [if_neg (fun r : (∀ j : Nat, i ≤ j → j < ps.length → finI (rd_T133 ps (j : Int))) => q (r i (Nat.le_refl _) (by omega)))]
      unfold finI at q
      by_cases q1 : (rd_T133 ps (i : Int)).f1 < (rd_T133 ps (i : Int)).f0
      · rw [if_pos q1]
      rw [if_neg q1]
      by_cases q2 : wrap64 ((rd_T133 ps (i : Int)).f1 - (rd_T133 ps (i : Int)).f0) < 0
      · rw [if_pos q2]
      rw [if_neg q2, if_pos (Classical.byContradiction fun q3 => q ⟨q1, q2, q3⟩)]
open Classical in
theorem Spread_l0S (m0 : List Acc) (d c t fr tt dim : Int) (ps : List Per) (hs : ∀ x ∈ m0, x.f0.size ≤ maxLen) (hl : ps.length ≤ 200) : ∀ n k i : Nat, i + n = ps.length → n + 100300 < k →
    spec_Spread.l0 k t fr tt dim ps [] ((ps.take i).map spanR) (i : Int) m0 d c = some (if ∀ j : Nat, i ≤ j → j < ps.length → finS (rd_T133 ps (j : Int)) then sprF m0 d c fr tt dim ps (sharesR t (ps.map spanR)) 0 else []) := by
  intro n
  induction n with
  | zero =>
    intro k i hi hk
    obtain ⟨k, rfl⟩ : ∃ j, k = j + 1 := ⟨k - 1, by omega⟩
    have hsl := sharesR_len t (ps.map spanR)
    rw [List.length_map] at hsl
    rw [spec_Spread.l0, if_neg (by omega), List.take_of_length_le (by omega), if_pos (fun j h1 h2 => by omega), spec_Shares_is t _ k (by omega)]
    simp only [Option.bind_some]
    exact Spread_l1S m0 d c fr tt dim ps _ hs (by omega) hsl (sharesR t (ps.map spanR)).length k 0 (by omega) (by omega)
  | succ n ih =>
    intro k i hi hk
    obtain ⟨k, rfl⟩ : ∃ j, k = j + 1 := ⟨k - 1, by omega⟩
    have hw : wrap64 ((i : Int) + 1) = ((i + 1 : Nat) : Int) := by unfold wrap64; omega
    rw [spec_Spread.l0, if_pos (by omega), if_pos (by omega)]
    unfold spec_l2Day.f spec_l1In.f
    simp only [Option.bind_some]
    by_cases q : finS (rd_T133 ps (i : Int))
    · rw [inB_of q.1, inB_of q.2.1, if_pos rfl, if_pos rfl, if_neg q.2.2, if_pos (by rw [List.length_map, List.length_take]; omega), hw]
      rw [show (ps.take i).map spanR ++ [wrap64 (wrap64 ((rd_T133 ps (i : Int)).f1 - (rd_T133 ps (i : Int)).f0) + 1)] = (ps.take (i + 1)).map spanR by rw [take_per (by omega), List.map_append]; rfl]
      rw [ih k (i + 1) (by omega) (by omega)]
      by_cases r : ∀ j : Nat, i + 1 ≤ j → j < ps.length → finS (rd_T133 ps (j : Int))
      · rw [if_pos r, if_pos (fun j h1 h2 => by
          by_cases e : j = i
          · rw [e]; exact q
          · exact r j (by omega) h2)]
      · rw [if_neg r, if_neg (fun r' => r (fun j h1 h2 => r' j (by omega) h2))]
    · rw [if_neg (fun r : (∀ j : Nat, i ≤ j → j < ps.length → finS (rd_T133 ps (j : Int))) => q (r i (Nat.le_refl _) (by omega)))]
      unfold finS at q
      by_cases q1 : 0 ≤ (rd_T133 ps (i : Int)).f1 ∧ (rd_T133 ps (i : Int)).f1 ≤ 40000
      · rw [inB_of q1, if_pos rfl]
        by_cases q2 : -10000000 ≤ (rd_T133 ps (i : Int)).f0 ∧ (rd_T133 ps (i : Int)).f0 ≤ 40000
        · rw [inB_of q2, if_pos rfl, if_pos (Classical.byContradiction fun q3 => q ⟨q1, q2, q3⟩)]
        · rw [inB_not q2, if_neg (by simp)]
      · rw [inB_not q1, if_neg (by simp)]
theorem all_per {p : Per → Prop} {ps : List Per} : (∀ j : Nat, 0 ≤ j → j < ps.length → p (rd_T133 ps (j : Int))) ↔ ∀ x ∈ ps, p x := by
  constructor
  · intro h x hx
    obtain ⟨j, hj, rfl⟩ := List.mem_iff_getElem.1 hx
    have := h j (Nat.zero_le _) hj
    unfold rd_T133 at this
    rw [List.getD_eq_getElem?_getD, Int.toNat_natCast, List.getElem?_eq_getElem hj] at this
    exact this
  · intro h j _ hj
    exact h _ (mem_per hj)
theorem impl_Spread_isI (m0 : List Acc) (d c t fr tt dim : Int) (ps : List Per) (hs : ∀ x ∈ m0, x.f0.size ≤ maxLen) (k : Nat) (hk : 1000 ≤ k) : impl_Spread.f k m0 d c t fr tt dim ps = some (sprI m0 d c t fr tt dim ps) := by
  unfold impl_Spread.f sprI
  by_cases hl : ps.length ≤ 200
  · have := Spread_l0I m0 d c t fr tt dim ps hs hl ps.length k 0 (by omega) (by omega)
    simp only [List.take_zero, List.map_nil] at this
    rw [show ((0 : Nat) : Int) = 0 from rfl] at this
    rw [if_neg (by omega), this]
    congr 1
    by_cases q : ∀ p ∈ ps, finI p
    · rw [if_pos (all_per.2 q), if_pos ⟨hl, q⟩]
    · rw [if_neg (fun r => q (all_per.1 r)), if_neg (fun r => q r.2)]
  · rw [if_pos (by omega), if_neg (fun r => hl r.1)]
theorem spec_Spread_isS (m0 : List Acc) (d c t fr tt dim : Int) (ps : List Per) (hs : ∀ x ∈ m0, x.f0.size ≤ maxLen) (k : Nat) (hk : 200000 ≤ k) : spec_Spread.f k m0 d c t fr tt dim ps = some (sprS m0 d c t fr tt dim ps) := by
  unfold spec_Spread.f sprS
  simp only [Option.bind_some]
  by_cases hl : ps.length ≤ 200
  · have := Spread_l0S m0 d c t fr tt dim ps hs hl ps.length k 0 (by omega) (by omega)
    simp only [List.take_zero, List.map_nil] at this
    rw [show ((0 : Nat) : Int) = 0 from rfl] at this
    rw [if_neg (by omega), this]
    congr 1
    by_cases q : ∀ p ∈ ps, finS p
    · rw [if_pos (all_per.2 q), if_pos ⟨hl, q⟩]
    · rw [if_neg (fun r => q (all_per.1 r)), if_neg (fun r => q r.2)]
  · rw [if_pos (by omega), if_neg (fun r => hl r.1)]
theorem sprF_nil {m0 : List Acc} {d c fr tt dim : Int} {ps : List Per} : sprF m0 d c fr tt dim ps [] 0 = [] := by
  rw [sprF_end (by simp)]; rfl
theorem spr_same (m0 : List Acc) (d c t fr tt dim : Int) (ps : List Per) (hp : ∀ p ∈ ps, (-9223372036854775808 ≤ p.f0 ∧ p.f0 ≤ 9223372036854775807) ∧ (-9223372036854775808 ≤ p.f1 ∧ p.f1 ≤ 9223372036854775807)) : sprI m0 d c t fr tt dim ps = sprS m0 d c t fr tt dim ps := by
  unfold sprI sprS
  by_cases hl : ps.length ≤ 200
  case neg => rw [if_neg (fun r => hl r.1), if_neg (fun r => hl r.1)]
  by_cases qi : ∀ p ∈ ps, finI p
  · rw [if_pos ⟨hl, qi⟩]
    by_cases qs : ∀ p ∈ ps, finS p
    · rw [if_pos ⟨hl, qs⟩]
    · rw [if_neg (fun r => qs r.2)]
      obtain ⟨p, hpm, hnp⟩ : ∃ p, p ∈ ps ∧ ¬ finS p := Classical.byContradiction fun h => qs (fun p hm => Classical.byContradiction fun hn => h ⟨p, hm, hn⟩)
      have hbad : ¬ (0 ≤ p.f1 ∧ p.f1 ≤ 40000) := fun hd => hnp (by
        obtain ⟨i1, i2, i3⟩ := qi p hpm
        obtain ⟨⟨b0, b1⟩, b2, b3⟩ := hp p hpm
        refine ⟨hd, ?_, i1⟩
        unfold wrap64 at i2 i3
        omega)
      rcases sharesR_len t (ps.map spanR) with h0 | h1
      · rw [List.length_eq_zero_iff.1 h0, sprF_nil]
      · rw [List.length_map] at h1
        obtain ⟨j, hj, rfl⟩ := List.mem_iff_getElem.1 hpm
        unfold sprF
        rw [if_neg (fun r => ?_)]
        have := r j (Nat.zero_le _) (by omega)
        unfold okE at this
        rw [Bool.and_eq_true, entryB_true] at this
        have h2 : 0 ≤ (rd_T133 ps (j : Int)).f1 ∧ (rd_T133 ps (j : Int)).f1 ≤ 40000 := this.2.1
        unfold rd_T133 at h2
        rw [List.getD_eq_getElem?_getD, Int.toNat_natCast, List.getElem?_eq_getElem hj] at h2
        exact hbad h2
  · rw [if_neg (fun r => qi r.2)]
    by_cases qs : ∀ p ∈ ps, finS p
    · rw [if_pos ⟨hl, qs⟩]
      obtain ⟨p, hpm, hnp⟩ : ∃ p, p ∈ ps ∧ ¬ finI p := Classical.byContradiction fun h => qi (fun p hm => Classical.byContradiction fun hn => h ⟨p, hm, hn⟩)
      have : sharesR t (ps.map spanR) = [] := by
        unfold sharesR
        rw [if_neg (fun r => ?_)]
        have h3 := r.2.2.1 (spanR p) (List.mem_map.2 ⟨p, hpm, rfl⟩)
        apply hnp
        obtain ⟨⟨s0, s1⟩, ⟨s2, s3⟩, s4⟩ := qs p hpm
        unfold spanR wrap64 at h3
        unfold finI wrap64
        omega
      rw [this, sprF_nil]
    · rw [if_neg (fun r => qs r.2)]
end Go.Proofs.Ytphmnkcfjgallaa.Q
