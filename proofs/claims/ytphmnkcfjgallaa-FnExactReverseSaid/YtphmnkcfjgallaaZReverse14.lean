/- Parts of the proof: what functions of the program and of the reference answer.
   No condition. -/
import Derived.Test.YtphmnkcfjgallaaZReverse1
import Derived.Test.YtphmnkcfjgallaaZReverse12
import Derived.Test.YtphmnkcfjgallaaZReverse6
import Derived.Test.YtphmnkcfjgallaaZReverse8
import Derived.Test.YtphmnkcfjgallaaZReverse3
import Derived.Laws.CopyRow
import Derived.Lib.SlBuf
import Derived.Deep.DeepCutAuto
import Derived.Test.YtphmnkcfjgallaaZReverse13
import Derived.Test.YtphmnkcfjgallaaZReverse7
import Derived.Test.YtphmnkcfjgallaaZReverse2
namespace Go.Proofs.Ytphmnkcfjgallaa.Q
open Go.RowKit Go.Proofs.YtphmnkcfjgallaaW.PrintWords Go.Proofs.YtphmnkcfjgallaaW.PrintLast Go.Proofs.YtphmnkcfjgallaaW.PrintMore
set_option linter.unusedVariables false
set_option linter.unusedSimpArgs false
def mAll {α : Type} (m : Int → α → α) (nx : Int → α → Int) : Int → List α → List α
  | _, [] => []
  | a, x :: l => m a x :: mAll m nx (nx a x) l
def nAll {α : Type} (nx : Int → α → Int) : Int → List α → Int
  | a, [] => a
  | a, x :: l => nAll nx (nx a x) l
theorem mAll_length {α : Type} (m : Int → α → α) (nx : Int → α → Int) : ∀ (l : List α) (a : Int), (mAll m nx a l).length = l.length
  | [], _ => rfl
  | x :: l, a => by simp only [mAll, List.length_cons, mAll_length m nx l]
theorem nAll_snoc {α : Type} (nx : Int → α → Int) (x : α) : ∀ (l : List α) (a : Int), nAll nx a (l ++ [x]) = nx (nAll nx a l) x
  | [], _ => rfl
  | y :: l, a => nAll_snoc nx x l (nx a y)
theorem mAll_snoc {α : Type} (m : Int → α → α) (nx : Int → α → Int) (x : α) : ∀ (l : List α) (a : Int), mAll m nx a (l ++ [x]) = mAll m nx a l ++ [m (nAll nx a l) x]
  | [], _ => rfl
  | y :: l, a => by simp only [List.cons_append, mAll, nAll, mAll_snoc m nx x l]
theorem nAll_bound {α : Type} {nx : Int → α → Int} {C : Int} : ∀ (l : List α) (a : Int), (∀ x ∈ l, ∀ b, b ≤ nx b x ∧ nx b x ≤ b + C) → a ≤ nAll nx a l ∧ nAll nx a l ≤ a + C * (l.length : Int)
  | [], a, _ => by simp [nAll]
  | x :: l, a, h => by
    have h1 := h x List.mem_cons_self a
    have h2 := nAll_bound l (nx a x) (fun y hy => h y (List.mem_cons_of_mem _ hy))
    have : C * ((x :: l).length : Int) = C + C * (l.length : Int) := by rw [List.length_cons]; push_cast; rw [Int.mul_add]; omega
    simp only [nAll]
    omega
theorem mark_loop {α : Type} (F : Nat → List α → Int → Int → Option (Int × List α)) (m : Int → α → α) (nx : Int → α → Int) (z : α) (D : Nat) (C B : Int) (hC : 0 ≤ C) (ok : α → Prop)
    (hnx : ∀ x, ok x → ∀ b, b ≤ nx b x ∧ nx b x ≤ b + C)
    (hstep : ∀ (k : Nat) (x : List α) (a i : Int), D ≤ k → 0 ≤ i → i < (x.length : Int) → (x.length : Int) ≤ 1048576 → 0 ≤ a → a + C ≤ B → ok (x.getD i.toNat z) → F (k + 1) x a i = F k (x.set i.toNat (m a (x.getD i.toNat z))) (nx a (x.getD i.toNat z)) (i + 1))
    (hend : ∀ (k : Nat) (x : List α) (a i : Int), (x.length : Int) ≤ i → F (k + 1) x a i = some (a, x)) :
    ∀ (rest pre : List α) (k : Nat) (a : Int), rest.length + D < k → (pre ++ rest).length ≤ 1048576 → 0 ≤ a → a + C * (rest.length : Int) ≤ B → (∀ x ∈ rest, ok x) → F k (pre ++ rest) a (pre.length : Int) = some (nAll nx a rest, pre ++ mAll m nx a rest)
  | [], pre, k, a, hk, hl, h0, hB, ho => by
    obtain ⟨k, rfl⟩ : ∃ j, k = j + 1 := ⟨k - 1, by omega⟩
    rw [hend k _ a _ (by simp)]
    rfl
  | x :: rest, pre, k, a, hk, hl, h0, hB, ho => by
    obtain ⟨k, rfl⟩ : ∃ j, k = j + 1 := ⟨k - 1, by omega⟩
    have hx : (pre ++ x :: rest).getD (pre.length : Int).toNat z = x := by simp
    have hox := ho x List.mem_cons_self
    have h1 := hnx x hox a
    have hmul : C * ((x :: rest).length : Int) = C + C * (rest.length : Int) := by rw [List.length_cons]; push_cast; rw [Int.mul_add]; omega
    have hpos : 0 ≤ C * (rest.length : Int) := Int.mul_nonneg hC (by omega)
    simp only [List.length_cons] at hk
    rw [hstep k _ a _ (by omega) (by omega) (by simp; omega) (by omega) h0 (by omega) (by rw [hx]; exact hox), hx]
    have hs : (pre ++ x :: rest).set (pre.length : Int).toNat (m a x) = (pre ++ [m a x]) ++ rest := by simp
    have hp : ((pre.length : Int) + 1) = ((pre ++ [m a x]).length : Int) := by simp
    rw [hs, hp, mark_loop F m nx z D C B hC ok hnx hstep hend rest (pre ++ [m a x]) k (nx a x) (by omega) (by simp at hl ⊢; omega) (by omega) (by omega) (fun y hy => ho y (List.mem_cons_of_mem _ hy))]
    simp [nAll, mAll]
theorem held_loop {α : Type} (F : Nat → List α → Int → Int → Option Int) (m : Int → α → α) (nx : Int → α → Int) (z : α) (D : Nat) (C B : Int) (hC : 0 ≤ C) (ok : α → Prop)
    (hnx : ∀ x, ok x → ∀ b, b ≤ nx b x ∧ nx b x ≤ b + C)
    (hstep : ∀ (k : Nat) (y : List α) (x : α) (a i : Int), D ≤ k → 0 ≤ i → i < (y.length : Int) → (y.length : Int) ≤ 1048576 → 0 ≤ a → a + C ≤ B → ok x → y.getD i.toNat z = m a x → F (k + 1) y a i = F k y (nx a x) (i + 1))
    (hend : ∀ (k : Nat) (x : List α) (a i : Int), (x.length : Int) ≤ i → F (k + 1) x a i = some a) :
    ∀ (rest pre : List α) (k : Nat) (a : Int), rest.length + D < k → (pre ++ rest).length ≤ 1048576 → 0 ≤ a → a + C * (rest.length : Int) ≤ B → (∀ x ∈ rest, ok x) → F k (pre ++ mAll m nx a rest) a (pre.length : Int) = some (nAll nx a rest)
  | [], pre, k, a, hk, hl, h0, hB, ho => by
    obtain ⟨k, rfl⟩ : ∃ j, k = j + 1 := ⟨k - 1, by omega⟩
    rw [hend k _ a _ (by simp [mAll])]
    rfl
  | x :: rest, pre, k, a, hk, hl, h0, hB, ho => by
    obtain ⟨k, rfl⟩ : ∃ j, k = j + 1 := ⟨k - 1, by omega⟩
    have hx : (pre ++ mAll m nx a (x :: rest)).getD (pre.length : Int).toNat z = m a x := by simp [mAll]
    have hox := ho x List.mem_cons_self
    have h1 := hnx x hox a
    have hmul : C * ((x :: rest).length : Int) = C + C * (rest.length : Int) := by rw [List.length_cons]; push_cast; rw [Int.mul_add]; omega
    have hpos : 0 ≤ C * (rest.length : Int) := Int.mul_nonneg hC (by omega)
    simp only [List.length_cons] at hk
    have hlen : (pre ++ mAll m nx a (x :: rest)).length = (pre ++ x :: rest).length := by simp [mAll_length]
    rw [hstep k _ x a _ (by omega) (by omega) (by rw [hlen]; simp; omega) (by rw [hlen]; omega) h0 (by omega) hox hx]
    have hs : pre ++ mAll m nx a (x :: rest) = (pre ++ [m a x]) ++ mAll m nx (nx a x) rest := by simp [mAll]
    have hp : ((pre.length : Int) + 1) = ((pre ++ [m a x]).length : Int) := by simp
    rw [hs, hp, held_loop F m nx z D C B hC ok hnx hstep hend rest (pre ++ [m a x]) k (nx a x) (by omega) (by simp at hl ⊢; omega) (by omega) (by omega) (fun y hy => ho y (List.mem_cons_of_mem _ hy))]
    rfl
theorem tdiv10 {a : Int} (h0 : 0 ≤ a) (h1 : a ≤ 4611686018427387904) : wrap64 (Int.tdiv a 10) = a / 10 := by
  rw [Int.tdiv_eq_ediv_of_nonneg h0]
  unfold wrap64
  omega
theorem markText_l0 : ∀ (n k : Nat) (a : Int) (s : ByteArray), 0 ≤ a → a ≤ 4611686018427387904 → a < 10 ^ n → s.size + n ≤ 1000 → n < k → ∃ t, laws_markText.l0 k a s = some t ∧ t.size ≤ 1001
  | 0, k, a, s, h0, h1, h2, hs, hk => by
    obtain ⟨k, rfl⟩ : ∃ j, k = j + 1 := ⟨k - 1, by omega⟩
    have : a = 0 := by simp at h2; omega
    subst this
    refine ⟨_, by simp only [laws_markText.l0]; rw [if_neg (by omega), if_pos (by omega)], ?_⟩
    rw [ByteArray.size_append]
    show 1 + s.size ≤ _
    omega
  | n + 1, k, a, s, h0, h1, h2, hs, hk => by
    obtain ⟨k, rfl⟩ : ∃ j, k = j + 1 := ⟨k - 1, by omega⟩
    by_cases hp : a > 0
    · simp only [laws_markText.l0]
      rw [if_pos hp]
      simp only [Option.bind_some]
      have h3 : a / 10 < 10 ^ n := Int.ediv_lt_of_lt_mul (by decide) (by rw [← Int.pow_succ]; exact h2)
      have hsz : ∀ x : Int, (strOfNums [x]).size = 1 := fun x => rfl
      rw [if_pos (by rw [hsz]; omega), tdiv10 h0 h1]
      exact markText_l0 n k (a / 10) _ (by omega) (by omega) h3 (by rw [ByteArray.size_append, hsz]; omega) (by omega)
    · have : a = 0 := by omega
      subst this
      refine ⟨_, by simp only [laws_markText.l0]; rw [if_neg (by omega), if_pos (by omega)], ?_⟩
      rw [ByteArray.size_append]
      show 1 + s.size ≤ _
      omega
noncomputable def mText (a : Int) : ByteArray := (laws_markText.f 100 a).getD ⟨#[]⟩
theorem laws_markText_is {a : Int} (h0 : 0 ≤ a) (h1 : a ≤ 4611686018427387904) {k : Nat} (hk : 100 ≤ k) : laws_markText.f k a = some (mText a) := by
  have h : ∃ t, laws_markText.f 100 a = some t := by
    unfold laws_markText.f
    split
    · exact ⟨_, rfl⟩
    · obtain ⟨t, ht, _⟩ := markText_l0 19 100 a ⟨#[]⟩ h0 h1 (by omega) (by decide) (by omega)
      exact ⟨t, ht⟩
  obtain ⟨t, ht⟩ := h
  have hm : mText a = t := by unfold mText; rw [ht]; rfl
  rw [hm]
  exact at_rounds (g := fun k => laws_markText.f k a) (fun k => laws_markText.mono a k) hk ht
theorem wr1 {a : Int} (h0 : 0 ≤ a) (h1 : a ≤ 4611686018427387904) : wrap64 (a + 1) = a + 1 := by unfold wrap64; omega
def mLine (a : Int) (_ : Lin) : Lin := ⟨a, a + 1, a + 1 + 1, a + 1 + 1 + 1, a + 1 + 1 + 1 + 1⟩
def nLine (a : Int) (_ : Lin) : Int := a + 1 + 1 + 1 + 1 + 1
noncomputable def mAcc (a : Int) (_ : Acc) : Acc := ⟨mText a, a + 1, a + 1 + 1⟩
def nAcc (a : Int) (_ : Acc) : Int := a + 1 + 1 + 1
noncomputable def mEnt (a : Int) (x : Ent) : Ent := ⟨a, a + 1, mText (a + 1 + 1), mAll mLine nLine (a + 1 + 1 + 1) x.f3⟩
def nEnt (a : Int) (x : Ent) : Int := nAll nLine (a + 1 + 1 + 1) x.f3
theorem rdset112 {x : List S112} {i : Int} (h : i < (x.length : Int)) (h0 : 0 ≤ i) (v : S112) : rd_T112 (x.set i.toNat v) i = v := by
  unfold rd_T112; rw [List.getD_eq_getElem?_getD, List.getElem?_set_self (by omega)]; rfl
theorem rdset131 {x : List S131} {i : Int} (h : i < (x.length : Int)) (h0 : 0 ≤ i) (v : S131) : rd_T131 (x.set i.toNat v) i = v := by
  unfold rd_T131; rw [List.getD_eq_getElem?_getD, List.getElem?_set_self (by omega)]; rfl
theorem nLine_b (l : List Lin) (a : Int) : a ≤ nAll nLine a l ∧ nAll nLine a l ≤ a + 5 * (l.length : Int) := nAll_bound l a (fun x _ b => by unfold nLine; omega)
theorem laws_markLineS_is (l : List Lin) (k : Nat) (a : Int) (hk : l.length < k) (hl : l.length ≤ 1048576) (h0 : 0 ≤ a) (h1 : a ≤ 1000000000000000) : laws_markLineS.f k l a = some (nAll nLine a l, mAll mLine nLine a l) := by
  have := mark_loop laws_markLineS.l0 mLine nLine z112 0 5 4611686018427387000 (by omega) (fun _ => True) (fun x _ b => by unfold nLine; omega) (fun k x a i _ hi hi2 hl h0 hB _ => by
    simp only [laws_markLineS.l0, Option.bind_some]
    rw [if_pos hi2, if_pos hi, wr1 h0 (by omega), wr1 (a := a + 1) (by omega) (by omega), wr1 (a := a + 1 + 1) (by omega) (by omega), wr1 (a := a + 1 + 1 + 1) (by omega) (by omega), wr1 (a := a + 1 + 1 + 1 + 1) (by omega) (by omega), wr1 hi (by omega)]
    simp only [List.set_set, rdset112 hi2 hi]
    rfl) (fun k x a i h => by simp only [laws_markLineS.l0]; rw [if_neg (by omega)]) l [] k a (by omega) (by simpa using hl) h0 (by omega) (fun _ _ => trivial)
  exact this
theorem laws_markAccountS_is (l : List Acc) (k : Nat) (a : Int) (hk : l.length + 100 < k) (hl : l.length ≤ 1048576) (h0 : 0 ≤ a) (h1 : a ≤ 1000000000000000) : laws_markAccountS.f k l a = some (nAll nAcc a l, mAll mAcc nAcc a l) := by
  have := mark_loop laws_markAccountS.l0 mAcc nAcc z131 100 3 4611686018427387000 (by omega) (fun _ => True) (fun x _ b => by unfold nAcc; omega) (fun k x a i hD hi hi2 hl h0 hB _ => by
    simp only [laws_markAccountS.l0]
    rw [if_pos hi2, laws_markText_is h0 (by omega) hD]
    simp only [Option.bind_some]
    rw [if_pos hi, wr1 h0 (by omega), wr1 (a := a + 1) (by omega) (by omega), wr1 (a := a + 1 + 1) (by omega) (by omega), wr1 hi (by omega)]
    simp only [List.set_set, rdset131 hi2 hi]
    rfl) (fun k x a i h => by simp only [laws_markAccountS.l0]; rw [if_neg (by omega)]) l [] k a (by omega) (by simpa using hl) h0 (by omega) (fun _ _ => trivial)
  exact this
theorem nAcc_b (l : List Acc) (a : Int) : a ≤ nAll nAcc a l ∧ nAll nAcc a l ≤ a + 3 * (l.length : Int) := nAll_bound l a (fun x _ b => by unfold nAcc; omega)
theorem nEnt_b (l : List Ent) (h : ∀ x ∈ l, x.f3.length ≤ 1048576) (a : Int) : a ≤ nAll nEnt a l ∧ nAll nEnt a l ≤ a + 5242883 * (l.length : Int) := nAll_bound l a (fun x hx b => by have h1 := h x hx; have h2 := nLine_b x.f3 (b + 1 + 1 + 1); unfold nEnt; omega)
end Go.Proofs.Ytphmnkcfjgallaa.Q
namespace Go.Proofs.Ytphmnkcfjgallaa.Q
open Go.RowKit Go.Proofs.YtphmnkcfjgallaaW.PrintWords Go.Proofs.YtphmnkcfjgallaaW.PrintLast Go.Proofs.YtphmnkcfjgallaaW.PrintMore
attribute [local go_sem] max2_int min2_int max_two min_two max_three min_three max_four min_four   -- for this text's walks alone
set_option linter.unusedVariables false
set_option linter.unusedSimpArgs false
theorem R_copy {α : Type} (P : Program) (d : Kd α) {Rr : α → List Value → Prop} {W : World} {base e g n cap sCap : Nat} {ad : Addr} {xs ys : List α} {ok : Nat → Prop} (HO : d.R e W base ok (.slice (some ⟨g, 0, none⟩) n cap) xs) (HR : ReadsRow Rr d.sz W (some ad) n ys)
    (hKM : ∀ (w : World) x cs, Rr x cs → d.M w base (fun _ => False) x cs) (hs0 : 0 < d.sz) (dT sT ty : TypeId) (hu : P.underlying dT = some (.slice e)) (hs : (P.info? e).map (·.size) = some d.sz) :
    ∃ w1, (Builtin.copy_ #[dT, sT] ty #[.slice (some ⟨g, 0, none⟩) n cap, .slice (some ad) n sCap]).run P W = .ok (goInt n) w1 ∧ d.R e w1 base ok (.slice (some ⟨g, 0, none⟩) n cap) ys ∧ W.grownBy w1 (some g) := by
  obtain ⟨news, hnr, hnc⟩ := ReadsRow.inner_ HR
  have hyl : ys.length = n := HR.1
  subst hyl
  have hnl : news.length = ys.length * d.sz := hnr.1
  have hxl := (Kd.R_reads' HO).1
  obtain ⟨hok, inner, ⟨hil, hown⟩, hr⟩ := HO
  rcases hown with ⟨h, _⟩ | ⟨g', cap', cur, hv, hbase, hheap, hnc', hcm, hcs, htk⟩
  · cases h
  · injection hv with ha hn hc
    injection ha with ha
    injection ha with ha
    subst ha hc
    have hone : ∀ u ∈ news, u.oneCell' = true := by
      intro u hu
      obtain ⟨q, hq, rfl⟩ := List.mem_iff_getElem.1 hu
      have hql : q / d.sz < ys.length := by
        rw [Nat.div_lt_iff_lt_mul hs0, ← hnr.1]
        exact hq
      have hc := hnr.2 (q / d.sz) _ (List.getElem?_eq_getElem hql)
      refine d.K_one (d.K_of_M (hKM W _ _ hc)) _ ?_
      rw [List.mem_iff_getElem?]
      refine ⟨q % d.sz, ?_⟩
      rw [List.getElem?_take, if_pos (Nat.mod_lt _ hs0), List.getElem?_drop, Nat.mul_comm, Nat.div_add_mod, List.getElem?_eq_getElem hq]
    have hnc2 : ys.length ≤ cap := by omega
    have hle : ys.length * d.sz ≤ cur.size := by rw [hcs]; exact Nat.mul_le_mul_right _ hnc2
    have hl := run_loadCells_list (P := P) W ad news hnc
    have hst := run_storeCells_at P g 0 e news 0 cur W hheap (by rw [hnl]; omega) hone
    have hcells : (cur.toList.take (0 + 0) ++ news ++ cur.toList.drop (0 + 0 + news.length)) = news ++ cur.toList.drop news.length := by simp
    rw [hcells] at hst
    have hq : ∃ i0, P.info? e = some i0 ∧ i0.size = d.sz := by
      cases hq : P.info? e with
      | none => simp [hq] at hs
      | some i => exact ⟨i, rfl, by simpa [hq] using hs⟩
    obtain ⟨i0, hi0, hi1⟩ := hq
    refine ⟨W.setRow g (news ++ cur.toList.drop news.length).toArray, ?_, ⟨hok, news, ⟨hnl, .inr ⟨g, cap, _, rfl, hbase, setRow_heap W g cur _ e (0, 0) hheap, hnc2, hcm, ?_, ?_⟩⟩, ?_⟩, ?_⟩
    · simp [Builtin.copy_, run_underlying hu, Builtin.lenOf, Builtin.firstCells, sizeOf, typeInfo, hi0, hi1, ← hnl, hl, hst]
    · simp [← hcs]
      omega
    · simp [← hnl]
    · exact hnr.imp_ (fun p c hp => d.M_mono (fun _ hk => hk.elim) (hKM _ p c hp))
    · exact ⟨rfl, rfl, rfl, by simp, fun k hk hne => setRow_other W g k _ (fun e => hne (by rw [e]))⟩
theorem run_copy_zero (P : Program) (W : World) (dT sT ty e : TypeId) (D A : Option Addr) (cD cA : Nat) (hu : P.underlying dT = some (.slice e)) (hs : ((P.info? e).map (·.size)).isSome = true) :
    (Builtin.copy_ #[dT, sT] ty #[.slice D 0 cD, .slice A 0 cA]).run P W = .ok (goInt 0) W := by
  cases hq : P.info? e with
  | none => simp [hq] at hs
  | some i => cases D <;> cases A <;> simp [Builtin.copy_, run_underlying hu, Builtin.lenOf, Builtin.firstCells, sizeOf, typeInfo, hq, loadCells, loadCellsFrom, storeCells]
set_option maxHeartbeats 8000000 in
set_option maxRecDepth 100000 in
theorem impl_copyEntry.to (a0 a1 : Int) (a2 : ByteArray) (A : Option Addr) (c : Nat) (l : List Lin) (w : World) (hr : Kd.C k112 w A l.length l) (hl : l.length ≤ 1048576) :
    Calls Try.prog 76 #[.agg #[.int .i64 a0, .int .i64 a1, .string a2, .slice A l.length c]] w fun e w' => ∃ v : Value, e = .returned (.agg #[.int .i64 a0, .int .i64 a1, .string a2, v]) ∧ Kd.R k112 112 w' w.heap.size (fun _ => True) v l ∧ Below w.heap.size w w' := by
  have HR := Aside0.mk hr
  have HB0 := Aside0.mk (below_two w (.cells #[.int .i64 a0, .int .i64 a1, .string a2, .slice A l.length c] 34) (.cells #[.int .i64 0, .int .i64 0, .string ⟨#[]⟩, .slice none 0 0] 34))
  clear hr
  go_enter Try.func76, Try.ntmps76
  go_wp2_with ((with_reducible refine gate_dst (N := 7) rfl ?_); refine Kd.R_make k112 _ 112 rfl (N := 7) rfl 32 _ _ rfl (l.length : Int) rfl rfl Try.underlying32 (.agg #[(.int .i64 0), (.int .i64 0), (.int .i64 0), (.int .i64 0), (.int .i64 0)]) 40 info112 rfl (by decide) (by omega) z112 (ok := fun _ => True) (okp := fun _ => True) (k112_mkM _ _ _ z112) (fun _ hk => hk) trivial (by omega) (by simp; omega) (Below.refl _ _) (Nat.le_refl _) ?_; intro v1 w1 ho hb hg hnew; have f3 : w1.cell? ⟨w.heap.size, 3, none⟩ = some (.slice A l.length c) := pw_cell_below hb (by go_simp))
  have RR := Aside0.mk (Kd.R_lower (Kd.R_mono (ok' := fun k => w.heap.size + 2 ≤ k) (Kd.R_bound ho) (fun k hk => by have := hk.2.1; simpa using this)) (base' := w.heap.size) (by simp; omega))
  obtain ⟨A1, c1, hv⟩ := Kd.R_slice RR.out
  rw [List.length_replicate, Int.toNat_natCast] at hv
  subst hv
  have HB := Aside0.mk (below_into (w := w) hb HB0.out)
  have f0 : w1.cell? ⟨w.heap.size, 0, none⟩ = some (.int .i64 a0) := pw_cell_below hb (by go_simp)
  have f1 : w1.cell? ⟨w.heap.size, 1, none⟩ = some (.int .i64 a1) := pw_cell_below hb (by go_simp)
  have f2 : w1.cell? ⟨w.heap.size, 2, none⟩ = some (.string a2) := pw_cell_below hb (by go_simp)
  have g0 : w1.cell? ⟨w.heap.size + 1, 0, none⟩ = some (.int .i64 0) := pw_cell_below hb (by go_simp)
  have g1 : w1.cell? ⟨w.heap.size + 1, 1, none⟩ = some (.int .i64 0) := pw_cell_below hb (by go_simp)
  have g2 : w1.cell? ⟨w.heap.size + 1, 2, none⟩ = some (.string ⟨#[]⟩) := pw_cell_below hb (by go_simp)
  have g3 : w1.cell? ⟨w.heap.size + 1, 3, none⟩ = some (.slice none 0 0) := pw_cell_below hb (by go_simp)
  have z0 : w1.frozen? ⟨w.heap.size, 3, none⟩ = false := (hb.frozen (p := ⟨w.heap.size, 3, none⟩) (by simp; omega)).trans (by go_simp)
  have k0 : w1.frozen? ⟨w.heap.size + 1, 0, none⟩ = false := (hb.frozen (p := ⟨w.heap.size + 1, 0, none⟩) (by simp)).trans (by go_simp)
  have k1 : w1.frozen? ⟨w.heap.size + 1, 1, none⟩ = false := (hb.frozen (p := ⟨w.heap.size + 1, 1, none⟩) (by simp)).trans (by go_simp)
  have k2 : w1.frozen? ⟨w.heap.size + 1, 2, none⟩ = false := (hb.frozen (p := ⟨w.heap.size + 1, 2, none⟩) (by simp)).trans (by go_simp)
  have k3 : w1.frozen? ⟨w.heap.size + 1, 3, none⟩ = false := (hb.frozen (p := ⟨w.heap.size + 1, 3, none⟩) (by simp)).trans (by go_simp)
  have hz1 : w.heap.size + 1 < w1.heap.size := World.block_lt_of_cell? _ _ g0
  have hz0 : w.heap.size < w1.heap.size := by omega
  obtain ⟨w2, hrun, R2, hg2⟩ : ∃ w2, (Builtin.copy_ #[32, 32] 3 #[.slice A1 l.length c1, .slice A l.length c]).run Try.prog w1 = .ok (goInt l.length) w2 ∧ Kd.R k112 112 w2 w.heap.size (fun k => w.heap.size + 2 ≤ k) (.slice A1 l.length c1) l ∧ Below (w.heap.size + 2) w1 w2 := by
    by_cases h0 : l.length = 0
    · have hl0 : l = [] := List.eq_nil_of_length_eq_zero h0
      refine ⟨w1, ?_, ?_, Below.refl _ _⟩
      · rw [h0]; exact run_copy_zero Try.prog w1 32 32 3 112 A1 A c1 c Try.underlying32 (by kernel_rfl)
      · have := RR.out; rw [Int.toNat_natCast, h0] at this; rw [h0, hl0]; exact this
    · obtain ⟨g, cap, e1, hgb, _⟩ := Kd.R_form RR.out (by simp; omega)
      rw [List.length_replicate, Int.toNat_natCast] at e1
      injection e1 with ea _ ec
      subst ea ec
      have hgk := RR.out.1 g rfl
      obtain ⟨ad, hA, _⟩ := (Kd.C_below HR.out HB.out).2.2 (by omega)
      subst hA
      obtain ⟨w2, h1, h2, h3⟩ := R_copy Try.prog k112 (sCap := c) RR.out (Kd.C_below HR.out HB.out) (fun W x cs hk => by rw [k112_open hk]; exact k112_mkM _ _ _ _) (by decide) 32 32 3 Try.underlying32 (by kernel_rfl)
      exact ⟨w2, h1, h2, (Below.refl _ w1).grown h3 (by omega) (fun k hk => by injection hk with hk; omega)⟩
  have R2' := Aside0.mk R2
  have HB2 := Aside0.mk (HB.out.trans (hg2.mono (by omega)))
  replace f0 := (hg2.cell (p := ⟨w.heap.size, 0, none⟩) (by simp)).trans f0
  replace f1 := (hg2.cell (p := ⟨w.heap.size, 1, none⟩) (by simp)).trans f1
  replace f2 := (hg2.cell (p := ⟨w.heap.size, 2, none⟩) (by simp)).trans f2
  replace f3 := (hg2.cell (p := ⟨w.heap.size, 3, none⟩) (by simp)).trans f3
  replace g0 := (hg2.cell (p := ⟨w.heap.size + 1, 0, none⟩) (by simp)).trans g0
  replace g1 := (hg2.cell (p := ⟨w.heap.size + 1, 1, none⟩) (by simp)).trans g1
  replace g2 := (hg2.cell (p := ⟨w.heap.size + 1, 2, none⟩) (by simp)).trans g2
  replace g3 := (hg2.cell (p := ⟨w.heap.size + 1, 3, none⟩) (by simp)).trans g3
  replace k0 := (hg2.frozen (p := ⟨w.heap.size + 1, 0, none⟩) (by simp)).trans k0
  replace k1 := (hg2.frozen (p := ⟨w.heap.size + 1, 1, none⟩) (by simp)).trans k1
  replace k2 := (hg2.frozen (p := ⟨w.heap.size + 1, 2, none⟩) (by simp)).trans k2
  replace k3 := (hg2.frozen (p := ⟨w.heap.size + 1, 3, none⟩) (by simp)).trans k3
  have z0' := (hg2.frozen (p := ⟨w.heap.size, 3, none⟩) (by simp)).trans z0
  have hw2 : w.heap.size + 1 < w2.heap.size := World.block_lt_of_cell? _ _ g0
  have hw0 : w.heap.size < w2.heap.size := by omega
  clear R2 hg2 RR HB hb ho hg hnew HB0 HR z0
  rw [hrun]
  clear hrun
  go_wp2_with fail
  have hR := R2'.out
  refine bodyPost_ret (v := .agg #[.int .i64 a0, .int .i64 a1, .string a2, .slice A1 l.length c1]) (by simp [results, Try.results76, go_sem]; go_simp) rfl ⟨_, rfl, ?_, ?_⟩
  · refine Kd.R_mono (ok := fun k => w.heap.size + 2 ≤ k) ?_ (fun _ _ => trivial)
    (repeat (refine Kd.R_far ?_ (fun k hk => by simp; omega) _))
    exact hR
  · (repeat (refine below_set ?_ (by simp <;> omega)))
    exact HB2.out
theorem cell_off {W : World} {p q : Addr} {r : Option Value} (h : q.block ≠ p.block) (u : Value) (hc : W.cell? q = r) : (W.setCell p u).cell? q = r := (World.cell?_of_block (Below.heap_setCell W p u q.block h)).trans hc
open Classical in
noncomputable def impl_copyEntry.f (a0 a1 : Int) (a2 : ByteArray) (l : List S112) : Option (Int × Int × ByteArray × List S112) := if l.length ≤ 1048576 then some (a0, a1, a2, l) else none
theorem impl_copyEntry.calls (a0_0 : Int) (a0_1 : Int) (a0_2 : ByteArray) (A0_3 : Option Addr) (c0_3 : Nat) (l0_3 : List S112) (r1 : Int) (r2 : Int) (r3 : ByteArray) (r4 : List S112) (w : World) (hr0_3 : Kd.C k112 w A0_3 l0_3.length l0_3) (hc0_3 : l0_3.length ≤ c0_3) (h : impl_copyEntry.f a0_0 a0_1 a0_2 l0_3 = some (r1, r2, r3, r4)) :
    Calls Try.prog 76 #[.agg #[.int .i64 a0_0, .int .i64 a0_1, .string a0_2, .slice A0_3 l0_3.length c0_3]] w fun e w' => ∃ v3_ : Value, e = .returned (.agg #[.int .i64 r1, .int .i64 r2, .string r3, v3_]) ∧ Kd.R k112 112 w' w.heap.size (fun _ => True) v3_ r4 ∧ Below w.heap.size w w' := by
  unfold impl_copyEntry.f at h
  split at h
  · rename_i hl
    simp only [Option.some.injEq, Prod.mk.injEq] at h
    obtain ⟨rfl, rfl, rfl, rfl⟩ := h
    exact impl_copyEntry.to a0_0 a0_1 a0_2 A0_3 c0_3 l0_3 w hr0_3 hl
  · cases h
end Go.Proofs.Ytphmnkcfjgallaa.Q
namespace Go.Proofs.Ytphmnkcfjgallaa.Q
open Go.RowKit Go.Proofs.YtphmnkcfjgallaaW.PrintWords Go.Proofs.YtphmnkcfjgallaaW.PrintLast Go.Proofs.YtphmnkcfjgallaaW.PrintMore
attribute [local go_sem] max2_int min2_int max_two min_two max_three min_three max_four min_four   -- for this text's walks alone
set_option linter.unusedVariables false
set_option linter.unusedSimpArgs false
open Classical in
noncomputable def textB (s : ByteArray) : Bool := decide (textUpto s s.size ∧ s.size ≤ 40)
open Classical in
theorem textB_iff {s : ByteArray} : textB s = true ↔ textUpto s s.size ∧ s.size ≤ 40 := by unfold textB; rw [decide_eq_true_eq]
theorem textB_not {s : ByteArray} (h : ¬ (textUpto s s.size ∧ s.size ≤ 40)) : false = textB s := by
  cases hb : textB s with
  | false => rfl
  | true => exact absurd (textB_iff.1 hb) h
set_option maxHeartbeats 4000000 in
set_option maxRecDepth 100000 in
theorem spec_l5TextOk.to (s : ByteArray) (w : World) (hm : s.size ≤ maxLen) : Calls Try.prog 135 #[.string s] w fun x w' => x = .returned (.bool (textB s)) ∧ w' = w := by
  have hm' : (s.size : Int) ≤ 9223372036854775807 := by unfold maxLen at hm; omega
  go_enter Try.func135, Try.ntmps135
  go_wp2_with fail
  go_loop [3] (fun v => ∃ i : Int, 0 ≤ i ∧ i ≤ (s.size : Int) ∧ v = .int .i64 i ∧ Aside0 (textUpto s i)) (fun v => (s.size - (intOf v).toNat))
  case atStart => exact ⟨0, by omega, by omega, rfl, ⟨fun j h0 h1 => by omega⟩⟩
  case round =>
    obtain ⟨i, hi0, hi1, rfl, HT⟩ := hrel
    by_cases hlt : i < (s.size : Int)
    · have hx := bt_at s i
      by_cases hb : 32 ≤ bt s i
      · have HB := Aside0.mk (textUpto_step hi0 HT.out hb)
        go_wp2_with fail
        go_round
        case rel => exact ⟨i + 1, by omega, by omega, rfl, HB⟩
        case measure => simp [intOf]; omega
      · have HB := Aside0.mk (textB_not (fun q => hb (q.1 i hi0 hlt)))
        go_wp2_with fail
        go_ret
        exact ⟨ret_bool HB.out, rfl⟩
    · have HTX := Aside0.mk (show textUpto s s.size from fun j h0 h1 => HT.out j h0 (by omega))
      clear HT
      by_cases h4 : s.size ≤ 40
      · have h4' : (s.size : Int) ≤ 40 := by omega
        go_wp2_with fail
        go_ret
        exact ⟨ret_bool (by rw [textB_iff.2 ⟨HTX.out, h4⟩]), rfl⟩
      · go_wp2_with fail
        go_ret
        exact ⟨ret_bool (by rw [← textB_not (fun q => h4 q.2)]; simp; omega), rfl⟩
open Classical in
noncomputable def lineB (chart : List Acc) (dims curs : Int) (x : Lin) : Bool := decide (lineP chart dims curs x)
open Classical in
theorem lineB_true {chart : List Acc} {dims curs : Int} {x : Lin} : lineB chart dims curs x = true ↔ lineP chart dims curs x := by unfold lineB; rw [decide_eq_true_eq]
theorem lineB_not {chart : List Acc} {dims curs : Int} {x : Lin} (h : ¬ lineP chart dims curs x) : false = lineB chart dims curs x := by
  cases hb : lineB chart dims curs x with
  | false => rfl
  | true => exact absurd (lineB_true.1 hb) h
set_option maxHeartbeats 4000000 in
set_option maxRecDepth 100000 in
theorem spec_l5LineOk.to (A0 : Option Addr) (c0 : Nat) (l0 : List Acc) (dims curs : Int) (x : Lin) (w : World) (hr0 : Kd.C k131 w A0 l0.length l0) (hs : ∀ x ∈ l0, x.f0.size ≤ maxLen) (hch : chartOk l0 = true) (hd : 1 ≤ dims ∧ dims ≤ 20) (hc : 1 ≤ curs ∧ curs ≤ 20) :
    Calls Try.prog 136 #[.agg #[.slice A0 l0.length c0, .int .i64 dims, .int .i64 curs], .agg #[.int .i64 x.f0, .int .i64 x.f1, .int .i64 x.f2, .int .i64 x.f3, .int .i64 x.f4]] w fun e w' => e = .returned (.bool (lineB l0 dims curs x)) ∧ Below w.heap.size w w' := by
  have hl := hr0.2.1
  have hlen := (chartOk_iff.1 hch).2.1
  have H0 := Aside0.mk (Kd.C_below hr0 (below_two w (.cells #[.slice A0 l0.length c0, .int .i64 dims, .int .i64 curs] 26) (.cells #[.int .i64 x.f0, .int .i64 x.f1, .int .i64 x.f2, .int .i64 x.f3, .int .i64 x.f4] 112)))
  have HS := Aside0.mk hs
  have HCH := Aside0.mk hch
  obtain ⟨hd0, hd1⟩ := hd
  obtain ⟨hc0, hc1⟩ := hc
  clear hr0 hs hch
  go_enter Try.func136, Try.ntmps136
  go_wp2_with fail
  refine (spec_l1In.to _ _ _ _).mono ?_
  rintro e w' ⟨rfl, rfl⟩
  cases h1 : inB x.f0 0 ((l0.length : Int) - 1) with
  | false =>
    have HN := Aside0.mk (lineB_not (fun q => inB_false.1 h1 ⟨q.1.1, by have := q.1.2.1; omega⟩) : false = lineB l0 dims curs x)
    clear h1
    go_wp2_with fail
    go_ret
    exact ⟨ret_bool HN.out, below_two _ _ _⟩
  | true =>
    clear h1
    go_wp2_with fail
    refine (spec_Leaf.to A0 c0 l0 x.f0 _ H0.out HS.out).mono ?_
    rintro e w1 ⟨rfl, hb⟩
    have HB := Aside0.mk (below_into (w := w) hb (below_two _ _ _))
    have f1 : w1.cell? ⟨w.heap.size, 1, none⟩ = some (.int .i64 dims) := pw_cell_below hb (by go_simp)
    have f2 : w1.cell? ⟨w.heap.size, 2, none⟩ = some (.int .i64 curs) := pw_cell_below hb (by go_simp)
    have x1 : w1.cell? ⟨w.heap.size + 1, 1, none⟩ = some (.int .i64 x.f1) := pw_cell_below hb (by go_simp)
    have x2 : w1.cell? ⟨w.heap.size + 1, 2, none⟩ = some (.int .i64 x.f2) := pw_cell_below hb (by go_simp)
    have x3 : w1.cell? ⟨w.heap.size + 1, 3, none⟩ = some (.int .i64 x.f3) := pw_cell_below hb (by go_simp)
    have x4 : w1.cell? ⟨w.heap.size + 1, 4, none⟩ = some (.int .i64 x.f4) := pw_cell_below hb (by go_simp)
    clear hb
    rw [HCH.out, Bool.true_and]
    cases h2 : leafB l0 x.f0 with
    | false =>
      have HN := Aside0.mk (lineB_not (fun q => by have := leafB_of q.1; rw [h2] at this; cases this) : false = lineB l0 dims curs x)
      clear h2
      go_wp2_with fail
      go_ret
      exact ⟨ret_bool HN.out, HB.out⟩
    | true =>
      have HLF := Aside0.mk (leafB_true.1 h2)
      clear h2
      go_wp2_with fail
      refine (spec_l1In.to _ _ _ _).mono ?_
      rintro e w' ⟨rfl, rfl⟩
      cases h3 : inB x.f1 0 (dims - 1) with
      | false =>
        have HN := Aside0.mk (lineB_not (fun q => inB_false.1 h3 q.2.1) : false = lineB l0 dims curs x)
        clear h3
        go_wp2_with fail
        go_ret
        exact ⟨ret_bool HN.out, HB.out⟩
      | true =>
        have HDM := Aside0.mk (inB_true.1 h3)
        clear h3
        go_wp2_with fail
        refine (spec_l1In.to _ _ _ _).mono ?_
        rintro e w' ⟨rfl, rfl⟩
        cases h4 : inB x.f2 0 (curs - 1) with
        | false =>
          have HN := Aside0.mk (lineB_not (fun q => inB_false.1 h4 q.2.2.1) : false = lineB l0 dims curs x)
          clear h4
          go_wp2_with fail
          go_ret
          exact ⟨ret_bool HN.out, HB.out⟩
        | true =>
          have HCR := Aside0.mk (inB_true.1 h4)
          clear h4
          go_wp2_with fail
          refine (spec_l1Amount.to _ _).mono ?_
          rintro e w' ⟨rfl, rfl⟩
          cases h5 : inB x.f3 (-100000000000) 100000000000 with
          | false =>
            have HN := Aside0.mk (lineB_not (fun q => inB_false.1 h5 q.2.2.2.1) : false = lineB l0 dims curs x)
            clear h5
            go_wp2_with fail
            go_ret
            exact ⟨ret_bool HN.out, HB.out⟩
          | true =>
            have HAM := Aside0.mk (inB_true.1 h5)
            clear h5
            go_wp2_with fail
            refine (spec_l1Amount.to _ _).mono ?_
            rintro e w' ⟨rfl, rfl⟩
            cases h6 : inB x.f4 (-100000000000) 100000000000 with
            | false =>
              have HN := Aside0.mk (lineB_not (fun q => inB_false.1 h6 q.2.2.2.2.1) : false = lineB l0 dims curs x)
              clear h6
              go_wp2_with fail
              go_ret
              exact ⟨ret_bool HN.out, HB.out⟩
            | true =>
              have HBS := Aside0.mk (inB_true.1 h6)
              clear h6
              by_cases h7 : x.f2 = 0
              · have h7b : (x.f2 != 0) = false := by rw [h7]; rfl
                by_cases h8 : x.f3 = x.f4
                · have HY := Aside0.mk (lineB_true.2 (show lineP l0 dims curs x from ⟨HLF.out, HDM.out, HCR.out, HAM.out, HBS.out, fun _ => h8⟩))
                  have h8b : (x.f3 == x.f4) = true := beq_iff_eq.2 h8
                  clear h7 h8
                  go_wp2_with fail
                  go_ret
                  exact ⟨ret_bool HY.out.symm, HB.out⟩
                · have HN := Aside0.mk (lineB_not (fun q => h8 (q.2.2.2.2.2 h7)) : false = lineB l0 dims curs x)
                  have h8b : (x.f3 == x.f4) = false := beq_eq_false_iff_ne.2 h8
                  clear h7 h8
                  go_wp2_with fail
                  go_ret
                  exact ⟨ret_bool HN.out, HB.out⟩
              · have HY := Aside0.mk (lineB_true.2 (show lineP l0 dims curs x from ⟨HLF.out, HDM.out, HCR.out, HAM.out, HBS.out, fun q => absurd q h7⟩))
                have h7b : (x.f2 != 0) = true := bne_iff_ne.2 h7
                clear h7
                go_wp2_with fail
                go_ret
                exact ⟨ret_bool HY.out.symm, HB.out⟩
end Go.Proofs.Ytphmnkcfjgallaa.Q
namespace Go.Proofs.Ytphmnkcfjgallaa.Q
open Go.RowKit Go.Proofs.YtphmnkcfjgallaaW.PrintWords Go.Proofs.YtphmnkcfjgallaaW.PrintLast Go.Proofs.YtphmnkcfjgallaaW.PrintMore
attribute [local go_sem] max2_int min2_int max_two min_two max_three min_three max_four min_four   -- for this text's walks alone
set_option linter.unusedVariables false
set_option linter.unusedSimpArgs false
set_option maxHeartbeats 4000000 in
set_option maxRecDepth 100000 in
theorem impl_FrameOk.to (A0 : Option Addr) (c0 : Nat) (l0 : List Acc) (dims curs : Int) (w : World) (hr0 : Kd.C k131 w A0 l0.length l0) (hs : ∀ x ∈ l0, x.f0.size ≤ maxLen) :
    Calls Try.prog 93 #[.agg #[.slice A0 l0.length c0, .int .i64 dims, .int .i64 curs]] w fun e w' => e = .returned (.bool (frameB l0 dims curs)) ∧ Below w.heap.size w w' := by
  have H0 := Aside0.mk hr0
  clear hr0
  unfold frameB
  go_enter Try.func93, Try.ntmps93
  go_wp2_with fail
  refine (impl_between.to dims _ _ _).mono ?_
  rintro e w5 ⟨rfl, rfl⟩
  cases hinB : inB dims 1 20 with
  | false =>
    go_wp2_with fail
    go_ret
    exact ⟨ret_bool (by simp [hinB]), below_alloc (Below.refl _ _) _⟩
  | true =>
    go_wp2_with fail
    refine (impl_between.to curs _ _ _).mono ?_
    rintro e w6 ⟨rfl, rfl⟩
    cases hinC : inB curs 1 20 with
    | false =>
      go_wp2_with fail
      go_ret
      exact ⟨ret_bool (by simp [hinB, hinC]), below_alloc (Below.refl _ _) _⟩
    | true =>
      go_wp2_with fail
      refine (impl_ChartOk.to A0 c0 l0 _ (Kd.C_below H0.out (below_alloc (Below.refl _ _) _)) hs).mono ?_
      rintro e w1 ⟨rfl, hb⟩
      have HB := Aside0.mk (below_into (w := w) hb (below_alloc (Below.refl _ _) _))
      have s0 : w1.cell? ⟨w.heap.size, 0, none⟩ = some (.slice A0 l0.length c0) := pw_cell_below hb (by go_simp)
      have s1 : w1.cell? ⟨w.heap.size, 1, none⟩ = some (.int .i64 dims) := pw_cell_below hb (by go_simp)
      have s2 : w1.cell? ⟨w.heap.size, 2, none⟩ = some (.int .i64 curs) := pw_cell_below hb (by go_simp)
      clear hb
      cases hch : chartOk l0 with
      | false =>
        go_wp2_with fail
        go_ret
        exact ⟨ret_bool (by simp [hinB, hinC, hch]), HB.out⟩
      | true =>
        go_wp2_with fail
        go_ret
        exact ⟨ret_bool (by simp [hinB, hinC, hch]), HB.out⟩
end Go.Proofs.Ytphmnkcfjgallaa.Q
