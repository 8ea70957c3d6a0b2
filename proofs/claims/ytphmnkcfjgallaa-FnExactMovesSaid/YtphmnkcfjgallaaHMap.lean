/- A map that a call makes for itself, told as a function from its keys.
   No condition. -/
import Derived.Test.YtphmnkcfjgallaaWWords
import Derived.Maps.OwnOps
import Derived.Maps.OwnSet
import Derived.Maps.RangeWalk
import Derived.Maps.StringElems
import Derived.WideKeyEntry
import Derived.WideKeyArr
set_option linter.unusedVariables false
set_option linter.unusedSimpArgs false
namespace Go.Proofs.Ytphmnkcfjgallaa.HMap
open Go.RowKit Go.Maps Go.MapKept Go.ChangeMaps Go.WideShapes

/-- How the keys of a type are told. -/
structure KeyK (P : Program) (kt : TypeId) (κ : Type) where
  enc : κ → Value
  lit : κ → Lit
  ok : κ → Prop
  keyed : Maps.Keyed P kt
  told : ∀ x, ok x → keyOf P kt (enc x) = some (lit x)
  inj : ∀ x y, ok x → ok y → lit x = lit y → x = y
  inv : ∀ v l, keyOf P kt v = some l → ∃ x, ok x ∧ v = enc x ∧ l = lit x

/-- What the map says of a key. -/
def Tells {κ : Type} {P : Program} {kt : TypeId} (K : KeyK P kt κ) (D : DataW Unit) (f : κ → Option Int) : Prop :=
  ∀ x, K.ok x → Maps.has D (K.lit x) = (f x).isSome ∧ ∀ v, f x = some v → ∀ z, D.atKey (K.lit x) z = .lit (.int .i64 v)
/-- Block b is a map of at most n entries that reads as f. -/
def MapIs {κ : Type} (P : Program) (kt et : TypeId) (K : KeyK P kt κ) (w : World) (b n : Nat) (f : κ → Option Int) : Prop :=
  ∃ D : DataW Unit, w.ownsMap P kt (plainElem P et) b n D ∧ Tells K D f
section
variable {κ : Type} {P : Program} {kt et : TypeId} {K : KeyK P kt κ} {w w1 : World} {b n : Nat} {f : κ → Option Int}
theorem MapIs.made (w : World) (P : Program) (kt et : TypeId) (K : KeyK P kt κ) : MapIs P kt et K (w.alloc (.map #[] 0)) w.heap.size 0 (fun _ => none) :=
  ⟨.map [], World.ownsMap_made _ _ _ _, fun x _ => ⟨rfl, fun v h => by cases h⟩⟩
theorem MapIs.lt (h : MapIs P kt et K w b n f) : b < w.heap.size := by
  obtain ⟨D, h, _⟩ := h
  exact h.lt
theorem MapIs.kept {row : Option Nat} (h : MapIs P kt et K w b n f) (hg : w.grownBy w1 row) (hne : some b ≠ row) : MapIs P kt et K w1 b n f := by
  obtain ⟨D, h, t⟩ := h
  exact ⟨D, h.kept hg hne, t⟩
theorem MapIs.block (h : MapIs P kt et K w b n f) (hb : w1.heap[b]? = w.heap[b]?) : MapIs P kt et K w1 b n f := by
  obtain ⟨D, ⟨es, clock, h1, h2⟩, t⟩ := h
  exact ⟨D, ⟨es, clock, hb.trans h1, h2⟩, t⟩
theorem MapIs.alloc (h : MapIs P kt et K w b n f) (o : Obj) : MapIs P kt et K (w.alloc o) b n f := h.kept (World.grownBy_alloc w o none) (by simp)
theorem MapIs.far (h : MapIs P kt et K w b n f) {p : Addr} (hp : b ≠ p.block) (u : Value) : MapIs P kt et K (w.setCell p u) b n f := h.block (Below.heap_setCell w p u b hp)
theorem MapIs.drewN (h : MapIs P kt et K w b n f) (m : Nat) : MapIs P kt et K (w.drewN m) b n f := h.block rfl
theorem MapIs.drew (h : MapIs P kt et K w b n f) : MapIs P kt et K w.drew b n f := h.block rfl
theorem MapIs.below (h : MapIs P kt et K w b n f) (hb : Below w.heap.size w w1) : MapIs P kt et K w1 b n f := h.block (hb.block b h.lt)
open Classical in
noncomputable def upd (f : κ → Option Int) (x : κ) (v : Int) : κ → Option Int := fun y => if y = x then some v else f y
theorem upd_same (f : κ → Option Int) (x : κ) (v : Int) : upd f x v x = some v := by simp [upd]
theorem upd_other (f : κ → Option Int) {x y : κ} (v : Int) (h : y ≠ x) : upd f x v y = f y := by simp [upd, h]
theorem Tells.put {D : DataW Unit} (h : Tells K D f) (hD : Maps.IsMap D) {x : κ} (hx : K.ok x) (v : Int) : Tells K (D.put (K.lit x) (.lit (.int .i64 v))) (upd f x v) := by
  intro y hy
  by_cases e : y = x
  · subst e
    rw [upd_same]
    exact ⟨Maps.has_put_same hD (K.keyed.key (K.told _ hx)) _, fun v' hv' z => by cases hv'; exact Maps.atKey_put_same hD (K.keyed.key (K.told _ hx)) _ _⟩
  · have hl : K.lit y ≠ K.lit x := fun h => e (K.inj _ _ hy hx h)
    rw [upd_other _ _ e]
    exact ⟨(Maps.has_put_other hl _).trans (h y hy).1, fun v' hv' z => (Maps.atKey_put_other hl _ _).trans ((h y hy).2 v' hv' z)⟩
theorem owns_isMap {D : DataW Unit} {R : Value → Option (DataW Unit × List MemPlace)} (h : w.ownsMap P kt R b n D) : Maps.IsMap D := by
  obtain ⟨es, clock, _, _, _, rfl⟩ := h
  exact ⟨_, rfl⟩

variable {ops : Array Oper} {rest : List Oper} {o : Oper} {a : Act} {Q : Exit → Act → World → Prop}
/-- 'v, ok := m[k]' -/
theorem wpList_look_ok (hg : o.guard = none) (m x : Operand) (t : TypeId) (hop : o.op = Op.lookup t m x true) (ht : P.underlying t = some (.map kt et)) (he : P.underlying et = some (.int .i64)) (hz : (zeroValue et).run P w = .ok (.int .i64 0) w)
    (hm : a.eval m = .map (some b)) (h : MapIs P kt et K w b n f) (key : κ) (hx : a.eval x = K.enc key) (hk : K.ok key)
    (hK : ∀ c : Int, wpList P ops Q rest (a.put o.dst (.tuple #[.int .i64 c, .bool (f key).isSome])) w) : wpList P ops Q (o :: rest) a w := by
  obtain ⟨D, h, t'⟩ := h
  refine wpList_lookup_own_ok_int w hg m x t hop kt et .i64 K.keyed ht he hz b n D hm h _ _ hx (K.told key hk) fun c _ _ => ?_
  rw [(t' key hk).1]
  exact hK c
/-- 'm[k] = v' -/
theorem wpList_upd (hg : o.guard = none) (m x v : Operand) (t : TypeId) (hop : o.op = Op.mapUpdate t m x v) (ht : P.underlying t = some (.map kt et)) (he : P.underlying et = some (.int .i64))
    (hm : a.eval m = .map (some b)) (h : MapIs P kt et K w b n f) (hn : n < maxLen) (key : κ) (val : Int) (hx : a.eval x = K.enc key) (hk : K.ok key) (hv : a.eval v = .int .i64 val) (hw : (Lit.int .i64 val).wf = true)
    (hK : ∀ w', MapIs P kt et K w' b (n + 1) (upd f key val) → w.grownBy w' (some b) → wpList P ops Q rest (a.put o.dst undef) w') : wpList P ops Q (o :: rest) a w := by
  obtain ⟨D, h, t'⟩ := h
  exact wpList_mapUpdate_own w hg m x v t hop kt et K.keyed ht _ b n D hm h hn _ _ _ hx hv (K.told key hk) _ [] (plainElem_int he hw) fun w' r1 r2 => hK w' ⟨_, r1, t'.put (owns_isMap h) hk val⟩ r2
end

section
variable {P : Program} {w : World} {t k e : TypeId} {R : Value → Option (DataW Unit × List MemPlace)} {b : Nat} {es : Array MapEntry} {clock : Nat}
open Go.WideElems in
/-- 'm[k] += ..': the entry is sought (and made), then stored into. -/
theorem entry_law (K : WideMaps.KeyLaw P k) (ht : P.underlying t = some (.map k e)) {z : Value} (hz : ∀ u : World, (zeroValue e).run P u = .ok z u) (hb : w.heap[b]? = some (.map es clock)) (F : Fit P k R es clock)
    {key : Value} {kl : Lit} (hkey : keyOf P k key = some kl) :
    ∃ (v0 : Value) (st : Nat) (es1 : Array MapEntry) (clock1 : Nat), (Instr.mapEntry t (.map (some b)) key).run P w = .ok (.tuple #[v0, goInt st]) (setBlock w b (.map es1 clock1)) ∧
      ((es1 = es ∧ clock1 = clock ∧ ∃ e0 ∈ es.toList, e0.key = key ∧ v0 = e0.val) ∨ ((∀ x ∈ es.toList, x.key ≠ key) ∧ v0 = z ∧ (Instr.mapUpdate t (.map (some b)) key z).run P w = .ok () (setBlock w b (.map es1 clock1)))) ∧
      ∀ (w2 : World) (val : Value), w2.heap[b]? = some (.map es1 clock1) → ∃ es' clock', (Instr.entryStore t (.map (some b)) (goInt st) val).run P w2 = .ok () (setBlock w2 b (.map es' clock')) ∧
        (Instr.mapUpdate t (.map (some b)) key val).run P w = .ok () (setBlock w b (.map es' clock')) := by
  obtain ⟨s1, s2, _⟩ := F.stamped
  rcases K.find w hkey es.toList F.keys with ⟨h1, h2⟩ | ⟨j, e0, h1, h2, h3⟩
  · refine ⟨z, clock, es.push ⟨key, z, clock⟩, clock + 1, ?_, Or.inr ⟨h2, rfl, ?_⟩, fun w2 val hw2 => ⟨es.push ⟨key, val, clock⟩, clock + 1, ?_, ?_⟩⟩
    · simp [Instr.mapEntry, run_underlying ht, MapKept.run_getObj_map hb, K.check w false hkey, h1, hz, MapKept.run_setObj_map _ hb, Result.andThen, setBlock]
    · simp [Instr.mapUpdate, run_underlying ht, MapKept.run_getObj_map hb, K.check w false hkey, h1, MapKept.run_setObj_map _ hb, Result.andThen, setBlock]
    · have hidx : (es.push ⟨key, z, clock⟩).findIdx? (fun e => ((e.born : Nat) : Int) == ((clock : Nat) : Int)) = some es.size := by
        rw [findIdx_arr]
        have := findIdx_born (l := (es.push ⟨key, z, clock⟩).toList) (j := es.size) (e0 := ⟨key, z, clock⟩) (by
          simp only [Array.toList_push, List.map_append, List.map_cons, List.map_nil]
          refine List.nodup_append.2 ⟨s2, by simp, fun a ha c hc e1 => ?_⟩
          simp only [List.mem_singleton] at hc
          obtain ⟨x, hx, rfl⟩ := List.mem_map.1 ha
          have := s1 x hx
          omega) (by simp)
        exact this
      have hmod : (es.push ⟨key, z, clock⟩).modify es.size (fun e => { e with val := val }) = es.push ⟨key, val, clock⟩ := by
        apply Array.ext'
        rw [Array.toList_modify, Array.toList_push, Array.toList_push, ← Array.length_toList, modify_last]
      simp [Instr.entryStore, MapKept.run_getObj_map hw2, asInt, asIntOf, goInt, hidx, hmod, MapKept.run_setObj_map _ hw2, Result.andThen, setBlock]
    · simp [Instr.mapUpdate, run_underlying ht, MapKept.run_getObj_map hb, K.check w false hkey, h1, MapKept.run_setObj_map _ hb, Result.andThen, setBlock]
  · have hj : es[j]? = some e0 := by simpa using h2
    have hsame : es.modify j (fun e => { e with key := key }) = es := by
      apply Array.ext'
      rw [Array.toList_modify, modify_eq_set _ _ _ _ h2]
      have : ({ e0 with key := key } : MapEntry) = e0 := by rw [← h3]
      rw [this]
      exact set_self _ _ _ h2
    refine ⟨e0.val, e0.born, es, clock, ?_, Or.inl ⟨rfl, rfl, e0, List.mem_of_getElem? h2, h3, rfl⟩, fun w2 val hw2 => ⟨es.modify j (fun e' => { e' with key := key, val := val }), clock, ?_, ?_⟩⟩
    · simp [Instr.mapEntry, run_underlying ht, MapKept.run_getObj_map hb, K.check w false hkey, h1, hj, h3, K.stays w hkey, hsame, MapKept.run_setObj_map _ hb, Result.andThen, setBlock]
    · have hidx : es.findIdx? (fun e => ((e.born : Nat) : Int) == ((e0.born : Nat) : Int)) = some j := by
        rw [findIdx_arr]
        exact findIdx_born s2 h2
      have hmod : es.modify j (fun e => { e with val := val }) = es.modify j (fun e' => { e' with key := key, val := val }) := by
        apply Array.ext'
        rw [Array.toList_modify, Array.toList_modify, modify_eq_set _ _ _ _ h2, modify_eq_set _ _ _ _ h2, ← h3]
      simp [Instr.entryStore, MapKept.run_getObj_map hw2, asInt, asIntOf, goInt, hidx, hmod, MapKept.run_setObj_map _ hw2, Result.andThen, setBlock]
    · simp [Instr.mapUpdate, run_underlying ht, MapKept.run_getObj_map hb, K.check w false hkey, h1, hj, h3, K.stays w hkey, MapKept.run_setObj_map _ hb, Result.andThen, setBlock]
end
section
variable {κ : Type} {P : Program} {kt et t : TypeId} {K : KeyK P kt κ} {w : World} {b n : Nat} {f : κ → Option Int}
/-- 'm[k]' as an equation. -/
theorem MapIs.look (h : MapIs P kt et K w b n f) (ht : P.underlying t = some (.map kt et)) (he : P.underlying et = some (.int .i64)) (hz : ∀ u : World, (zeroValue et).run P u = .ok (.int .i64 0) u) (key : κ) (hk : K.ok key) :
    (Instr.lookup t (.map (some b)) (K.enc key) false).run P w = .ok (.int .i64 ((f key).getD 0)) w ∧ (Lit.int .i64 ((f key).getD 0)).wf = true := by
  obtain ⟨D, h, t'⟩ := h
  obtain ⟨c, hrun, hat, hw⟩ := h.lookup_int K.keyed ht he (hz w) (K.told key hk)
  obtain ⟨h1, h2⟩ := t' key hk
  cases hf : f key with
  | none =>
    rw [hf] at h1
    rw [Maps.atKey_of_not_has h1] at hat
    have : (0 : Int) = c := by injection hat with hat; injection hat
    subst this
    exact ⟨hrun, hw⟩
  | some v =>
    rw [h2 v hf] at hat
    have : v = c := by injection hat with hat; injection hat
    subst this
    exact ⟨hrun, hw⟩
theorem setBlock_grown {w : World} {b : Nat} {es : Array MapEntry} {clock : Nat} (hb : w.heap[b]? = some (.map es clock)) (o : Obj) : w.grownBy (setBlock w b o) (some b) :=
  ⟨rfl, rfl, rfl, by simp [setBlock], fun i _ hi => heap_setBlock_other hb _ (fun e => hi (by rw [e]))⟩
/-- 'm[k] += ..' -/
theorem MapIs.entry (KL : WideMaps.KeyLaw P kt) (h : MapIs P kt et K w b n f) (ht : P.underlying t = some (.map kt et)) (he : P.underlying et = some (.int .i64)) (hz : ∀ u : World, (zeroValue et).run P u = .ok (.int .i64 0) u) (hn : n < maxLen) (key : κ) (hk : K.ok key) :
    ∃ (st : Nat) (w1 : World) (v0 : Value), (Instr.mapEntry t (.map (some b)) (K.enc key)).run P w = .ok (.tuple #[v0, goInt st]) w1 ∧ MapIs P kt et K w1 b (n + 1) (upd f key ((f key).getD 0)) ∧ w.grownBy w1 (some b) ∧
      ∀ (w2 : World) (val : Int), w2.heap[b]? = w1.heap[b]? → (Lit.int .i64 val).wf = true → ∃ w3, (Instr.entryStore t (.map (some b)) (goInt st) (.int .i64 val)).run P w2 = .ok () w3 ∧ MapIs P kt et K w3 b (n + 1) (upd f key val) ∧ w2.grownBy w3 (some b) := by
  have hlook := h.look ht he hz key hk
  obtain ⟨D, hown, t'⟩ := h
  have hM := owns_isMap hown
  have hup : ∀ val : Int, (Lit.int .i64 val).wf = true → ∃ w', (Instr.mapUpdate t (.map (some b)) (K.enc key) (.int .i64 val)).run P w = .ok () w' ∧ MapIs P kt et K w' b (n + 1) (upd f key val) := fun val hw => by
    obtain ⟨w', hr, ho, _⟩ := hown.update K.keyed ht hn (K.told key hk) (plainElem_int he hw)
    exact ⟨w', hr, _, ho, t'.put hM hk val⟩
  have hown0 := hown
  obtain ⟨es, clock, hb, F, hs, hD⟩ := hown
  obtain ⟨v0, st, es1, clock1, hent, hcase, hst⟩ := entry_law KL ht hz hb F (K.told key hk)
  have hsame1 : (setBlock w b (.map es1 clock1)).heap[b]? = some (.map es1 clock1) := heap_setBlock_same hb _
  refine ⟨st, setBlock w b (.map es1 clock1), v0, hent, ?_, setBlock_grown hb _, fun w2 val hw2 hw => ?_⟩
  · rcases hcase with ⟨rfl, rfl, e0, hm0, hk0, _⟩ | ⟨hno, rfl, hup0⟩
    · have hh : (f key).isSome = true := by
        rw [← (t' key hk).1, hD]
        refine List.any_eq_true.2 ⟨Go.WideElems.rg P kt (plainElem P et) e0, mem_sorted.2 (List.mem_map.2 ⟨e0, hm0, rfl⟩), ?_⟩
        obtain ⟨y, hy⟩ := F.reads e0 hm0
        rw [Go.WideElems.rg_of hy]
        have := Go.WideElems.rd_key hy
        rw [hk0, K.told key hk] at this
        rw [← Option.some.inj this]
        exact WideAt.sameKey_self (K.keyed.key (K.told key hk))
      obtain ⟨v, hv⟩ := Option.isSome_iff_exists.1 hh
      have hf : upd f key ((f key).getD 0) = f := by
        funext y
        by_cases e : y = key
        · subst e; rw [upd_same, hv]; rfl
        · exact upd_other _ _ e
      rw [hf]
      exact (show MapIs P kt et K w b (n + 1) f from ⟨D, hown0.mono (Nat.le_succ _), t'⟩).block (by rw [hsame1, hb])
    · obtain ⟨w', hr, hM'⟩ := hup 0 (by decide)
      rw [hup0] at hr
      injection hr with _ hr
      subst hr
      have hh : f key = none := by
        have h1 := (t' key hk).1
        cases hf : f key with
        | none => rfl
        | some v =>
          rw [hf] at h1
          obtain ⟨p, hp, hpk⟩ := List.any_eq_true.1 (by rw [hD] at h1; exact h1)
          obtain ⟨x, hx, rfl⟩ := List.mem_map.1 (mem_sorted.1 hp)
          obtain ⟨y, hy⟩ := F.reads x hx
          have h3 := WideAt.sameKey_eq hpk
          rw [Go.WideElems.rg_of hy] at h3
          have h4 := Go.WideElems.rd_key hy
          rw [h3] at h4
          exact absurd (K.keyed.inj h4 (K.told key hk)) (hno x hx)
      rw [hh]
      exact hM'
  · obtain ⟨es', clock', hrs, hru⟩ := hst w2 (.int .i64 val) (hw2.trans hsame1)
    obtain ⟨w', hr, hM'⟩ := hup val hw
    rw [hru] at hr
    injection hr with _ hr
    subst hr
    exact ⟨_, hrs, hM'.block (by rw [heap_setBlock_same (hw2.trans hsame1), heap_setBlock_same hb]), setBlock_grown (hw2.trans hsame1) _⟩
end
/-- A range over the map under way: 'left x': the entry at x is still to come. -/
def Seeks {κ : Type} (P : Program) (kt et : TypeId) (K : KeyK P kt κ) (w : World) (b r n : Nat) (f : κ → Option Int) (left : κ → Prop) (cnt : Nat) : Prop :=
  ∃ (D : DataW Unit) (lf : Lit → Bool), w.ranges P kt (plainElem P et) b r n D lf cnt ∧ Tells K D f ∧ (∀ x, K.ok x → (lf (K.lit x) = true ↔ left x)) ∧ ∀ kl, lf kl = true → Maps.has D kl = true
section
variable {κ : Type} {P : Program} {kt et t : TypeId} {K : KeyK P kt κ} {w w1 : World} {b r n cnt : Nat} {f : κ → Option Int} {left : κ → Prop}
theorem Seeks.left_eq (h : Seeks P kt et K w b r n f left cnt) : w.rangeLeft b r = cnt := by
  obtain ⟨D, lf, h, _⟩ := h
  exact h.left_eq
theorem Seeks.kept {row : Option Nat} (h : Seeks P kt et K w b r n f left cnt) (hg : w.grownBy w1 row) (hb : some b ≠ row) (hr : some r ≠ row) : Seeks P kt et K w1 b r n f left cnt := by
  obtain ⟨D, lf, h, q⟩ := h
  exact ⟨D, lf, h.kept hg hb hr, q⟩
variable {ops : Array Oper} {rest : List Oper} {o : Oper} {a : Act} {Q : Exit → Act → World → Prop}
theorem wpList_range_seeks (hg : o.guard = none) (m : Operand) (hop : o.op = Op.range t m) (ht : P.underlying t = some (.map kt et)) (hm : a.eval m = .map (some b)) (h : MapIs P kt et K w b n f)
    (hK : ∀ w' cnt, Seeks P kt et K w' b w.heap.size n f (fun x => (f x).isSome = true) cnt → w.grownBy w' none → w'.heap.size = w.heap.size + 1 → wpList P ops Q rest (a.put o.dst (.pointer (some ⟨w.heap.size, 0, none⟩))) w') : wpList P ops Q (o :: rest) a w := by
  obtain ⟨D, h, t'⟩ := h
  exact wpList_range_own w hg m t hop kt et K.keyed ht _ b n D hm h fun w' r1 r2 r3 => hK w' _ ⟨D, _, r1, t', fun x hx => by rw [(t' x hx).1], fun kl h => h⟩ r2 r3
theorem wpList_next_seeks (hg : o.guard = none) (it : Operand) (hop : o.op = Op.next it false) (he : P.underlying et = some (.int .i64)) (hit : a.eval it = .pointer (some ⟨r, 0, none⟩)) (h : Seeks P kt et K w b r n f left cnt)
    (hDone : (∀ x, K.ok x → ¬ left x) → wpList P ops Q rest (a.put o.dst (.tuple #[.bool false])) w)
    (hMore : ∀ (x : κ) (c : Int) (w' : World) (cnt' : Nat), K.ok x → left x → f x = some c → Seeks P kt et K w' b r n f (fun z => left z ∧ z ≠ x) cnt' → cnt' < cnt → w.grownBy w' (some r) → w'.heap.size = w.heap.size →
      (Instr.entry (.pointer (some ⟨r, 0, none⟩))).run P w' = .ok (.tuple #[K.enc x, .int .i64 c]) w' → wpList P ops Q rest (a.put o.dst (.tuple #[.bool true, K.enc x, .int .i64 c])) w') : wpList P ops Q (o :: rest) a w := by
  obtain ⟨D, lf, h, t', hl, hs⟩ := h
  refine wpList_next_ranges w hg it hop kt K.keyed (plainElem P et) K.enc (Value.int .i64) (fun key kl hkey => by obtain ⟨x, _, rfl, _⟩ := K.inv _ _ hkey; exact ⟨x, rfl⟩) (fun v y hv => by obtain ⟨c, rfl, _⟩ := plainElem_int_inv he hv; exact ⟨c, rfl⟩)
    b r n D lf cnt hit h (fun _ h0 => hDone fun x hx hlx => by rw [← hl x hx, h0] at hlx; cases hlx) ?_
  intro x c kl y w' cnt' hkey hlk hv hat hrg hlt hgr hsz hen
  obtain ⟨x', hx', e, rfl⟩ := K.inv _ _ hkey
  have he' : K.enc x = K.enc x' := e
  rw [he'] at hen ⊢
  obtain ⟨c', ec, hy, hw⟩ := plainElem_int_inv he hv
  injection ec with _ ec
  subst ec
  have hf : f x' = some c := by
    have h1 := (t' x' hx').1
    rw [hs _ hlk] at h1
    obtain ⟨v, hv'⟩ := Option.isSome_iff_exists.1 h1.symm
    have h2 := (t' x' hx').2 v hv' (.lit (.bool true))
    rw [hat, hy] at h2
    have : c = v := by injection h2 with h2; injection h2
    rw [this]; exact hv'
  refine hMore x' c w' cnt' hx' ((hl x' hx').1 hlk) hf ⟨D, _, hrg, t', fun z hz => ?_, fun kl' h' => hs kl' (by simp at h'; exact h'.1)⟩ hlt hgr hsz hen
  by_cases ez : z = x'
  · subst ez
    simp [WideAt.sameKey_self (K.keyed.key (K.told z hz))]
  · have hne : K.lit z ≠ K.lit x' := fun q => ez (K.inj _ _ hz hx' q)
    simp [Maps.sameKey_ne hne, hl z hz, ez]
end
/-- Keys that are strings. -/
def strKey {P : Program} {kt : TypeId} (hk : P.underlying kt = some .string) : KeyK P kt ByteArray where
  enc := Value.string
  lit := fun s => .string s.data.toList
  ok := fun s => s.size ≤ maxLen
  keyed := Maps.string_keyed hk
  told := fun s hs => by simp [keyOf, mapKey, hk, hs]
  inj := fun a b _ _ h => by injection h with h; exact Go.WideShapes.bytes_inj h
  inv := fun v l h => by
    unfold keyOf at h
    rw [hk] at h
    simp only at h
    unfold mapKey at h
    rw [hk] at h
    cases v <;> simp at h
    exact ⟨_, h.1, rfl, h.2.symm⟩
/-- Keys that are whole numbers. -/
def intKey {P : Program} {kt : TypeId} (hk : P.underlying kt = some (.int .i64)) : KeyK P kt Int where
  enc := Value.int .i64
  lit := fun s => .int .i64 s
  ok := fun s => (Lit.int .i64 s).wf = true
  keyed := Maps.int_keyed hk
  told := fun s hs => Maps.keyOf_int_mk hk hs
  inj := fun a b _ _ h => by injection h
  inv := fun v l h => by
    obtain ⟨x, rfl, rfl, hw⟩ := Maps.keyOf_int_inv hk h
    exact ⟨x, hw, rfl, rfl⟩
/-- Keys that are two whole numbers. -/
theorem pair_told {P : Program} {kt et : TypeId} (A : WideMaps.ArrKey P kt et 2) (he : P.underlying et = some (.int .i64)) (hsz : ∃ m, P.types.size = m + 1) (a b : Int) (ha : (Lit.int .i64 a).wf = true) (hb : (Lit.int .i64 b).wf = true) :
    (keyOf P kt (.agg #[.int .i64 a, .int .i64 b])).isSome = true := by
  obtain ⟨m, hm⟩ := hsz
  have h1 : P.keyType kt = true := A.keyType ⟨m, hm⟩
  unfold keyOf
  rw [A.hu]
  simp only [h1, Value.formed, A.hu, A.size, Value.cells, hm, Program.keyLits, A.one, he]
  rw [show List.range 2 = [0, 1] from rfl]
  simp [ha, hb]
theorem int_lits {P : Program} {et : TypeId} (he : P.underlying et = some (.int .i64)) {m : Nat} {c : Value} {ls : List Lit} (h : P.keyLits m et [c] = some ls) : ∃ a : Int, c = .int .i64 a ∧ (Lit.int .i64 a).wf = true := by
  cases m with
  | zero => simp [Program.keyLits] at h
  | succ m =>
    unfold Program.keyLits at h
    rw [he] at h
    cases c <;> simp at h
    obtain ⟨⟨rfl, hw⟩, _⟩ := h
    exact ⟨_, rfl, hw⟩
theorem pair_inv {P : Program} {kt et : TypeId} (A : WideMaps.ArrKey P kt et 2) (he : P.underlying et = some (.int .i64)) {v : Value} {l : Lit} (h : keyOf P kt v = some l) :
    ∃ a b : Int, ((Lit.int .i64 a).wf = true ∧ (Lit.int .i64 b).wf = true) ∧ v = .agg #[.int .i64 a, .int .i64 b] := by
  unfold keyOf at h
  rw [A.hu] at h
  simp only at h
  split at h
  · rename_i hc
    simp only [Bool.and_eq_true] at hc
    obtain ⟨_, hf⟩ := hc
    cases v with
    | agg cs =>
      simp only [Value.formed, A.hu, A.size, beq_iff_eq] at hf
      obtain ⟨cl⟩ := cs
      match cl, hf with
      | [c0, c1], _ =>
        simp only [Value.cells] at h
        unfold Program.keyLits at h
        rw [A.hu] at h
        simp only [A.size, A.one] at h
        rw [show List.range 2 = [0, 1] from rfl] at h
        simp at h
        cases h0 : P.keyLits P.types.size et [c0] with
        | none => simp [h0] at h
        | some x0 =>
        cases h1 : P.keyLits P.types.size et [c1] with
        | none => simp [h0, h1] at h
        | some x1 =>
        obtain ⟨a, rfl, ha⟩ := int_lits he h0
        obtain ⟨b, rfl, hb⟩ := int_lits he h1
        exact ⟨a, b, ⟨ha, hb⟩, rfl⟩
    | _ => simp [Value.formed, A.hu] at hf
  · cases h
def pairKey {P : Program} {kt et : TypeId} (A : WideMaps.ArrKey P kt et 2) (he : P.underlying et = some (.int .i64)) (hsz : ∃ m, P.types.size = m + 1) : KeyK P kt (Int × Int) where
  enc := fun x => .agg #[.int .i64 x.1, .int .i64 x.2]
  lit := fun x => (keyOf P kt (.agg #[.int .i64 x.1, .int .i64 x.2])).getD (.bool true)
  ok := fun x => (Lit.int .i64 x.1).wf = true ∧ (Lit.int .i64 x.2).wf = true
  keyed := Maps.Keyed.of_law A.law
  told := fun x hx => by
    have h := pair_told A he hsz x.1 x.2 hx.1 hx.2
    obtain ⟨l, hl⟩ := Option.isSome_iff_exists.1 h
    rw [hl]; rfl
  inj := fun x y hx hy h => by
    obtain ⟨lx, hlx⟩ := Option.isSome_iff_exists.1 (pair_told A he hsz x.1 x.2 hx.1 hx.2)
    obtain ⟨ly, hly⟩ := Option.isSome_iff_exists.1 (pair_told A he hsz y.1 y.2 hy.1 hy.2)
    rw [hlx, hly] at h
    simp only [Option.getD_some] at h
    subst h
    have := A.law.inj hlx hly
    simp at this
    exact Prod.ext this.1 this.2
  inv := fun v l h => by
    obtain ⟨a, b, hw, rfl⟩ := pair_inv A he h
    exact ⟨(a, b), hw, rfl, by rw [h]; rfl⟩
end Go.Proofs.Ytphmnkcfjgallaa.HMap
