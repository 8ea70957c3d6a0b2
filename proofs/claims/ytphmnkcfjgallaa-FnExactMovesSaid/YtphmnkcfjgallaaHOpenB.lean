/- A struct or a slice of an argument, read as plain values, at any base.
   No condition. -/
import Derived.Test.YtphmnkcfjgallaaHOpen
namespace Go.Proofs.Ytphmnkcfjgallaa.HOpenB
open Go.Proofs.YtphmnkcfjgallaaW.PrintWords Go.Proofs.Ytphmnkcfjgallaa.HOpen
/-- A struct that came in by value. -/
theorem opened_struct {P : Program} {t : TypeId} {fs : Array Field} {α : Type} {d : Kd α} {Wf : α → Prop} {H : Type} {enc : TypeId × Value → H} {w : World} {sp : Nat → Bool} {held : Bool} {r : Reach} {bs : Nat} {v : Value} {D : DataW H} {ps : List MemPlace}
    (hu : P.underlying t = some (.struct fs)) (ho : Opens P t d Wf) (hv : Value.okWide P w r bs t v) (h : DataW.Trod enc P w 0 sp held t v D ps) : ∃ a cs, v = .agg cs ∧ Wf a ∧ d.K w a cs.toList := by
  obtain ⟨cs, rfl, _⟩ := Go.WideShapes.okWide_struct hu hv
  obtain ⟨fuel, hf⟩ := h
  obtain ⟨a, ha, hk⟩ := ho.2 H enc w sp held fuel _ _ hf
  exact ⟨a, cs, rfl, ha, hk⟩
/-- A slice that came in. -/
theorem opened_slice {P : Program} {t e : TypeId} {α : Type} {d : Kd α} {Wf : α → Prop} {H : Type} {enc : TypeId × Value → H} {w : World} {sp : Nat → Bool} {held : Bool} {r : Reach} {bs : Nat} {v : Value} {D : DataW H} {ps : List MemPlace}
    (hu : P.underlying t = some (.slice e)) (hc : P.cellsOf t = 1) (ho : Opens P e d Wf) (hv : Value.okWide P w r bs t v) (h : DataW.Trod enc P w 0 sp held t v D ps) :
    ∃ (l : List α) (A : Option Addr) (c : Nat), v = .slice A l.length c ∧ l.length ≤ c ∧ Kd.C d w A l.length l ∧ l.length ≤ maxLen ∧ ∀ a ∈ l, Wf a := by
  obtain ⟨a, len, cap, rfl⟩ := Go.WideShapes.okWide_slice hu hv
  obtain ⟨fuel, hf⟩ := h
  obtain ⟨l, hw, A, c, he, hl, hC⟩ := (opens_slice 0 hu hc ho).2 H enc w sp held fuel _ _ hf
  simp [Value.cells] at he
  obtain ⟨rfl, rfl, rfl⟩ := he
  exact ⟨l, a, cap, rfl, hl, hC, hw.1, hw.2⟩
end Go.Proofs.Ytphmnkcfjgallaa.HOpenB
