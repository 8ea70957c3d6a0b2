/-
  DERIVED. GIVEN WITH THE SEED: THE CARDS: each row of YtnknanppoenigaaGreatDoorRows.lean that lists a variable, with what it lists TIED to the program's text (the seventh form; the later family's looks); each row that meets fmt, with fmt's text TOLD by the authors' own Lean function (tested against real Go, not proved from fmt's source: count such statements apart). THE CARD IS WHAT COUNTS. Prove the row's statement (the work); the ties are given (YtnknanppoenigaaGreatDoorTie.lean); close each card by the builder's one call (the guide's Derived/Test/ToyasCard.lean, 'card_holds'). Laid BY PROGRAM, IN A SANDBOX (cutbox-door.mjs). By AI agents, Wed Nov 11 2026. No macro, syntax, notation, axiom, sorry.
-/
import Derived.Test.YtnknanppoenigaaGreatDoorRows
import GoSem.ClaimSeven
namespace Go.Proofs.YtnknanppoenigaaGreatDoor
namespace Rows

/-- THE TIED CARD OF 'laws.FnSpreadBooks'. -/
def fnSpreadBooksCard : Claim7 := { stood := { row := fnSpreadBooksRow, standIns := [], harness := (true, "b9274b937706b82b57a8da1eded2f848140fd59a0c820f63e7a51acad8f16bb3"), looks := true }, kinds := [], alts := [], laidByText := true, laidKinds := [.sentinel, .sentinel, .sentinel, .sentinel, .sentinel], laidTests := true, laidLooks := .later }
def FnSpreadBooksCardSaid : Prop := Claim7.holds Tryz.pinned (.plain (OpenSpec.ofChange fnSpreadBooksSpec)) fnSpreadBooksCard

/-- THE SECOND FORM's CARD OF 'laws.FnSpreadBooks'. -/
def fnSpreadBooksUptoCard : Claim7 := { stood := { row := fnSpreadBooksUptoRow, standIns := [], harness := (true, "b9274b937706b82b57a8da1eded2f848140fd59a0c820f63e7a51acad8f16bb3"), looks := true }, kinds := [], alts := [], laidByText := true, laidKinds := [.sentinel, .sentinel, .sentinel, .sentinel, .sentinel], laidTests := true, laidLooks := .later }
def FnSpreadBooksUptoCardSaid : Prop := Claim7.holds Tryz.pinned (.plain (OpenSpec.upto fnSpreadBooksSpec)) fnSpreadBooksUptoCard
end Rows
end Go.Proofs.YtnknanppoenigaaGreatDoor
