/-
  DERIVED. GIVEN WITH THE SEED: THE CARDS: each row of YtjkjjfbcakbmnaaDoorRows.lean that lists a variable, with what it lists TIED to the program's text (the seventh form; the later family's looks); each row that meets fmt, with fmt's text TOLD by the authors' own Lean function (tested against real Go, not proved from fmt's source: count such statements apart). THE CARD IS WHAT COUNTS. Prove the row's statement (the work); the ties are given (YtjkjjfbcakbmnaaDoorTie.lean); close each card by the builder's one call (the guide's Derived/Test/ToyasCard.lean, 'card_holds'). Laid BY PROGRAM, IN A SANDBOX (cutbox-door.mjs). By AI agents, Wed Nov 11 2026. No macro, syntax, notation, axiom, sorry.
-/
import Derived.Test.YtjkjjfbcakbmnaaDoorRows
import GoSem.ClaimSeven
namespace Go.Proofs.YtjkjjfbcakbmnaaDoor
namespace Rows

/-- THE TIED CARD OF 'laws.FnBooksShut'. -/
def fnBooksShutCard : Claim7 := { stood := { row := fnBooksShutRow, standIns := [], harness := (true, "87a19f17890a4fb460bafde0f8b614ab5ee7eaae8867118749596e30f05f8c9f"), looks := true }, kinds := [], alts := [], laidByText := true, laidKinds := [.sentinel, .sentinel, .sentinel, .sentinel, .sentinel], laidTests := true, laidLooks := .later }
def FnBooksShutCardSaid : Prop := Claim7.holds Tryd.pinned (.plain (OpenSpec.ofChange fnBooksShutSpec)) fnBooksShutCard

/-- THE SECOND FORM's CARD OF 'laws.FnBooksShut'. -/
def fnBooksShutUptoCard : Claim7 := { stood := { row := fnBooksShutUptoRow, standIns := [], harness := (true, "87a19f17890a4fb460bafde0f8b614ab5ee7eaae8867118749596e30f05f8c9f"), looks := true }, kinds := [], alts := [], laidByText := true, laidKinds := [.sentinel, .sentinel, .sentinel, .sentinel, .sentinel], laidTests := true, laidLooks := .later }
def FnBooksShutUptoCardSaid : Prop := Claim7.holds Tryd.pinned (.plain (OpenSpec.upto fnBooksShutSpec)) fnBooksShutUptoCard
end Rows
end Go.Proofs.YtjkjjfbcakbmnaaDoor
