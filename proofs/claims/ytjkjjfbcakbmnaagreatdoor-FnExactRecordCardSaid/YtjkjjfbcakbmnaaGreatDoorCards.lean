/-
  DERIVED. GIVEN WITH THE SEED: THE CARDS: each row of YtjkjjfbcakbmnaaGreatDoorRows.lean that lists a variable, with what it lists TIED to the program's text (the seventh form; the later family's looks); each row that meets fmt, with fmt's text TOLD by the authors' own Lean function (tested against real Go, not proved from fmt's source: count such statements apart). THE CARD IS WHAT COUNTS. Prove the row's statement (the work); the ties are given (YtjkjjfbcakbmnaaGreatDoorTie.lean); close each card by the builder's one call (the guide's Derived/Test/ToyasCard.lean, 'card_holds'). Laid BY PROGRAM, IN A SANDBOX (cutbox-door.mjs). By AI agents, Wed Nov 11 2026. No macro, syntax, notation, axiom, sorry.
-/
import Derived.Test.YtjkjjfbcakbmnaaGreatDoorRows
import GoSem.ClaimSeven
namespace Go.Proofs.YtjkjjfbcakbmnaaGreatDoor
namespace Rows

/-- THE TIED CARD OF 'laws.FnSpreadBooks'. -/
def fnSpreadBooksCard : Claim7 := { stood := { row := fnSpreadBooksRow, standIns := [], harness := (true, "c722cbda02e403f4850410b9aa54fed5e771a3f54d0af8f059b219e727dcc9e8"), looks := true }, kinds := [], alts := [], laidByText := true, laidKinds := [.sentinel, .sentinel, .sentinel, .sentinel, .sentinel], laidTests := true, laidLooks := .later }
def FnSpreadBooksCardSaid : Prop := Claim7.holds Tryz.pinned (.plain (OpenSpec.ofChange fnSpreadBooksSpec)) fnSpreadBooksCard

/-- THE TIED CARD OF 'laws.FnExactRecord'. -/
def fnExactRecordCard : Claim7 := { stood := { row := fnExactRecordRow, standIns := [], harness := (true, "c722cbda02e403f4850410b9aa54fed5e771a3f54d0af8f059b219e727dcc9e8"), looks := true }, kinds := [], alts := [], laidByText := true, laidKinds := [.sentinel, .sentinel, .sentinel, .sentinel, .sentinel], laidTests := true, laidLooks := .later }
def FnExactRecordCardSaid : Prop := Claim7.holds Tryz.pinned (.plain (OpenSpec.ofChange fnExactRecordSpec)) fnExactRecordCard

/-- THE SECOND FORM's CARD OF 'laws.FnSpreadBooks'. -/
def fnSpreadBooksUptoCard : Claim7 := { stood := { row := fnSpreadBooksUptoRow, standIns := [], harness := (true, "c722cbda02e403f4850410b9aa54fed5e771a3f54d0af8f059b219e727dcc9e8"), looks := true }, kinds := [], alts := [], laidByText := true, laidKinds := [.sentinel, .sentinel, .sentinel, .sentinel, .sentinel], laidTests := true, laidLooks := .later }
def FnSpreadBooksUptoCardSaid : Prop := Claim7.holds Tryz.pinned (.plain (OpenSpec.upto fnSpreadBooksSpec)) fnSpreadBooksUptoCard

/-- THE SECOND FORM's CARD OF 'laws.FnExactRecord'. -/
def fnExactRecordUptoCard : Claim7 := { stood := { row := fnExactRecordUptoRow, standIns := [], harness := (true, "c722cbda02e403f4850410b9aa54fed5e771a3f54d0af8f059b219e727dcc9e8"), looks := true }, kinds := [], alts := [], laidByText := true, laidKinds := [.sentinel, .sentinel, .sentinel, .sentinel, .sentinel], laidTests := true, laidLooks := .later }
def FnExactRecordUptoCardSaid : Prop := Claim7.holds Tryz.pinned (.plain (OpenSpec.upto fnExactRecordSpec)) fnExactRecordUptoCard
end Rows
end Go.Proofs.YtjkjjfbcakbmnaaGreatDoor
