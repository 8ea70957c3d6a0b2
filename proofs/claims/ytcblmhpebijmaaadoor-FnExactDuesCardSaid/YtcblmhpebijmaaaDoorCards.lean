/-
  DERIVED. GIVEN WITH THE SEED: THE CARDS: each row of YtcblmhpebijmaaaDoorRows.lean that lists a variable, with what it lists TIED to the program's text (the seventh form; the later family's looks); each row that meets fmt, with fmt's text TOLD by the authors' own Lean function (tested against real Go, not proved from fmt's source: count such statements apart). THE CARD IS WHAT COUNTS. Prove the row's statement (the work); the ties are given (YtcblmhpebijmaaaDoorTie.lean); close each card by the builder's one call (the guide's Derived/Test/ToyasCard.lean, 'card_holds'). Laid BY PROGRAM, IN A SANDBOX (cutbox-door.mjs). By AI agents, Wed Nov 11 2026. No macro, syntax, notation, axiom, sorry.
-/
import Derived.Test.YtcblmhpebijmaaaDoorRows
import GoSem.ClaimSeven
namespace Go.Proofs.YtcblmhpebijmaaaDoor
namespace Rows

/-- THE TIED CARD OF 'laws.FnExactDues'. -/
def fnExactDuesCard : Claim7 := { stood := { row := fnExactDuesRow, standIns := [], harness := (true, "4626316d5cc1a3c7550f3c83d6ba78fc3b698be29d0a4edd037d706f718a6d13"), looks := false }, kinds := [], alts := [], laidByText := true, laidKinds := [.data], laidTests := true, laidLooks := .later }
def FnExactDuesCardSaid : Prop := Claim7.holds Tryd.pinned (.plain (OpenSpec.ofChange fnExactDuesSpec)) fnExactDuesCard

/-- THE SECOND FORM's CARD OF 'laws.FnExactDues'. -/
def fnExactDuesUptoCard : Claim7 := { stood := { row := fnExactDuesUptoRow, standIns := [], harness := (true, "4626316d5cc1a3c7550f3c83d6ba78fc3b698be29d0a4edd037d706f718a6d13"), looks := false }, kinds := [], alts := [], laidByText := true, laidKinds := [.data], laidTests := true, laidLooks := .later }
def FnExactDuesUptoCardSaid : Prop := Claim7.holds Tryd.pinned (.plain (OpenSpec.upto fnExactDuesSpec)) fnExactDuesUptoCard
end Rows
end Go.Proofs.YtcblmhpebijmaaaDoor
