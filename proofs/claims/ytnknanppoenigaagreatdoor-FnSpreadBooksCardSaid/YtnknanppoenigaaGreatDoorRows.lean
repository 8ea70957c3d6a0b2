/-
  NARROWER THAN 'FOR EVERY INPUT', by the rows' own cells (each row's printed sentence says how): FnSpreadBooks: ifaces, laid.
  DERIVED. THE GIVEN ROWS OF THIS SEAT. 1 by the template 'for every input the law returns true; each argument reads behind the call as it read before'; 0 by the template 'total and deterministic' (their statements: YtnknanppoenigaaGreatDoorTotals.lean).
  GIVEN WITH THE SEED: the statements are not yours to turn. If you find one false, say at which input.
  Laid BY PROGRAM, IN A SANDBOX (cutbox-rows.mjs): the forced cells as the released guide's own fill.sh prints them over the translation 3e5ea595bc119273… (all of the seat's roots in one cut). By AI agents, Wed Nov 11 2026. No macro, syntax, notation, axiom, sorry.
-/
import Derived.Test.YtnknanppoenigaaGreatDoorChecked
import GoSem.Claim
import GoSem.ClaimJoined
import GoSem.ClaimMapViews
import Derived.JoinedTies
import Derived.KernelRfl
namespace Go.Proofs.YtnknanppoenigaaGreatDoor
/- THE CELL 'sum', in the pinned program and in every row, IS THE sha256 OF THE DUMP (.gsa) THAT YtnknanppoenigaaGreatDoorProg.lean LOADS. Nothing in Lean hashes anything: it is a label: what it is worth is what the hold of that sum in a sandbox is worth. -/
noncomputable def Tryz.pinned : Pinned := { name := "ytnknanppoenigaagreatdoor", sum := "3e5ea595bc119273741f08e00a3cbaa5b446f69d80b12027ead0ac5f99b2f6d5", checked := Tryz.checked }
namespace Rows
def none {H : Type} : Left H := { results := [], args := [] }

/- WHAT THE LISTED PACKAGE-LEVEL VARIABLES READ AS WHEN THE CALL BEGINS. Each datum BY PROGRAM (the guide's laid-datum.mjs) off the statement by which the dump's own 'gosem.cut.vars' lays the variable. In a bare row this is a premise. The card (YtnknanppoenigaaGreatDoorCards.lean) ties it to the program's text. -/
def laid_loop_example_g00040_impl_errBad {H : Type} : DataW H := .iface "*errors.errorString" (.ptr (.agg [.lit (.string [98, 111, 111, 107, 115, 32, 116, 104, 97, 116, 32, 97, 114, 101, 32, 110, 111, 110, 101])]))
def laid_loop_example_g00040_impl_errEntry {H : Type} : DataW H := .iface "*errors.errorString" (.ptr (.agg [.lit (.string [97, 110, 32, 101, 110, 116, 114, 121, 32, 116, 104, 97, 116, 32, 105, 115, 32, 110, 111, 110, 101])]))
def laid_loop_example_g00040_impl_errNone {H : Type} : DataW H := .iface "*errors.errorString" (.ptr (.agg [.lit (.string [110, 111, 32, 115, 117, 99, 104, 32, 112, 101, 114, 105, 111, 100])]))
def laid_loop_example_g00040_impl_errShut {H : Type} : DataW H := .iface "*errors.errorString" (.ptr (.agg [.lit (.string [97, 32, 112, 101, 114, 105, 111, 100, 32, 116, 104, 97, 116, 32, 105, 115, 32, 99, 108, 111, 115, 101, 100])]))
def laid_loop_example_g00040_impl_errFull {H : Type} : DataW H := .iface "*errors.errorString" (.ptr (.agg [.lit (.string [98, 111, 111, 107, 115, 32, 116, 104, 97, 116, 32, 97, 114, 101, 32, 102, 117, 108, 108])]))

/-- 'laws.FnSpreadBooks': WHATEVER THE INPUT: true; the input reads as it did. -/
def fnSpreadBooksSpec : ChangeSpec := { name := "fnSpreadBooks", vars := ["loop.example/g00040/impl.errBad", "loop.example/g00040/impl.errEntry", "loop.example/g00040/impl.errNone", "loop.example/g00040/impl.errShut", "loop.example/g00040/impl.errFull"], fn := fun _ => fun
  | [d, g1, g2, g3, g4, g5] => { results := [.lit (.bool true)], args := [d], vars := [g1, g2, g3, g4, g5] }
  | _ => none }
def fnSpreadBooksRow : OpenClaim := { program := "ytnknanppoenigaagreatdoor", sum := "3e5ea595bc119273741f08e00a3cbaa5b446f69d80b12027ead0ac5f99b2f6d5", func := "loop.example/g00040/laws.FnSpreadBooks", spec := "fnSpreadBooks", inPlace := ["internal/reflectlite.TypeOf"], unfollowed := true, recurses := true, named := ["loop.example/g00040/impl.errBad", "loop.example/g00040/impl.errEntry", "loop.example/g00040/impl.errNone", "loop.example/g00040/impl.errShut", "loop.example/g00040/impl.errFull"], ifaces := true, plainKeys := false, apart := false, laid := [("loop.example/g00040/impl.errBad", laid_loop_example_g00040_impl_errBad), ("loop.example/g00040/impl.errEntry", laid_loop_example_g00040_impl_errEntry), ("loop.example/g00040/impl.errNone", laid_loop_example_g00040_impl_errNone), ("loop.example/g00040/impl.errShut", laid_loop_example_g00040_impl_errShut), ("loop.example/g00040/impl.errFull", laid_loop_example_g00040_impl_errFull)] }
def FnSpreadBooksSaid : Prop := fnSpreadBooksRow.holds Tryz.pinned (OpenSpec.ofChange fnSpreadBooksSpec)

/-- ITS FALSE NEIGHBOUR: 'it returns false'. Refute it at one input. -/
def fnSpreadBooksWrong : ChangeSpec := { name := "fnSpreadBooks", vars := ["loop.example/g00040/impl.errBad", "loop.example/g00040/impl.errEntry", "loop.example/g00040/impl.errNone", "loop.example/g00040/impl.errShut", "loop.example/g00040/impl.errFull"], fn := fun _ => fun
  | [d, g1, g2, g3, g4, g5] => { results := [.lit (.bool false)], args := [d], vars := [g1, g2, g3, g4, g5] }
  | _ => none }
def FnSpreadBooksWrongFalsely : Prop := fnSpreadBooksRow.holds Tryz.pinned (OpenSpec.ofChange fnSpreadBooksWrong)

/- THE SECOND FORM. 'bulk': how many values and letters a reading holds, each counted each time it is reached (what is shared counts as often as it is met; a slice's spare places count too). A statement '..UptoSaid' is the law's where the arguments, and the package variables that the reading takes, are together of bulk at most 1048576: NARROWER than '..Said'. Prove '..Said' where nothing that the law and all that it calls make is longer than what came in: it says more and counts as full. Else prove '..UptoSaid'. A law counts once. -/
mutual
def uptoBulk {H : Type} : DataW H → Nat
  | .lit (.string bytes) => bytes.length + 1
  | .lit _ => 1
  | .nil => 1
  | .ptr d => uptoBulk d + 1
  | .slice elems spare => uptoBulkAll elems + uptoBulkAll spare + 1
  | .agg parts => uptoBulkAll parts + 1
  | .iface _ d => uptoBulk d + 1
  | .map entries => uptoBulkEntries entries + 1
  | .held _ => 1
def uptoBulkAll {H : Type} : List (DataW H) → Nat
  | [] => 0
  | d :: r => uptoBulk d + uptoBulkAll r
def uptoBulkEntries {H : Type} : List (Lit × DataW H) → Nat
  | [] => 0
  | x :: r => uptoBulkEntry x + uptoBulkEntries r
def uptoBulkEntry {H : Type} : Lit × DataW H → Nat
  | (.string bytes, d) => bytes.length + uptoBulk d + 1
  | (_, d) => uptoBulk d + 1
 end
def uptoSmall : (H : Type) → List (DataW H) → Bool := fun _ ds => decide (uptoBulkAll ds ≤ 1048576)
def OpenSpec.upto (s : _root_.Go.ChangeSpec) : _root_.Go.OpenSpec := { _root_.Go.OpenSpec.ofChange s with cond := some uptoSmall }

/-- 'laws.FnSpreadBooks', WHERE WHAT IT READS IS OF BULK AT MOST 1048576: true; the input reads as it did. -/
def fnSpreadBooksUptoRow : OpenClaim := { program := "ytnknanppoenigaagreatdoor", sum := "3e5ea595bc119273741f08e00a3cbaa5b446f69d80b12027ead0ac5f99b2f6d5", func := "loop.example/g00040/laws.FnSpreadBooks", spec := "fnSpreadBooks", inPlace := ["internal/reflectlite.TypeOf"], unfollowed := true, recurses := true, named := ["loop.example/g00040/impl.errBad", "loop.example/g00040/impl.errEntry", "loop.example/g00040/impl.errNone", "loop.example/g00040/impl.errShut", "loop.example/g00040/impl.errFull"], ifaces := true, plainKeys := false, apart := false, laid := [("loop.example/g00040/impl.errBad", laid_loop_example_g00040_impl_errBad), ("loop.example/g00040/impl.errEntry", laid_loop_example_g00040_impl_errEntry), ("loop.example/g00040/impl.errNone", laid_loop_example_g00040_impl_errNone), ("loop.example/g00040/impl.errShut", laid_loop_example_g00040_impl_errShut), ("loop.example/g00040/impl.errFull", laid_loop_example_g00040_impl_errFull)], narrowed := true }
def FnSpreadBooksUptoSaid : Prop := fnSpreadBooksUptoRow.holds Tryz.pinned (OpenSpec.upto fnSpreadBooksSpec)

end Rows
end Go.Proofs.YtnknanppoenigaaGreatDoor
