/-
  No cell of these rows narrows 'for every input' (looked for: loops, veiled, ifaces, maps, wideKeys, modest, calm, conditions, laid).
  DERIVED. THE GIVEN ROWS OF THIS SEAT. 11 by the template 'for every input the law returns true; each argument reads behind the call as it read before'; 0 by the template 'total and deterministic' (their statements: YtphmnkcfjgallaaTotals.lean).
  GIVEN WITH THE SEED: the statements are not yours to turn. If you find one false, say at which input.
  Laid BY PROGRAM, IN A SANDBOX (cutbox-rows.mjs): the forced cells as the released guide's own fill.sh prints them over the translation 7cfb4ae937e685e4… (all of the seat's roots in one cut). By AI agents, Wed Nov 11 2026. No macro, syntax, notation, axiom, sorry.
-/
import Derived.Test.YtphmnkcfjgallaaChecked
import GoSem.Claim
import GoSem.ClaimJoined
import GoSem.ClaimMapViews
import Derived.JoinedTies
import Derived.KernelRfl
namespace Go.Proofs.Ytphmnkcfjgallaa
/- THE CELL 'sum', in the pinned program and in every row, IS THE sha256 OF THE DUMP (.gsa) THAT YtphmnkcfjgallaaProg.lean LOADS. Nothing in Lean hashes anything: it is a label: what it is worth is what the hold of that sum in a sandbox is worth. -/
noncomputable def Try.pinned : Pinned := { name := "ytphmnkcfjgallaa", sum := "7cfb4ae937e685e4d74d1e161af3dbcf42c2cac71286482894bc9f18e81e3b26", checked := Try.checked }
namespace Rows
def none {H : Type} : Left H := { results := [], args := [] }

/-- 'laws.FnReversed': WHATEVER THE INPUT: true; the input reads as it did. -/
def fnReversedSpec : ChangeSpec := { name := "fnReversed", fn := fun _ => fun
  | [d] => { results := [.lit (.bool true)], args := [d] }
  | _ => none }
def fnReversedRow : OpenClaim := { program := "ytphmnkcfjgallaa", sum := "7cfb4ae937e685e4d74d1e161af3dbcf42c2cac71286482894bc9f18e81e3b26", func := "loop.example/g00040/laws.FnReversed", spec := "fnReversed", unfollowed := true, recurses := true, plainKeys := false, apart := false }
def FnReversedSaid : Prop := fnReversedRow.holds Try.pinned (OpenSpec.ofChange fnReversedSpec)

/-- ITS FALSE NEIGHBOUR: 'it returns false'. Refute it at one input. -/
def fnReversedWrong : ChangeSpec := { name := "fnReversed", fn := fun _ => fun
  | [d] => { results := [.lit (.bool false)], args := [d] }
  | _ => none }
def FnReversedWrongFalsely : Prop := fnReversedRow.holds Try.pinned (OpenSpec.ofChange fnReversedWrong)

/-- 'laws.FnPosted': WHATEVER THE INPUT: true; the input reads as it did. -/
def fnPostedSpec : ChangeSpec := { name := "fnPosted", fn := fun _ => fun
  | [d] => { results := [.lit (.bool true)], args := [d] }
  | _ => none }
def fnPostedRow : OpenClaim := { program := "ytphmnkcfjgallaa", sum := "7cfb4ae937e685e4d74d1e161af3dbcf42c2cac71286482894bc9f18e81e3b26", func := "loop.example/g00040/laws.FnPosted", spec := "fnPosted", unfollowed := true, recurses := true, plainKeys := false, apart := false }
def FnPostedSaid : Prop := fnPostedRow.holds Try.pinned (OpenSpec.ofChange fnPostedSpec)

/-- ITS FALSE NEIGHBOUR: 'it returns false'. Refute it at one input. -/
def fnPostedWrong : ChangeSpec := { name := "fnPosted", fn := fun _ => fun
  | [d] => { results := [.lit (.bool false)], args := [d] }
  | _ => none }
def FnPostedWrongFalsely : Prop := fnPostedRow.holds Try.pinned (OpenSpec.ofChange fnPostedWrong)

/-- 'laws.FnMovesJoined': WHATEVER THE INPUT: true; the input reads as it did. -/
def fnMovesJoinedSpec : ChangeSpec := { name := "fnMovesJoined", fn := fun _ => fun
  | [d] => { results := [.lit (.bool true)], args := [d] }
  | _ => none }
def fnMovesJoinedRow : OpenClaim := { program := "ytphmnkcfjgallaa", sum := "7cfb4ae937e685e4d74d1e161af3dbcf42c2cac71286482894bc9f18e81e3b26", func := "loop.example/g00040/laws.FnMovesJoined", spec := "fnMovesJoined", unfollowed := true, recurses := true, plainKeys := false, apart := false }
def FnMovesJoinedSaid : Prop := fnMovesJoinedRow.holds Try.pinned (OpenSpec.ofChange fnMovesJoinedSpec)

/-- ITS FALSE NEIGHBOUR: 'it returns false'. Refute it at one input. -/
def fnMovesJoinedWrong : ChangeSpec := { name := "fnMovesJoined", fn := fun _ => fun
  | [d] => { results := [.lit (.bool false)], args := [d] }
  | _ => none }
def FnMovesJoinedWrongFalsely : Prop := fnMovesJoinedRow.holds Try.pinned (OpenSpec.ofChange fnMovesJoinedWrong)

/-- 'laws.FnExactBooksOk': WHATEVER THE INPUT: true; the input reads as it did. -/
def fnExactBooksOkSpec : ChangeSpec := { name := "fnExactBooksOk", fn := fun _ => fun
  | [d] => { results := [.lit (.bool true)], args := [d] }
  | _ => none }
def fnExactBooksOkRow : OpenClaim := { program := "ytphmnkcfjgallaa", sum := "7cfb4ae937e685e4d74d1e161af3dbcf42c2cac71286482894bc9f18e81e3b26", func := "loop.example/g00040/laws.FnExactBooksOk", spec := "fnExactBooksOk", unfollowed := true, recurses := true, plainKeys := false, apart := false }
def FnExactBooksOkSaid : Prop := fnExactBooksOkRow.holds Try.pinned (OpenSpec.ofChange fnExactBooksOkSpec)

/-- ITS FALSE NEIGHBOUR: 'it returns false'. Refute it at one input. -/
def fnExactBooksOkWrong : ChangeSpec := { name := "fnExactBooksOk", fn := fun _ => fun
  | [d] => { results := [.lit (.bool false)], args := [d] }
  | _ => none }
def FnExactBooksOkWrongFalsely : Prop := fnExactBooksOkRow.holds Try.pinned (OpenSpec.ofChange fnExactBooksOkWrong)

/-- 'laws.FnExactSpread': WHATEVER THE INPUT: true; the input reads as it did. -/
def fnExactSpreadSpec : ChangeSpec := { name := "fnExactSpread", fn := fun _ => fun
  | [d1, d2, d3, d4, d5, d6] => { results := [.lit (.bool true)], args := [d1, d2, d3, d4, d5, d6] }
  | _ => none }
def fnExactSpreadRow : OpenClaim := { program := "ytphmnkcfjgallaa", sum := "7cfb4ae937e685e4d74d1e161af3dbcf42c2cac71286482894bc9f18e81e3b26", func := "loop.example/g00040/laws.FnExactSpread", spec := "fnExactSpread", unfollowed := true, recurses := true, plainKeys := false, apart := false }
def FnExactSpreadSaid : Prop := fnExactSpreadRow.holds Try.pinned (OpenSpec.ofChange fnExactSpreadSpec)

/-- ITS FALSE NEIGHBOUR: 'it returns false'. Refute it at one input. -/
def fnExactSpreadWrong : ChangeSpec := { name := "fnExactSpread", fn := fun _ => fun
  | [d1, d2, d3, d4, d5, d6] => { results := [.lit (.bool false)], args := [d1, d2, d3, d4, d5, d6] }
  | _ => none }
def FnExactSpreadWrongFalsely : Prop := fnExactSpreadRow.holds Try.pinned (OpenSpec.ofChange fnExactSpreadWrong)

/-- 'laws.FnExactTrial': WHATEVER THE INPUT: true; the input reads as it did. -/
def fnExactTrialSpec : ChangeSpec := { name := "fnExactTrial", fn := fun _ => fun
  | [d1, d2, d3] => { results := [.lit (.bool true)], args := [d1, d2, d3] }
  | _ => none }
def fnExactTrialRow : OpenClaim := { program := "ytphmnkcfjgallaa", sum := "7cfb4ae937e685e4d74d1e161af3dbcf42c2cac71286482894bc9f18e81e3b26", func := "loop.example/g00040/laws.FnExactTrial", spec := "fnExactTrial", unfollowed := true, recurses := true, plainKeys := false, apart := false }
def FnExactTrialSaid : Prop := fnExactTrialRow.holds Try.pinned (OpenSpec.ofChange fnExactTrialSpec)

/-- ITS FALSE NEIGHBOUR: 'it returns false'. Refute it at one input. -/
def fnExactTrialWrong : ChangeSpec := { name := "fnExactTrial", fn := fun _ => fun
  | [d1, d2, d3] => { results := [.lit (.bool false)], args := [d1, d2, d3] }
  | _ => none }
def FnExactTrialWrongFalsely : Prop := fnExactTrialRow.holds Try.pinned (OpenSpec.ofChange fnExactTrialWrong)

/-- 'laws.FnExactReverse': WHATEVER THE INPUT: true; the input reads as it did. -/
def fnExactReverseSpec : ChangeSpec := { name := "fnExactReverse", fn := fun _ => fun
  | [d1, d2, d3, d4] => { results := [.lit (.bool true)], args := [d1, d2, d3, d4] }
  | _ => none }
def fnExactReverseRow : OpenClaim := { program := "ytphmnkcfjgallaa", sum := "7cfb4ae937e685e4d74d1e161af3dbcf42c2cac71286482894bc9f18e81e3b26", func := "loop.example/g00040/laws.FnExactReverse", spec := "fnExactReverse", unfollowed := true, recurses := true, plainKeys := false, apart := false }
def FnExactReverseSaid : Prop := fnExactReverseRow.holds Try.pinned (OpenSpec.ofChange fnExactReverseSpec)

/-- ITS FALSE NEIGHBOUR: 'it returns false'. Refute it at one input. -/
def fnExactReverseWrong : ChangeSpec := { name := "fnExactReverse", fn := fun _ => fun
  | [d1, d2, d3, d4] => { results := [.lit (.bool false)], args := [d1, d2, d3, d4] }
  | _ => none }
def FnExactReverseWrongFalsely : Prop := fnExactReverseRow.holds Try.pinned (OpenSpec.ofChange fnExactReverseWrong)

/-- 'laws.FnExactPost': WHATEVER THE INPUT: true; the input reads as it did. -/
def fnExactPostSpec : ChangeSpec := { name := "fnExactPost", fn := fun _ => fun
  | [d1, d2, d3] => { results := [.lit (.bool true)], args := [d1, d2, d3] }
  | _ => none }
def fnExactPostRow : OpenClaim := { program := "ytphmnkcfjgallaa", sum := "7cfb4ae937e685e4d74d1e161af3dbcf42c2cac71286482894bc9f18e81e3b26", func := "loop.example/g00040/laws.FnExactPost", spec := "fnExactPost", unfollowed := true, recurses := true, plainKeys := false, apart := false }
def FnExactPostSaid : Prop := fnExactPostRow.holds Try.pinned (OpenSpec.ofChange fnExactPostSpec)

/-- ITS FALSE NEIGHBOUR: 'it returns false'. Refute it at one input. -/
def fnExactPostWrong : ChangeSpec := { name := "fnExactPost", fn := fun _ => fun
  | [d1, d2, d3] => { results := [.lit (.bool false)], args := [d1, d2, d3] }
  | _ => none }
def FnExactPostWrongFalsely : Prop := fnExactPostRow.holds Try.pinned (OpenSpec.ofChange fnExactPostWrong)

/-- 'laws.FnExactMoves': WHATEVER THE INPUT: true; the input reads as it did. -/
def fnExactMovesSpec : ChangeSpec := { name := "fnExactMoves", fn := fun _ => fun
  | [d1, d2] => { results := [.lit (.bool true)], args := [d1, d2] }
  | _ => none }
def fnExactMovesRow : OpenClaim := { program := "ytphmnkcfjgallaa", sum := "7cfb4ae937e685e4d74d1e161af3dbcf42c2cac71286482894bc9f18e81e3b26", func := "loop.example/g00040/laws.FnExactMoves", spec := "fnExactMoves", unfollowed := true, recurses := true, plainKeys := false, apart := false }
def FnExactMovesSaid : Prop := fnExactMovesRow.holds Try.pinned (OpenSpec.ofChange fnExactMovesSpec)

/-- ITS FALSE NEIGHBOUR: 'it returns false'. Refute it at one input. -/
def fnExactMovesWrong : ChangeSpec := { name := "fnExactMoves", fn := fun _ => fun
  | [d1, d2] => { results := [.lit (.bool false)], args := [d1, d2] }
  | _ => none }
def FnExactMovesWrongFalsely : Prop := fnExactMovesRow.holds Try.pinned (OpenSpec.ofChange fnExactMovesWrong)

/-- 'laws.FnExactCloseYear': WHATEVER THE INPUT: true; the input reads as it did. -/
def fnExactCloseYearSpec : ChangeSpec := { name := "fnExactCloseYear", fn := fun _ => fun
  | [d1, d2] => { results := [.lit (.bool true)], args := [d1, d2] }
  | _ => none }
def fnExactCloseYearRow : OpenClaim := { program := "ytphmnkcfjgallaa", sum := "7cfb4ae937e685e4d74d1e161af3dbcf42c2cac71286482894bc9f18e81e3b26", func := "loop.example/g00040/laws.FnExactCloseYear", spec := "fnExactCloseYear", unfollowed := true, recurses := true, plainKeys := false, apart := false }
def FnExactCloseYearSaid : Prop := fnExactCloseYearRow.holds Try.pinned (OpenSpec.ofChange fnExactCloseYearSpec)

/-- ITS FALSE NEIGHBOUR: 'it returns false'. Refute it at one input. -/
def fnExactCloseYearWrong : ChangeSpec := { name := "fnExactCloseYear", fn := fun _ => fun
  | [d1, d2] => { results := [.lit (.bool false)], args := [d1, d2] }
  | _ => none }
def FnExactCloseYearWrongFalsely : Prop := fnExactCloseYearRow.holds Try.pinned (OpenSpec.ofChange fnExactCloseYearWrong)

/-- 'laws.FnExactShut': WHATEVER THE INPUT: true; the input reads as it did. -/
def fnExactShutSpec : ChangeSpec := { name := "fnExactShut", fn := fun _ => fun
  | [d] => { results := [.lit (.bool true)], args := [d] }
  | _ => none }
def fnExactShutRow : OpenClaim := { program := "ytphmnkcfjgallaa", sum := "7cfb4ae937e685e4d74d1e161af3dbcf42c2cac71286482894bc9f18e81e3b26", func := "loop.example/g00040/laws.FnExactShut", spec := "fnExactShut", unfollowed := true, recurses := true, plainKeys := false, apart := false }
def FnExactShutSaid : Prop := fnExactShutRow.holds Try.pinned (OpenSpec.ofChange fnExactShutSpec)

/-- ITS FALSE NEIGHBOUR: 'it returns false'. Refute it at one input. -/
def fnExactShutWrong : ChangeSpec := { name := "fnExactShut", fn := fun _ => fun
  | [d] => { results := [.lit (.bool false)], args := [d] }
  | _ => none }
def FnExactShutWrongFalsely : Prop := fnExactShutRow.holds Try.pinned (OpenSpec.ofChange fnExactShutWrong)

/- THE SECOND FORM. 'bulk': how many values and letters a reading holds, each counted each time it is reached (what is shared counts as often as it is met; a slice's spare places count too). A statement '..UptoSaid' is the law's where the arguments, and the package variables that the reading takes, are together of bulk at most 1048576: NARROWER than '..Said'. Prove '..Said' where nothing that the law and all that it calls make is longer than what came in: it says more and counts as full. Else prove '..UptoSaid'. A law counts once. -/
mutual
def uptoBulk {H : Type} : DataW H → Nat
  | .lit (.string bytes) => bytes.length + 1
  | .lit _ => 1
  | .nil => 1
  | .ptr d => uptoBulk d + 1
  | .slice elems spare => uptoBulkAll elems + uptoBulkAll spare + 1
  | .agg parts => uptoBulkAll parts + 1
  | .iface _ d => uptoBulk d + 1
  | .map entries => uptoBulkEntries entries + 1
  | .held _ => 1
def uptoBulkAll {H : Type} : List (DataW H) → Nat
  | [] => 0
  | d :: r => uptoBulk d + uptoBulkAll r
def uptoBulkEntries {H : Type} : List (Lit × DataW H) → Nat
  | [] => 0
  | x :: r => uptoBulkEntry x + uptoBulkEntries r
def uptoBulkEntry {H : Type} : Lit × DataW H → Nat
  | (.string bytes, d) => bytes.length + uptoBulk d + 1
  | (_, d) => uptoBulk d + 1
 end
def uptoSmall : (H : Type) → List (DataW H) → Bool := fun _ ds => decide (uptoBulkAll ds ≤ 1048576)
def OpenSpec.upto (s : _root_.Go.ChangeSpec) : _root_.Go.OpenSpec := { _root_.Go.OpenSpec.ofChange s with cond := some uptoSmall }

/-- 'laws.FnReversed', WHERE WHAT IT READS IS OF BULK AT MOST 1048576: true; the input reads as it did. -/
def fnReversedUptoRow : OpenClaim := { program := "ytphmnkcfjgallaa", sum := "7cfb4ae937e685e4d74d1e161af3dbcf42c2cac71286482894bc9f18e81e3b26", func := "loop.example/g00040/laws.FnReversed", spec := "fnReversed", unfollowed := true, recurses := true, plainKeys := false, apart := false, narrowed := true }
def FnReversedUptoSaid : Prop := fnReversedUptoRow.holds Try.pinned (OpenSpec.upto fnReversedSpec)

/-- 'laws.FnPosted', WHERE WHAT IT READS IS OF BULK AT MOST 1048576: true; the input reads as it did. -/
def fnPostedUptoRow : OpenClaim := { program := "ytphmnkcfjgallaa", sum := "7cfb4ae937e685e4d74d1e161af3dbcf42c2cac71286482894bc9f18e81e3b26", func := "loop.example/g00040/laws.FnPosted", spec := "fnPosted", unfollowed := true, recurses := true, plainKeys := false, apart := false, narrowed := true }
def FnPostedUptoSaid : Prop := fnPostedUptoRow.holds Try.pinned (OpenSpec.upto fnPostedSpec)

/-- 'laws.FnMovesJoined', WHERE WHAT IT READS IS OF BULK AT MOST 1048576: true; the input reads as it did. -/
def fnMovesJoinedUptoRow : OpenClaim := { program := "ytphmnkcfjgallaa", sum := "7cfb4ae937e685e4d74d1e161af3dbcf42c2cac71286482894bc9f18e81e3b26", func := "loop.example/g00040/laws.FnMovesJoined", spec := "fnMovesJoined", unfollowed := true, recurses := true, plainKeys := false, apart := false, narrowed := true }
def FnMovesJoinedUptoSaid : Prop := fnMovesJoinedUptoRow.holds Try.pinned (OpenSpec.upto fnMovesJoinedSpec)

/-- 'laws.FnExactBooksOk', WHERE WHAT IT READS IS OF BULK AT MOST 1048576: true; the input reads as it did. -/
def fnExactBooksOkUptoRow : OpenClaim := { program := "ytphmnkcfjgallaa", sum := "7cfb4ae937e685e4d74d1e161af3dbcf42c2cac71286482894bc9f18e81e3b26", func := "loop.example/g00040/laws.FnExactBooksOk", spec := "fnExactBooksOk", unfollowed := true, recurses := true, plainKeys := false, apart := false, narrowed := true }
def FnExactBooksOkUptoSaid : Prop := fnExactBooksOkUptoRow.holds Try.pinned (OpenSpec.upto fnExactBooksOkSpec)

/-- 'laws.FnExactSpread', WHERE WHAT IT READS IS OF BULK AT MOST 1048576: true; the input reads as it did. -/
def fnExactSpreadUptoRow : OpenClaim := { program := "ytphmnkcfjgallaa", sum := "7cfb4ae937e685e4d74d1e161af3dbcf42c2cac71286482894bc9f18e81e3b26", func := "loop.example/g00040/laws.FnExactSpread", spec := "fnExactSpread", unfollowed := true, recurses := true, plainKeys := false, apart := false, narrowed := true }
def FnExactSpreadUptoSaid : Prop := fnExactSpreadUptoRow.holds Try.pinned (OpenSpec.upto fnExactSpreadSpec)

/-- 'laws.FnExactTrial', WHERE WHAT IT READS IS OF BULK AT MOST 1048576: true; the input reads as it did. -/
def fnExactTrialUptoRow : OpenClaim := { program := "ytphmnkcfjgallaa", sum := "7cfb4ae937e685e4d74d1e161af3dbcf42c2cac71286482894bc9f18e81e3b26", func := "loop.example/g00040/laws.FnExactTrial", spec := "fnExactTrial", unfollowed := true, recurses := true, plainKeys := false, apart := false, narrowed := true }
def FnExactTrialUptoSaid : Prop := fnExactTrialUptoRow.holds Try.pinned (OpenSpec.upto fnExactTrialSpec)

/-- 'laws.FnExactReverse', WHERE WHAT IT READS IS OF BULK AT MOST 1048576: true; the input reads as it did. -/
def fnExactReverseUptoRow : OpenClaim := { program := "ytphmnkcfjgallaa", sum := "7cfb4ae937e685e4d74d1e161af3dbcf42c2cac71286482894bc9f18e81e3b26", func := "loop.example/g00040/laws.FnExactReverse", spec := "fnExactReverse", unfollowed := true, recurses := true, plainKeys := false, apart := false, narrowed := true }
def FnExactReverseUptoSaid : Prop := fnExactReverseUptoRow.holds Try.pinned (OpenSpec.upto fnExactReverseSpec)

/-- 'laws.FnExactPost', WHERE WHAT IT READS IS OF BULK AT MOST 1048576: true; the input reads as it did. -/
def fnExactPostUptoRow : OpenClaim := { program := "ytphmnkcfjgallaa", sum := "7cfb4ae937e685e4d74d1e161af3dbcf42c2cac71286482894bc9f18e81e3b26", func := "loop.example/g00040/laws.FnExactPost", spec := "fnExactPost", unfollowed := true, recurses := true, plainKeys := false, apart := false, narrowed := true }
def FnExactPostUptoSaid : Prop := fnExactPostUptoRow.holds Try.pinned (OpenSpec.upto fnExactPostSpec)

/-- 'laws.FnExactMoves', WHERE WHAT IT READS IS OF BULK AT MOST 1048576: true; the input reads as it did. -/
def fnExactMovesUptoRow : OpenClaim := { program := "ytphmnkcfjgallaa", sum := "7cfb4ae937e685e4d74d1e161af3dbcf42c2cac71286482894bc9f18e81e3b26", func := "loop.example/g00040/laws.FnExactMoves", spec := "fnExactMoves", unfollowed := true, recurses := true, plainKeys := false, apart := false, narrowed := true }
def FnExactMovesUptoSaid : Prop := fnExactMovesUptoRow.holds Try.pinned (OpenSpec.upto fnExactMovesSpec)

/-- 'laws.FnExactCloseYear', WHERE WHAT IT READS IS OF BULK AT MOST 1048576: true; the input reads as it did. -/
def fnExactCloseYearUptoRow : OpenClaim := { program := "ytphmnkcfjgallaa", sum := "7cfb4ae937e685e4d74d1e161af3dbcf42c2cac71286482894bc9f18e81e3b26", func := "loop.example/g00040/laws.FnExactCloseYear", spec := "fnExactCloseYear", unfollowed := true, recurses := true, plainKeys := false, apart := false, narrowed := true }
def FnExactCloseYearUptoSaid : Prop := fnExactCloseYearUptoRow.holds Try.pinned (OpenSpec.upto fnExactCloseYearSpec)

/-- 'laws.FnExactShut', WHERE WHAT IT READS IS OF BULK AT MOST 1048576: true; the input reads as it did. -/
def fnExactShutUptoRow : OpenClaim := { program := "ytphmnkcfjgallaa", sum := "7cfb4ae937e685e4d74d1e161af3dbcf42c2cac71286482894bc9f18e81e3b26", func := "loop.example/g00040/laws.FnExactShut", spec := "fnExactShut", unfollowed := true, recurses := true, plainKeys := false, apart := false, narrowed := true }
def FnExactShutUptoSaid : Prop := fnExactShutUptoRow.holds Try.pinned (OpenSpec.upto fnExactShutSpec)

end Rows
end Go.Proofs.Ytphmnkcfjgallaa
