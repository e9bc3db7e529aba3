/-
  No cell of these rows narrows 'for every input' (looked for: loops, veiled, ifaces, maps, wideKeys, modest, calm, conditions, laid).
  DERIVED. THE GIVEN ROWS OF THIS SEAT. 9 by the template 'for every input the law returns true; each argument reads behind the call as it read before'; 0 by the template 'total and deterministic' (their statements: YtabmomjfdondnaaTotals.lean).
  GIVEN WITH THE SEED: the statements are not yours to turn. If you find one false, say at which input.
  Laid BY PROGRAM, IN A SANDBOX (cutbox-rows.mjs): the forced cells as the released guide's own fill.sh prints them over the translation d25bc2fd693c15dd… (all of the seat's roots in one cut). By AI agents, Wed Nov 11 2026. No macro, syntax, notation, axiom, sorry.
-/
import Derived.Test.YtabmomjfdondnaaChecked
import GoSem.Claim
import GoSem.ClaimJoined
import GoSem.ClaimMapViews
import Derived.JoinedTies
import Derived.KernelRfl
namespace Go.Proofs.Ytabmomjfdondnaa
/- THE CELL 'sum', in the pinned program and in every row, IS THE sha256 OF THE DUMP (.gsa) THAT YtabmomjfdondnaaProg.lean LOADS. Nothing in Lean hashes anything: it is a label: what it is worth is what the hold of that sum in a sandbox is worth. -/
noncomputable def Try.pinned : Pinned := { name := "ytabmomjfdondnaa", sum := "d25bc2fd693c15ddf4b5552c81812e83d43c37685a66de1a9561e74f2033c4be", checked := Try.checked }
namespace Rows
def none {H : Type} : Left H := { results := [], args := [] }

/-- 'laws.FnExactSolve': WHATEVER THE INPUT: true; the input reads as it did. -/
def fnExactSolveSpec : ChangeSpec := { name := "fnExactSolve", fn := fun _ => fun
  | [d1, d2] => { results := [.lit (.bool true)], args := [d1, d2] }
  | _ => none }
def fnExactSolveRow : OpenClaim := { program := "ytabmomjfdondnaa", sum := "d25bc2fd693c15ddf4b5552c81812e83d43c37685a66de1a9561e74f2033c4be", func := "loop.example/g01918/laws.FnExactSolve", spec := "fnExactSolve", unfollowed := true, recurses := true, apart := false }
def FnExactSolveSaid : Prop := fnExactSolveRow.holds Try.pinned (OpenSpec.ofChange fnExactSolveSpec)

/-- ITS FALSE NEIGHBOUR: 'it returns false'. Refute it at one input. -/
def fnExactSolveWrong : ChangeSpec := { name := "fnExactSolve", fn := fun _ => fun
  | [d1, d2] => { results := [.lit (.bool false)], args := [d1, d2] }
  | _ => none }
def FnExactSolveWrongFalsely : Prop := fnExactSolveRow.holds Try.pinned (OpenSpec.ofChange fnExactSolveWrong)

/-- 'laws.FnSolver': WHATEVER THE INPUT: true; the input reads as it did. -/
def fnSolverSpec : ChangeSpec := { name := "fnSolver", fn := fun _ => fun
  | [d] => { results := [.lit (.bool true)], args := [d] }
  | _ => none }
def fnSolverRow : OpenClaim := { program := "ytabmomjfdondnaa", sum := "d25bc2fd693c15ddf4b5552c81812e83d43c37685a66de1a9561e74f2033c4be", func := "loop.example/g01918/laws.FnSolver", spec := "fnSolver", unfollowed := true, recurses := true, apart := false }
def FnSolverSaid : Prop := fnSolverRow.holds Try.pinned (OpenSpec.ofChange fnSolverSpec)

/-- ITS FALSE NEIGHBOUR: 'it returns false'. Refute it at one input. -/
def fnSolverWrong : ChangeSpec := { name := "fnSolver", fn := fun _ => fun
  | [d] => { results := [.lit (.bool false)], args := [d] }
  | _ => none }
def FnSolverWrongFalsely : Prop := fnSolverRow.holds Try.pinned (OpenSpec.ofChange fnSolverWrong)

/-- 'laws.FnPartialRepairs': WHATEVER THE INPUT: true; the input reads as it did. -/
def fnPartialRepairsSpec : ChangeSpec := { name := "fnPartialRepairs", fn := fun _ => fun
  | [d] => { results := [.lit (.bool true)], args := [d] }
  | _ => none }
def fnPartialRepairsRow : OpenClaim := { program := "ytabmomjfdondnaa", sum := "d25bc2fd693c15ddf4b5552c81812e83d43c37685a66de1a9561e74f2033c4be", func := "loop.example/g01918/laws.FnPartialRepairs", spec := "fnPartialRepairs", unfollowed := true, recurses := true, apart := false }
def FnPartialRepairsSaid : Prop := fnPartialRepairsRow.holds Try.pinned (OpenSpec.ofChange fnPartialRepairsSpec)

/-- ITS FALSE NEIGHBOUR: 'it returns false'. Refute it at one input. -/
def fnPartialRepairsWrong : ChangeSpec := { name := "fnPartialRepairs", fn := fun _ => fun
  | [d] => { results := [.lit (.bool false)], args := [d] }
  | _ => none }
def FnPartialRepairsWrongFalsely : Prop := fnPartialRepairsRow.holds Try.pinned (OpenSpec.ofChange fnPartialRepairsWrong)

/-- 'laws.FnExactRepairFromFacts': WHATEVER THE INPUT: true; the input reads as it did. -/
def fnExactRepairFromFactsSpec : ChangeSpec := { name := "fnExactRepairFromFacts", fn := fun _ => fun
  | [d1, d2] => { results := [.lit (.bool true)], args := [d1, d2] }
  | _ => none }
def fnExactRepairFromFactsRow : OpenClaim := { program := "ytabmomjfdondnaa", sum := "d25bc2fd693c15ddf4b5552c81812e83d43c37685a66de1a9561e74f2033c4be", func := "loop.example/g01918/laws.FnExactRepairFromFacts", spec := "fnExactRepairFromFacts", unfollowed := true, recurses := true, apart := false }
def FnExactRepairFromFactsSaid : Prop := fnExactRepairFromFactsRow.holds Try.pinned (OpenSpec.ofChange fnExactRepairFromFactsSpec)

/-- ITS FALSE NEIGHBOUR: 'it returns false'. Refute it at one input. -/
def fnExactRepairFromFactsWrong : ChangeSpec := { name := "fnExactRepairFromFacts", fn := fun _ => fun
  | [d1, d2] => { results := [.lit (.bool false)], args := [d1, d2] }
  | _ => none }
def FnExactRepairFromFactsWrongFalsely : Prop := fnExactRepairFromFactsRow.holds Try.pinned (OpenSpec.ofChange fnExactRepairFromFactsWrong)

/-- 'laws.FnExactPartialRepairsUpTo': WHATEVER THE INPUT: true; the input reads as it did. -/
def fnExactPartialRepairsUpToSpec : ChangeSpec := { name := "fnExactPartialRepairsUpTo", fn := fun _ => fun
  | [d1, d2] => { results := [.lit (.bool true)], args := [d1, d2] }
  | _ => none }
def fnExactPartialRepairsUpToRow : OpenClaim := { program := "ytabmomjfdondnaa", sum := "d25bc2fd693c15ddf4b5552c81812e83d43c37685a66de1a9561e74f2033c4be", func := "loop.example/g01918/laws.FnExactPartialRepairsUpTo", spec := "fnExactPartialRepairsUpTo", unfollowed := true, recurses := true, apart := false }
def FnExactPartialRepairsUpToSaid : Prop := fnExactPartialRepairsUpToRow.holds Try.pinned (OpenSpec.ofChange fnExactPartialRepairsUpToSpec)

/-- ITS FALSE NEIGHBOUR: 'it returns false'. Refute it at one input. -/
def fnExactPartialRepairsUpToWrong : ChangeSpec := { name := "fnExactPartialRepairsUpTo", fn := fun _ => fun
  | [d1, d2] => { results := [.lit (.bool false)], args := [d1, d2] }
  | _ => none }
def FnExactPartialRepairsUpToWrongFalsely : Prop := fnExactPartialRepairsUpToRow.holds Try.pinned (OpenSpec.ofChange fnExactPartialRepairsUpToWrong)

/-- 'laws.FnExactIsValidRewriting': WHATEVER THE INPUT: true; the input reads as it did. -/
def fnExactIsValidRewritingSpec : ChangeSpec := { name := "fnExactIsValidRewriting", fn := fun _ => fun
  | [d1, d2] => { results := [.lit (.bool true)], args := [d1, d2] }
  | _ => none }
def fnExactIsValidRewritingRow : OpenClaim := { program := "ytabmomjfdondnaa", sum := "d25bc2fd693c15ddf4b5552c81812e83d43c37685a66de1a9561e74f2033c4be", func := "loop.example/g01918/laws.FnExactIsValidRewriting", spec := "fnExactIsValidRewriting", unfollowed := true, recurses := true, apart := false }
def FnExactIsValidRewritingSaid : Prop := fnExactIsValidRewritingRow.holds Try.pinned (OpenSpec.ofChange fnExactIsValidRewritingSpec)

/-- ITS FALSE NEIGHBOUR: 'it returns false'. Refute it at one input. -/
def fnExactIsValidRewritingWrong : ChangeSpec := { name := "fnExactIsValidRewriting", fn := fun _ => fun
  | [d1, d2] => { results := [.lit (.bool false)], args := [d1, d2] }
  | _ => none }
def FnExactIsValidRewritingWrongFalsely : Prop := fnExactIsValidRewritingRow.holds Try.pinned (OpenSpec.ofChange fnExactIsValidRewritingWrong)

/-- 'laws.FnExactHasAttackPath': WHATEVER THE INPUT: true; the input reads as it did. -/
def fnExactHasAttackPathSpec : ChangeSpec := { name := "fnExactHasAttackPath", fn := fun _ => fun
  | [d1, d2, d3, d4] => { results := [.lit (.bool true)], args := [d1, d2, d3, d4] }
  | _ => none }
def fnExactHasAttackPathRow : OpenClaim := { program := "ytabmomjfdondnaa", sum := "d25bc2fd693c15ddf4b5552c81812e83d43c37685a66de1a9561e74f2033c4be", func := "loop.example/g01918/laws.FnExactHasAttackPath", spec := "fnExactHasAttackPath", unfollowed := true, recurses := true, apart := false }
def FnExactHasAttackPathSaid : Prop := fnExactHasAttackPathRow.holds Try.pinned (OpenSpec.ofChange fnExactHasAttackPathSpec)

/-- ITS FALSE NEIGHBOUR: 'it returns false'. Refute it at one input. -/
def fnExactHasAttackPathWrong : ChangeSpec := { name := "fnExactHasAttackPath", fn := fun _ => fun
  | [d1, d2, d3, d4] => { results := [.lit (.bool false)], args := [d1, d2, d3, d4] }
  | _ => none }
def FnExactHasAttackPathWrongFalsely : Prop := fnExactHasAttackPathRow.holds Try.pinned (OpenSpec.ofChange fnExactHasAttackPathWrong)

/-- 'laws.FnExactIsCyclic': WHATEVER THE INPUT: true; the input reads as it did. -/
def fnExactIsCyclicSpec : ChangeSpec := { name := "fnExactIsCyclic", fn := fun _ => fun
  | [d1, d2] => { results := [.lit (.bool true)], args := [d1, d2] }
  | _ => none }
def fnExactIsCyclicRow : OpenClaim := { program := "ytabmomjfdondnaa", sum := "d25bc2fd693c15ddf4b5552c81812e83d43c37685a66de1a9561e74f2033c4be", func := "loop.example/g01918/laws.FnExactIsCyclic", spec := "fnExactIsCyclic", unfollowed := true, recurses := true, apart := false }
def FnExactIsCyclicSaid : Prop := fnExactIsCyclicRow.holds Try.pinned (OpenSpec.ofChange fnExactIsCyclicSpec)

/-- ITS FALSE NEIGHBOUR: 'it returns false'. Refute it at one input. -/
def fnExactIsCyclicWrong : ChangeSpec := { name := "fnExactIsCyclic", fn := fun _ => fun
  | [d1, d2] => { results := [.lit (.bool false)], args := [d1, d2] }
  | _ => none }
def FnExactIsCyclicWrongFalsely : Prop := fnExactIsCyclicRow.holds Try.pinned (OpenSpec.ofChange fnExactIsCyclicWrong)

/-- 'laws.FnExactClassify': WHATEVER THE INPUT: true; the input reads as it did. -/
def fnExactClassifySpec : ChangeSpec := { name := "fnExactClassify", fn := fun _ => fun
  | [d1, d2] => { results := [.lit (.bool true)], args := [d1, d2] }
  | _ => none }
def fnExactClassifyRow : OpenClaim := { program := "ytabmomjfdondnaa", sum := "d25bc2fd693c15ddf4b5552c81812e83d43c37685a66de1a9561e74f2033c4be", func := "loop.example/g01918/laws.FnExactClassify", spec := "fnExactClassify", unfollowed := true, recurses := true, apart := false }
def FnExactClassifySaid : Prop := fnExactClassifyRow.holds Try.pinned (OpenSpec.ofChange fnExactClassifySpec)

/-- ITS FALSE NEIGHBOUR: 'it returns false'. Refute it at one input. -/
def fnExactClassifyWrong : ChangeSpec := { name := "fnExactClassify", fn := fun _ => fun
  | [d1, d2] => { results := [.lit (.bool false)], args := [d1, d2] }
  | _ => none }
def FnExactClassifyWrongFalsely : Prop := fnExactClassifyRow.holds Try.pinned (OpenSpec.ofChange fnExactClassifyWrong)

/- THE SECOND FORM. 'bulk': how many values and letters a reading holds, each counted each time it is reached (what is shared counts as often as it is met; a slice's spare places count too). A statement '..UptoSaid' is the law's where the arguments, and the package variables that the reading takes, are together of bulk at most 1048576: NARROWER than '..Said'. Prove '..Said' where nothing that the law and all that it calls make is longer than what came in: it says more and counts as full. Else prove '..UptoSaid'. A law counts once. -/
mutual
def uptoBulk {H : Type} : DataW H → Nat
  | .lit (.string bytes) => bytes.length + 1
  | .lit _ => 1
  | .nil => 1
  | .ptr d => uptoBulk d + 1
  | .slice elems spare => uptoBulkAll elems + uptoBulkAll spare + 1
  | .agg parts => uptoBulkAll parts + 1
  | .iface _ d => uptoBulk d + 1
  | .map entries => uptoBulkEntries entries + 1
  | .held _ => 1
def uptoBulkAll {H : Type} : List (DataW H) → Nat
  | [] => 0
  | d :: r => uptoBulk d + uptoBulkAll r
def uptoBulkEntries {H : Type} : List (Lit × DataW H) → Nat
  | [] => 0
  | x :: r => uptoBulkEntry x + uptoBulkEntries r
def uptoBulkEntry {H : Type} : Lit × DataW H → Nat
  | (.string bytes, d) => bytes.length + uptoBulk d + 1
  | (_, d) => uptoBulk d + 1
 end
def uptoSmall : (H : Type) → List (DataW H) → Bool := fun _ ds => decide (uptoBulkAll ds ≤ 1048576)
def OpenSpec.upto (s : _root_.Go.ChangeSpec) : _root_.Go.OpenSpec := { _root_.Go.OpenSpec.ofChange s with cond := some uptoSmall }

/-- 'laws.FnExactSolve', WHERE WHAT IT READS IS OF BULK AT MOST 1048576: true; the input reads as it did. -/
def fnExactSolveUptoRow : OpenClaim := { program := "ytabmomjfdondnaa", sum := "d25bc2fd693c15ddf4b5552c81812e83d43c37685a66de1a9561e74f2033c4be", func := "loop.example/g01918/laws.FnExactSolve", spec := "fnExactSolve", unfollowed := true, recurses := true, apart := false, narrowed := true }
def FnExactSolveUptoSaid : Prop := fnExactSolveUptoRow.holds Try.pinned (OpenSpec.upto fnExactSolveSpec)

/-- 'laws.FnSolver', WHERE WHAT IT READS IS OF BULK AT MOST 1048576: true; the input reads as it did. -/
def fnSolverUptoRow : OpenClaim := { program := "ytabmomjfdondnaa", sum := "d25bc2fd693c15ddf4b5552c81812e83d43c37685a66de1a9561e74f2033c4be", func := "loop.example/g01918/laws.FnSolver", spec := "fnSolver", unfollowed := true, recurses := true, apart := false, narrowed := true }
def FnSolverUptoSaid : Prop := fnSolverUptoRow.holds Try.pinned (OpenSpec.upto fnSolverSpec)

/-- 'laws.FnPartialRepairs', WHERE WHAT IT READS IS OF BULK AT MOST 1048576: true; the input reads as it did. -/
def fnPartialRepairsUptoRow : OpenClaim := { program := "ytabmomjfdondnaa", sum := "d25bc2fd693c15ddf4b5552c81812e83d43c37685a66de1a9561e74f2033c4be", func := "loop.example/g01918/laws.FnPartialRepairs", spec := "fnPartialRepairs", unfollowed := true, recurses := true, apart := false, narrowed := true }
def FnPartialRepairsUptoSaid : Prop := fnPartialRepairsUptoRow.holds Try.pinned (OpenSpec.upto fnPartialRepairsSpec)

/-- 'laws.FnExactRepairFromFacts', WHERE WHAT IT READS IS OF BULK AT MOST 1048576: true; the input reads as it did. -/
def fnExactRepairFromFactsUptoRow : OpenClaim := { program := "ytabmomjfdondnaa", sum := "d25bc2fd693c15ddf4b5552c81812e83d43c37685a66de1a9561e74f2033c4be", func := "loop.example/g01918/laws.FnExactRepairFromFacts", spec := "fnExactRepairFromFacts", unfollowed := true, recurses := true, apart := false, narrowed := true }
def FnExactRepairFromFactsUptoSaid : Prop := fnExactRepairFromFactsUptoRow.holds Try.pinned (OpenSpec.upto fnExactRepairFromFactsSpec)

/-- 'laws.FnExactPartialRepairsUpTo', WHERE WHAT IT READS IS OF BULK AT MOST 1048576: true; the input reads as it did. -/
def fnExactPartialRepairsUpToUptoRow : OpenClaim := { program := "ytabmomjfdondnaa", sum := "d25bc2fd693c15ddf4b5552c81812e83d43c37685a66de1a9561e74f2033c4be", func := "loop.example/g01918/laws.FnExactPartialRepairsUpTo", spec := "fnExactPartialRepairsUpTo", unfollowed := true, recurses := true, apart := false, narrowed := true }
def FnExactPartialRepairsUpToUptoSaid : Prop := fnExactPartialRepairsUpToUptoRow.holds Try.pinned (OpenSpec.upto fnExactPartialRepairsUpToSpec)

/-- 'laws.FnExactIsValidRewriting', WHERE WHAT IT READS IS OF BULK AT MOST 1048576: true; the input reads as it did. -/
def fnExactIsValidRewritingUptoRow : OpenClaim := { program := "ytabmomjfdondnaa", sum := "d25bc2fd693c15ddf4b5552c81812e83d43c37685a66de1a9561e74f2033c4be", func := "loop.example/g01918/laws.FnExactIsValidRewriting", spec := "fnExactIsValidRewriting", unfollowed := true, recurses := true, apart := false, narrowed := true }
def FnExactIsValidRewritingUptoSaid : Prop := fnExactIsValidRewritingUptoRow.holds Try.pinned (OpenSpec.upto fnExactIsValidRewritingSpec)

/-- 'laws.FnExactHasAttackPath', WHERE WHAT IT READS IS OF BULK AT MOST 1048576: true; the input reads as it did. -/
def fnExactHasAttackPathUptoRow : OpenClaim := { program := "ytabmomjfdondnaa", sum := "d25bc2fd693c15ddf4b5552c81812e83d43c37685a66de1a9561e74f2033c4be", func := "loop.example/g01918/laws.FnExactHasAttackPath", spec := "fnExactHasAttackPath", unfollowed := true, recurses := true, apart := false, narrowed := true }
def FnExactHasAttackPathUptoSaid : Prop := fnExactHasAttackPathUptoRow.holds Try.pinned (OpenSpec.upto fnExactHasAttackPathSpec)

/-- 'laws.FnExactIsCyclic', WHERE WHAT IT READS IS OF BULK AT MOST 1048576: true; the input reads as it did. -/
def fnExactIsCyclicUptoRow : OpenClaim := { program := "ytabmomjfdondnaa", sum := "d25bc2fd693c15ddf4b5552c81812e83d43c37685a66de1a9561e74f2033c4be", func := "loop.example/g01918/laws.FnExactIsCyclic", spec := "fnExactIsCyclic", unfollowed := true, recurses := true, apart := false, narrowed := true }
def FnExactIsCyclicUptoSaid : Prop := fnExactIsCyclicUptoRow.holds Try.pinned (OpenSpec.upto fnExactIsCyclicSpec)

/-- 'laws.FnExactClassify', WHERE WHAT IT READS IS OF BULK AT MOST 1048576: true; the input reads as it did. -/
def fnExactClassifyUptoRow : OpenClaim := { program := "ytabmomjfdondnaa", sum := "d25bc2fd693c15ddf4b5552c81812e83d43c37685a66de1a9561e74f2033c4be", func := "loop.example/g01918/laws.FnExactClassify", spec := "fnExactClassify", unfollowed := true, recurses := true, apart := false, narrowed := true }
def FnExactClassifyUptoSaid : Prop := fnExactClassifyUptoRow.holds Try.pinned (OpenSpec.upto fnExactClassifySpec)

end Rows
end Go.Proofs.Ytabmomjfdondnaa
