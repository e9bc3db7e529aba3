/-
  No cell of these rows narrows 'for every input' (looked for: loops, veiled, ifaces, maps, wideKeys, modest, calm, conditions, laid).
  DERIVED. THE GIVEN ROWS OF THIS SEAT. 2 by the template 'for every input the law returns true; each argument reads behind the call as it read before'; 0 by the template 'total and deterministic' (their statements: YtcllfkplpdppiaaTotals.lean).
  GIVEN WITH THE SEED: the statements are not yours to turn. If you find one false, say at which input.
  Laid BY PROGRAM, IN A SANDBOX (cutbox-rows.mjs): the forced cells as the released guide's own fill.sh prints them over the translation 9b6a86aafa5dc9f5… (all of the seat's roots in one cut). By AI agents, Wed Nov 11 2026. No macro, syntax, notation, axiom, sorry.
-/
import Derived.Test.YtcllfkplpdppiaaChecked
import GoSem.Claim
import GoSem.ClaimJoined
import GoSem.ClaimMapViews
import Derived.JoinedTies
import Derived.KernelRfl
namespace Go.Proofs.Ytcllfkplpdppiaa
/- THE CELL 'sum', in the pinned program and in every row, IS THE sha256 OF THE DUMP (.gsa) THAT YtcllfkplpdppiaaProg.lean LOADS. Nothing in Lean hashes anything: it is a label: what it is worth is what the hold of that sum in a sandbox is worth. -/
noncomputable def Try.pinned : Pinned := { name := "ytcllfkplpdppiaa", sum := "9b6a86aafa5dc9f50015c89858c88e6145eb868bf16fbc7a5b5466fa0201291b", checked := Try.checked }
namespace Rows
def none {H : Type} : Left H := { results := [], args := [] }

/-- 'laws.FnAttackGraph': WHATEVER THE INPUT: true; the input reads as it did. -/
def fnAttackGraphSpec : ChangeSpec := { name := "fnAttackGraph", fn := fun _ => fun
  | [d] => { results := [.lit (.bool true)], args := [d] }
  | _ => none }
def fnAttackGraphRow : OpenClaim := { program := "ytcllfkplpdppiaa", sum := "9b6a86aafa5dc9f50015c89858c88e6145eb868bf16fbc7a5b5466fa0201291b", func := "loop.example/g01918/laws.FnAttackGraph", spec := "fnAttackGraph", unfollowed := true, recurses := true, apart := false }
def FnAttackGraphSaid : Prop := fnAttackGraphRow.holds Try.pinned (OpenSpec.ofChange fnAttackGraphSpec)

/-- ITS FALSE NEIGHBOUR: 'it returns false'. Refute it at one input. -/
def fnAttackGraphWrong : ChangeSpec := { name := "fnAttackGraph", fn := fun _ => fun
  | [d] => { results := [.lit (.bool false)], args := [d] }
  | _ => none }
def FnAttackGraphWrongFalsely : Prop := fnAttackGraphRow.holds Try.pinned (OpenSpec.ofChange fnAttackGraphWrong)

/-- 'laws.FnFreeVariables': WHATEVER THE INPUT: true; the input reads as it did. -/
def fnFreeVariablesSpec : ChangeSpec := { name := "fnFreeVariables", fn := fun _ => fun
  | [d] => { results := [.lit (.bool true)], args := [d] }
  | _ => none }
def fnFreeVariablesRow : OpenClaim := { program := "ytcllfkplpdppiaa", sum := "9b6a86aafa5dc9f50015c89858c88e6145eb868bf16fbc7a5b5466fa0201291b", func := "loop.example/g01918/laws.FnFreeVariables", spec := "fnFreeVariables", unfollowed := true, recurses := true, apart := false }
def FnFreeVariablesSaid : Prop := fnFreeVariablesRow.holds Try.pinned (OpenSpec.ofChange fnFreeVariablesSpec)

/-- ITS FALSE NEIGHBOUR: 'it returns false'. Refute it at one input. -/
def fnFreeVariablesWrong : ChangeSpec := { name := "fnFreeVariables", fn := fun _ => fun
  | [d] => { results := [.lit (.bool false)], args := [d] }
  | _ => none }
def FnFreeVariablesWrongFalsely : Prop := fnFreeVariablesRow.holds Try.pinned (OpenSpec.ofChange fnFreeVariablesWrong)

/- THE SECOND FORM. 'bulk': how many values and letters a reading holds, each counted each time it is reached (what is shared counts as often as it is met; a slice's spare places count too). A statement '..UptoSaid' is the law's where the arguments, and the package variables that the reading takes, are together of bulk at most 1048576: NARROWER than '..Said'. Prove '..Said' where nothing that the law and all that it calls make is longer than what came in: it says more and counts as full. Else prove '..UptoSaid'. A law counts once. -/
mutual
def uptoBulk {H : Type} : DataW H → Nat
  | .lit (.string bytes) => bytes.length + 1
  | .lit _ => 1
  | .nil => 1
  | .ptr d => uptoBulk d + 1
  | .slice elems spare => uptoBulkAll elems + uptoBulkAll spare + 1
  | .agg parts => uptoBulkAll parts + 1
  | .iface _ d => uptoBulk d + 1
  | .map entries => uptoBulkEntries entries + 1
  | .held _ => 1
def uptoBulkAll {H : Type} : List (DataW H) → Nat
  | [] => 0
  | d :: r => uptoBulk d + uptoBulkAll r
def uptoBulkEntries {H : Type} : List (Lit × DataW H) → Nat
  | [] => 0
  | x :: r => uptoBulkEntry x + uptoBulkEntries r
def uptoBulkEntry {H : Type} : Lit × DataW H → Nat
  | (.string bytes, d) => bytes.length + uptoBulk d + 1
  | (_, d) => uptoBulk d + 1
 end
def uptoSmall : (H : Type) → List (DataW H) → Bool := fun _ ds => decide (uptoBulkAll ds ≤ 1048576)
def OpenSpec.upto (s : _root_.Go.ChangeSpec) : _root_.Go.OpenSpec := { _root_.Go.OpenSpec.ofChange s with cond := some uptoSmall }

/-- 'laws.FnAttackGraph', WHERE WHAT IT READS IS OF BULK AT MOST 1048576: true; the input reads as it did. -/
def fnAttackGraphUptoRow : OpenClaim := { program := "ytcllfkplpdppiaa", sum := "9b6a86aafa5dc9f50015c89858c88e6145eb868bf16fbc7a5b5466fa0201291b", func := "loop.example/g01918/laws.FnAttackGraph", spec := "fnAttackGraph", unfollowed := true, recurses := true, apart := false, narrowed := true }
def FnAttackGraphUptoSaid : Prop := fnAttackGraphUptoRow.holds Try.pinned (OpenSpec.upto fnAttackGraphSpec)

/-- 'laws.FnFreeVariables', WHERE WHAT IT READS IS OF BULK AT MOST 1048576: true; the input reads as it did. -/
def fnFreeVariablesUptoRow : OpenClaim := { program := "ytcllfkplpdppiaa", sum := "9b6a86aafa5dc9f50015c89858c88e6145eb868bf16fbc7a5b5466fa0201291b", func := "loop.example/g01918/laws.FnFreeVariables", spec := "fnFreeVariables", unfollowed := true, recurses := true, apart := false, narrowed := true }
def FnFreeVariablesUptoSaid : Prop := fnFreeVariablesUptoRow.holds Try.pinned (OpenSpec.upto fnFreeVariablesSpec)

end Rows
end Go.Proofs.Ytcllfkplpdppiaa
