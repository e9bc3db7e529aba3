/-
  No cell of these rows narrows 'for every input' (looked for: loops, veiled, ifaces, maps, wideKeys, modest, calm, conditions, laid).
  DERIVED. THE GIVEN ROWS OF THIS SEAT. 12 by the template 'for every input the law returns true; each argument reads behind the call as it read before'; 0 by the template 'total and deterministic' (their statements: YthfbkecnnllpkaaTotals.lean).
  GIVEN WITH THE SEED: the statements are not yours to turn. If you find one false, say at which input.
  Laid BY PROGRAM, IN A SANDBOX (cutbox-rows.mjs): the forced cells as the released guide's own fill.sh prints them over the translation 56c328f4c5f2319c… (all of the seat's roots in one cut). By AI agents, Wed Nov 11 2026. No macro, syntax, notation, axiom, sorry.
-/
import Derived.Test.YthfbkecnnllpkaaChecked
import GoSem.Claim
import GoSem.ClaimJoined
import GoSem.ClaimMapViews
import Derived.JoinedTies
import Derived.KernelRfl
namespace Go.Proofs.Ythfbkecnnllpkaa
/- THE CELL 'sum', in the pinned program and in every row, IS THE sha256 OF THE DUMP (.gsa) THAT YthfbkecnnllpkaaProg.lean LOADS. Nothing in Lean hashes anything: it is a label: what it is worth is what the hold of that sum in a sandbox is worth. -/
noncomputable def Try.pinned : Pinned := { name := "ythfbkecnnllpkaa", sum := "56c328f4c5f2319c411a23d82c9f4626c6a09c84674c632f5b8b4198583ad647", checked := Try.checked }
namespace Rows
def none {H : Type} : Left H := { results := [], args := [] }

/-- 'laws.FnExactNegateLiterals': WHATEVER THE INPUT: true; the input reads as it did. -/
def fnExactNegateLiteralsSpec : ChangeSpec := { name := "fnExactNegateLiterals", fn := fun _ => fun
  | [d] => { results := [.lit (.bool true)], args := [d] }
  | _ => none }
def fnExactNegateLiteralsRow : OpenClaim := { program := "ythfbkecnnllpkaa", sum := "56c328f4c5f2319c411a23d82c9f4626c6a09c84674c632f5b8b4198583ad647", func := "loop.example/g01918/laws.FnExactNegateLiterals", spec := "fnExactNegateLiterals", apart := false }
def FnExactNegateLiteralsSaid : Prop := fnExactNegateLiteralsRow.holds Try.pinned (OpenSpec.ofChange fnExactNegateLiteralsSpec)

/-- ITS FALSE NEIGHBOUR: 'it returns false'. Refute it at one input. -/
def fnExactNegateLiteralsWrong : ChangeSpec := { name := "fnExactNegateLiterals", fn := fun _ => fun
  | [d] => { results := [.lit (.bool false)], args := [d] }
  | _ => none }
def FnExactNegateLiteralsWrongFalsely : Prop := fnExactNegateLiteralsRow.holds Try.pinned (OpenSpec.ofChange fnExactNegateLiteralsWrong)

/-- 'laws.FnExactTrueVariables': WHATEVER THE INPUT: true; the input reads as it did. -/
def fnExactTrueVariablesSpec : ChangeSpec := { name := "fnExactTrueVariables", fn := fun _ => fun
  | [d] => { results := [.lit (.bool true)], args := [d] }
  | _ => none }
def fnExactTrueVariablesRow : OpenClaim := { program := "ythfbkecnnllpkaa", sum := "56c328f4c5f2319c411a23d82c9f4626c6a09c84674c632f5b8b4198583ad647", func := "loop.example/g01918/laws.FnExactTrueVariables", spec := "fnExactTrueVariables", apart := false }
def FnExactTrueVariablesSaid : Prop := fnExactTrueVariablesRow.holds Try.pinned (OpenSpec.ofChange fnExactTrueVariablesSpec)

/-- ITS FALSE NEIGHBOUR: 'it returns false'. Refute it at one input. -/
def fnExactTrueVariablesWrong : ChangeSpec := { name := "fnExactTrueVariables", fn := fun _ => fun
  | [d] => { results := [.lit (.bool false)], args := [d] }
  | _ => none }
def FnExactTrueVariablesWrongFalsely : Prop := fnExactTrueVariablesRow.holds Try.pinned (OpenSpec.ofChange fnExactTrueVariablesWrong)

/-- 'laws.FnExactIsCovered': WHATEVER THE INPUT: true; the input reads as it did. -/
def fnExactIsCoveredSpec : ChangeSpec := { name := "fnExactIsCovered", fn := fun _ => fun
  | [d1, d2] => { results := [.lit (.bool true)], args := [d1, d2] }
  | _ => none }
def fnExactIsCoveredRow : OpenClaim := { program := "ythfbkecnnllpkaa", sum := "56c328f4c5f2319c411a23d82c9f4626c6a09c84674c632f5b8b4198583ad647", func := "loop.example/g01918/laws.FnExactIsCovered", spec := "fnExactIsCovered", unfollowed := true, recurses := true, apart := false }
def FnExactIsCoveredSaid : Prop := fnExactIsCoveredRow.holds Try.pinned (OpenSpec.ofChange fnExactIsCoveredSpec)

/-- ITS FALSE NEIGHBOUR: 'it returns false'. Refute it at one input. -/
def fnExactIsCoveredWrong : ChangeSpec := { name := "fnExactIsCovered", fn := fun _ => fun
  | [d1, d2] => { results := [.lit (.bool false)], args := [d1, d2] }
  | _ => none }
def FnExactIsCoveredWrongFalsely : Prop := fnExactIsCoveredRow.holds Try.pinned (OpenSpec.ofChange fnExactIsCoveredWrong)

/-- 'laws.FnExactSatisfiesClauses': WHATEVER THE INPUT: true; the input reads as it did. -/
def fnExactSatisfiesClausesSpec : ChangeSpec := { name := "fnExactSatisfiesClauses", fn := fun _ => fun
  | [d1, d2] => { results := [.lit (.bool true)], args := [d1, d2] }
  | _ => none }
def fnExactSatisfiesClausesRow : OpenClaim := { program := "ythfbkecnnllpkaa", sum := "56c328f4c5f2319c411a23d82c9f4626c6a09c84674c632f5b8b4198583ad647", func := "loop.example/g01918/laws.FnExactSatisfiesClauses", spec := "fnExactSatisfiesClauses", unfollowed := true, recurses := true, apart := false }
def FnExactSatisfiesClausesSaid : Prop := fnExactSatisfiesClausesRow.holds Try.pinned (OpenSpec.ofChange fnExactSatisfiesClausesSpec)

/-- ITS FALSE NEIGHBOUR: 'it returns false'. Refute it at one input. -/
def fnExactSatisfiesClausesWrong : ChangeSpec := { name := "fnExactSatisfiesClauses", fn := fun _ => fun
  | [d1, d2] => { results := [.lit (.bool false)], args := [d1, d2] }
  | _ => none }
def FnExactSatisfiesClausesWrongFalsely : Prop := fnExactSatisfiesClausesRow.holds Try.pinned (OpenSpec.ofChange fnExactSatisfiesClausesWrong)

/-- 'laws.FnExactAreValidClauses': WHATEVER THE INPUT: true; the input reads as it did. -/
def fnExactAreValidClausesSpec : ChangeSpec := { name := "fnExactAreValidClauses", fn := fun _ => fun
  | [d1, d2] => { results := [.lit (.bool true)], args := [d1, d2] }
  | _ => none }
def fnExactAreValidClausesRow : OpenClaim := { program := "ythfbkecnnllpkaa", sum := "56c328f4c5f2319c411a23d82c9f4626c6a09c84674c632f5b8b4198583ad647", func := "loop.example/g01918/laws.FnExactAreValidClauses", spec := "fnExactAreValidClauses", unfollowed := true, recurses := true, apart := false }
def FnExactAreValidClausesSaid : Prop := fnExactAreValidClausesRow.holds Try.pinned (OpenSpec.ofChange fnExactAreValidClausesSpec)

/-- ITS FALSE NEIGHBOUR: 'it returns false'. Refute it at one input. -/
def fnExactAreValidClausesWrong : ChangeSpec := { name := "fnExactAreValidClauses", fn := fun _ => fun
  | [d1, d2] => { results := [.lit (.bool false)], args := [d1, d2] }
  | _ => none }
def FnExactAreValidClausesWrongFalsely : Prop := fnExactAreValidClausesRow.holds Try.pinned (OpenSpec.ofChange fnExactAreValidClausesWrong)

/-- 'laws.FnExactMinimalSets': WHATEVER THE INPUT: true; the input reads as it did. -/
def fnExactMinimalSetsSpec : ChangeSpec := { name := "fnExactMinimalSets", fn := fun _ => fun
  | [d] => { results := [.lit (.bool true)], args := [d] }
  | _ => none }
def fnExactMinimalSetsRow : OpenClaim := { program := "ythfbkecnnllpkaa", sum := "56c328f4c5f2319c411a23d82c9f4626c6a09c84674c632f5b8b4198583ad647", func := "loop.example/g01918/laws.FnExactMinimalSets", spec := "fnExactMinimalSets", unfollowed := true, recurses := true, apart := false }
def FnExactMinimalSetsSaid : Prop := fnExactMinimalSetsRow.holds Try.pinned (OpenSpec.ofChange fnExactMinimalSetsSpec)

/-- ITS FALSE NEIGHBOUR: 'it returns false'. Refute it at one input. -/
def fnExactMinimalSetsWrong : ChangeSpec := { name := "fnExactMinimalSets", fn := fun _ => fun
  | [d] => { results := [.lit (.bool false)], args := [d] }
  | _ => none }
def FnExactMinimalSetsWrongFalsely : Prop := fnExactMinimalSetsRow.holds Try.pinned (OpenSpec.ofChange fnExactMinimalSetsWrong)

/-- 'laws.FnExactCountModels': WHATEVER THE INPUT: true; the input reads as it did. -/
def fnExactCountModelsSpec : ChangeSpec := { name := "fnExactCountModels", fn := fun _ => fun
  | [d1, d2] => { results := [.lit (.bool true)], args := [d1, d2] }
  | _ => none }
def fnExactCountModelsRow : OpenClaim := { program := "ythfbkecnnllpkaa", sum := "56c328f4c5f2319c411a23d82c9f4626c6a09c84674c632f5b8b4198583ad647", func := "loop.example/g01918/laws.FnExactCountModels", spec := "fnExactCountModels", unfollowed := true, recurses := true, apart := false }
def FnExactCountModelsSaid : Prop := fnExactCountModelsRow.holds Try.pinned (OpenSpec.ofChange fnExactCountModelsSpec)

/-- ITS FALSE NEIGHBOUR: 'it returns false'. Refute it at one input. -/
def fnExactCountModelsWrong : ChangeSpec := { name := "fnExactCountModels", fn := fun _ => fun
  | [d1, d2] => { results := [.lit (.bool false)], args := [d1, d2] }
  | _ => none }
def FnExactCountModelsWrongFalsely : Prop := fnExactCountModelsRow.holds Try.pinned (OpenSpec.ofChange fnExactCountModelsWrong)

/-- 'laws.FnExactIsRUPClause': WHATEVER THE INPUT: true; the input reads as it did. -/
def fnExactIsRUPClauseSpec : ChangeSpec := { name := "fnExactIsRUPClause", fn := fun _ => fun
  | [d1, d2, d3] => { results := [.lit (.bool true)], args := [d1, d2, d3] }
  | _ => none }
def fnExactIsRUPClauseRow : OpenClaim := { program := "ythfbkecnnllpkaa", sum := "56c328f4c5f2319c411a23d82c9f4626c6a09c84674c632f5b8b4198583ad647", func := "loop.example/g01918/laws.FnExactIsRUPClause", spec := "fnExactIsRUPClause", unfollowed := true, recurses := true, apart := false }
def FnExactIsRUPClauseSaid : Prop := fnExactIsRUPClauseRow.holds Try.pinned (OpenSpec.ofChange fnExactIsRUPClauseSpec)

/-- ITS FALSE NEIGHBOUR: 'it returns false'. Refute it at one input. -/
def fnExactIsRUPClauseWrong : ChangeSpec := { name := "fnExactIsRUPClause", fn := fun _ => fun
  | [d1, d2, d3] => { results := [.lit (.bool false)], args := [d1, d2, d3] }
  | _ => none }
def FnExactIsRUPClauseWrongFalsely : Prop := fnExactIsRUPClauseRow.holds Try.pinned (OpenSpec.ofChange fnExactIsRUPClauseWrong)

/-- 'laws.FnExactUnitPropagation': WHATEVER THE INPUT: true; the input reads as it did. -/
def fnExactUnitPropagationSpec : ChangeSpec := { name := "fnExactUnitPropagation", fn := fun _ => fun
  | [d1, d2, d3] => { results := [.lit (.bool true)], args := [d1, d2, d3] }
  | _ => none }
def fnExactUnitPropagationRow : OpenClaim := { program := "ythfbkecnnllpkaa", sum := "56c328f4c5f2319c411a23d82c9f4626c6a09c84674c632f5b8b4198583ad647", func := "loop.example/g01918/laws.FnExactUnitPropagation", spec := "fnExactUnitPropagation", unfollowed := true, recurses := true, apart := false }
def FnExactUnitPropagationSaid : Prop := fnExactUnitPropagationRow.holds Try.pinned (OpenSpec.ofChange fnExactUnitPropagationSpec)

/-- ITS FALSE NEIGHBOUR: 'it returns false'. Refute it at one input. -/
def fnExactUnitPropagationWrong : ChangeSpec := { name := "fnExactUnitPropagation", fn := fun _ => fun
  | [d1, d2, d3] => { results := [.lit (.bool false)], args := [d1, d2, d3] }
  | _ => none }
def FnExactUnitPropagationWrongFalsely : Prop := fnExactUnitPropagationRow.holds Try.pinned (OpenSpec.ofChange fnExactUnitPropagationWrong)

/-- 'laws.FnExactIsValidProof': WHATEVER THE INPUT: true; the input reads as it did. -/
def fnExactIsValidProofSpec : ChangeSpec := { name := "fnExactIsValidProof", fn := fun _ => fun
  | [d1, d2, d3] => { results := [.lit (.bool true)], args := [d1, d2, d3] }
  | _ => none }
def fnExactIsValidProofRow : OpenClaim := { program := "ythfbkecnnllpkaa", sum := "56c328f4c5f2319c411a23d82c9f4626c6a09c84674c632f5b8b4198583ad647", func := "loop.example/g01918/laws.FnExactIsValidProof", spec := "fnExactIsValidProof", unfollowed := true, recurses := true, apart := false }
def FnExactIsValidProofSaid : Prop := fnExactIsValidProofRow.holds Try.pinned (OpenSpec.ofChange fnExactIsValidProofSpec)

/-- ITS FALSE NEIGHBOUR: 'it returns false'. Refute it at one input. -/
def fnExactIsValidProofWrong : ChangeSpec := { name := "fnExactIsValidProof", fn := fun _ => fun
  | [d1, d2, d3] => { results := [.lit (.bool false)], args := [d1, d2, d3] }
  | _ => none }
def FnExactIsValidProofWrongFalsely : Prop := fnExactIsValidProofRow.holds Try.pinned (OpenSpec.ofChange fnExactIsValidProofWrong)

/-- 'laws.FnUnitPropagation': WHATEVER THE INPUT: true; the input reads as it did. -/
def fnUnitPropagationSpec : ChangeSpec := { name := "fnUnitPropagation", fn := fun _ => fun
  | [d] => { results := [.lit (.bool true)], args := [d] }
  | _ => none }
def fnUnitPropagationRow : OpenClaim := { program := "ythfbkecnnllpkaa", sum := "56c328f4c5f2319c411a23d82c9f4626c6a09c84674c632f5b8b4198583ad647", func := "loop.example/g01918/laws.FnUnitPropagation", spec := "fnUnitPropagation", unfollowed := true, recurses := true, apart := false }
def FnUnitPropagationSaid : Prop := fnUnitPropagationRow.holds Try.pinned (OpenSpec.ofChange fnUnitPropagationSpec)

/-- ITS FALSE NEIGHBOUR: 'it returns false'. Refute it at one input. -/
def fnUnitPropagationWrong : ChangeSpec := { name := "fnUnitPropagation", fn := fun _ => fun
  | [d] => { results := [.lit (.bool false)], args := [d] }
  | _ => none }
def FnUnitPropagationWrongFalsely : Prop := fnUnitPropagationRow.holds Try.pinned (OpenSpec.ofChange fnUnitPropagationWrong)

/-- 'laws.FnRUP': WHATEVER THE INPUT: true; the input reads as it did. -/
def fnRUPSpec : ChangeSpec := { name := "fnRUP", fn := fun _ => fun
  | [d] => { results := [.lit (.bool true)], args := [d] }
  | _ => none }
def fnRUPRow : OpenClaim := { program := "ythfbkecnnllpkaa", sum := "56c328f4c5f2319c411a23d82c9f4626c6a09c84674c632f5b8b4198583ad647", func := "loop.example/g01918/laws.FnRUP", spec := "fnRUP", unfollowed := true, recurses := true, apart := false }
def FnRUPSaid : Prop := fnRUPRow.holds Try.pinned (OpenSpec.ofChange fnRUPSpec)

/-- ITS FALSE NEIGHBOUR: 'it returns false'. Refute it at one input. -/
def fnRUPWrong : ChangeSpec := { name := "fnRUP", fn := fun _ => fun
  | [d] => { results := [.lit (.bool false)], args := [d] }
  | _ => none }
def FnRUPWrongFalsely : Prop := fnRUPRow.holds Try.pinned (OpenSpec.ofChange fnRUPWrong)

/- THE SECOND FORM. 'bulk': how many values and letters a reading holds, each counted each time it is reached (what is shared counts as often as it is met; a slice's spare places count too). A statement '..UptoSaid' is the law's where the arguments, and the package variables that the reading takes, are together of bulk at most 1048576: NARROWER than '..Said'. Prove '..Said' where nothing that the law and all that it calls make is longer than what came in: it says more and counts as full. Else prove '..UptoSaid'. A law counts once. -/
mutual
def uptoBulk {H : Type} : DataW H → Nat
  | .lit (.string bytes) => bytes.length + 1
  | .lit _ => 1
  | .nil => 1
  | .ptr d => uptoBulk d + 1
  | .slice elems spare => uptoBulkAll elems + uptoBulkAll spare + 1
  | .agg parts => uptoBulkAll parts + 1
  | .iface _ d => uptoBulk d + 1
  | .map entries => uptoBulkEntries entries + 1
  | .held _ => 1
def uptoBulkAll {H : Type} : List (DataW H) → Nat
  | [] => 0
  | d :: r => uptoBulk d + uptoBulkAll r
def uptoBulkEntries {H : Type} : List (Lit × DataW H) → Nat
  | [] => 0
  | x :: r => uptoBulkEntry x + uptoBulkEntries r
def uptoBulkEntry {H : Type} : Lit × DataW H → Nat
  | (.string bytes, d) => bytes.length + uptoBulk d + 1
  | (_, d) => uptoBulk d + 1
 end
def uptoSmall : (H : Type) → List (DataW H) → Bool := fun _ ds => decide (uptoBulkAll ds ≤ 1048576)
def OpenSpec.upto (s : _root_.Go.ChangeSpec) : _root_.Go.OpenSpec := { _root_.Go.OpenSpec.ofChange s with cond := some uptoSmall }

/-- 'laws.FnExactNegateLiterals', WHERE WHAT IT READS IS OF BULK AT MOST 1048576: true; the input reads as it did. -/
def fnExactNegateLiteralsUptoRow : OpenClaim := { program := "ythfbkecnnllpkaa", sum := "56c328f4c5f2319c411a23d82c9f4626c6a09c84674c632f5b8b4198583ad647", func := "loop.example/g01918/laws.FnExactNegateLiterals", spec := "fnExactNegateLiterals", apart := false, narrowed := true }
def FnExactNegateLiteralsUptoSaid : Prop := fnExactNegateLiteralsUptoRow.holds Try.pinned (OpenSpec.upto fnExactNegateLiteralsSpec)

/-- 'laws.FnExactTrueVariables', WHERE WHAT IT READS IS OF BULK AT MOST 1048576: true; the input reads as it did. -/
def fnExactTrueVariablesUptoRow : OpenClaim := { program := "ythfbkecnnllpkaa", sum := "56c328f4c5f2319c411a23d82c9f4626c6a09c84674c632f5b8b4198583ad647", func := "loop.example/g01918/laws.FnExactTrueVariables", spec := "fnExactTrueVariables", apart := false, narrowed := true }
def FnExactTrueVariablesUptoSaid : Prop := fnExactTrueVariablesUptoRow.holds Try.pinned (OpenSpec.upto fnExactTrueVariablesSpec)

/-- 'laws.FnExactIsCovered', WHERE WHAT IT READS IS OF BULK AT MOST 1048576: true; the input reads as it did. -/
def fnExactIsCoveredUptoRow : OpenClaim := { program := "ythfbkecnnllpkaa", sum := "56c328f4c5f2319c411a23d82c9f4626c6a09c84674c632f5b8b4198583ad647", func := "loop.example/g01918/laws.FnExactIsCovered", spec := "fnExactIsCovered", unfollowed := true, recurses := true, apart := false, narrowed := true }
def FnExactIsCoveredUptoSaid : Prop := fnExactIsCoveredUptoRow.holds Try.pinned (OpenSpec.upto fnExactIsCoveredSpec)

/-- 'laws.FnExactSatisfiesClauses', WHERE WHAT IT READS IS OF BULK AT MOST 1048576: true; the input reads as it did. -/
def fnExactSatisfiesClausesUptoRow : OpenClaim := { program := "ythfbkecnnllpkaa", sum := "56c328f4c5f2319c411a23d82c9f4626c6a09c84674c632f5b8b4198583ad647", func := "loop.example/g01918/laws.FnExactSatisfiesClauses", spec := "fnExactSatisfiesClauses", unfollowed := true, recurses := true, apart := false, narrowed := true }
def FnExactSatisfiesClausesUptoSaid : Prop := fnExactSatisfiesClausesUptoRow.holds Try.pinned (OpenSpec.upto fnExactSatisfiesClausesSpec)

/-- 'laws.FnExactAreValidClauses', WHERE WHAT IT READS IS OF BULK AT MOST 1048576: true; the input reads as it did. -/
def fnExactAreValidClausesUptoRow : OpenClaim := { program := "ythfbkecnnllpkaa", sum := "56c328f4c5f2319c411a23d82c9f4626c6a09c84674c632f5b8b4198583ad647", func := "loop.example/g01918/laws.FnExactAreValidClauses", spec := "fnExactAreValidClauses", unfollowed := true, recurses := true, apart := false, narrowed := true }
def FnExactAreValidClausesUptoSaid : Prop := fnExactAreValidClausesUptoRow.holds Try.pinned (OpenSpec.upto fnExactAreValidClausesSpec)

/-- 'laws.FnExactMinimalSets', WHERE WHAT IT READS IS OF BULK AT MOST 1048576: true; the input reads as it did. -/
def fnExactMinimalSetsUptoRow : OpenClaim := { program := "ythfbkecnnllpkaa", sum := "56c328f4c5f2319c411a23d82c9f4626c6a09c84674c632f5b8b4198583ad647", func := "loop.example/g01918/laws.FnExactMinimalSets", spec := "fnExactMinimalSets", unfollowed := true, recurses := true, apart := false, narrowed := true }
def FnExactMinimalSetsUptoSaid : Prop := fnExactMinimalSetsUptoRow.holds Try.pinned (OpenSpec.upto fnExactMinimalSetsSpec)

/-- 'laws.FnExactCountModels', WHERE WHAT IT READS IS OF BULK AT MOST 1048576: true; the input reads as it did. -/
def fnExactCountModelsUptoRow : OpenClaim := { program := "ythfbkecnnllpkaa", sum := "56c328f4c5f2319c411a23d82c9f4626c6a09c84674c632f5b8b4198583ad647", func := "loop.example/g01918/laws.FnExactCountModels", spec := "fnExactCountModels", unfollowed := true, recurses := true, apart := false, narrowed := true }
def FnExactCountModelsUptoSaid : Prop := fnExactCountModelsUptoRow.holds Try.pinned (OpenSpec.upto fnExactCountModelsSpec)

/-- 'laws.FnExactIsRUPClause', WHERE WHAT IT READS IS OF BULK AT MOST 1048576: true; the input reads as it did. -/
def fnExactIsRUPClauseUptoRow : OpenClaim := { program := "ythfbkecnnllpkaa", sum := "56c328f4c5f2319c411a23d82c9f4626c6a09c84674c632f5b8b4198583ad647", func := "loop.example/g01918/laws.FnExactIsRUPClause", spec := "fnExactIsRUPClause", unfollowed := true, recurses := true, apart := false, narrowed := true }
def FnExactIsRUPClauseUptoSaid : Prop := fnExactIsRUPClauseUptoRow.holds Try.pinned (OpenSpec.upto fnExactIsRUPClauseSpec)

/-- 'laws.FnExactUnitPropagation', WHERE WHAT IT READS IS OF BULK AT MOST 1048576: true; the input reads as it did. -/
def fnExactUnitPropagationUptoRow : OpenClaim := { program := "ythfbkecnnllpkaa", sum := "56c328f4c5f2319c411a23d82c9f4626c6a09c84674c632f5b8b4198583ad647", func := "loop.example/g01918/laws.FnExactUnitPropagation", spec := "fnExactUnitPropagation", unfollowed := true, recurses := true, apart := false, narrowed := true }
def FnExactUnitPropagationUptoSaid : Prop := fnExactUnitPropagationUptoRow.holds Try.pinned (OpenSpec.upto fnExactUnitPropagationSpec)

/-- 'laws.FnExactIsValidProof', WHERE WHAT IT READS IS OF BULK AT MOST 1048576: true; the input reads as it did. -/
def fnExactIsValidProofUptoRow : OpenClaim := { program := "ythfbkecnnllpkaa", sum := "56c328f4c5f2319c411a23d82c9f4626c6a09c84674c632f5b8b4198583ad647", func := "loop.example/g01918/laws.FnExactIsValidProof", spec := "fnExactIsValidProof", unfollowed := true, recurses := true, apart := false, narrowed := true }
def FnExactIsValidProofUptoSaid : Prop := fnExactIsValidProofUptoRow.holds Try.pinned (OpenSpec.upto fnExactIsValidProofSpec)

/-- 'laws.FnUnitPropagation', WHERE WHAT IT READS IS OF BULK AT MOST 1048576: true; the input reads as it did. -/
def fnUnitPropagationUptoRow : OpenClaim := { program := "ythfbkecnnllpkaa", sum := "56c328f4c5f2319c411a23d82c9f4626c6a09c84674c632f5b8b4198583ad647", func := "loop.example/g01918/laws.FnUnitPropagation", spec := "fnUnitPropagation", unfollowed := true, recurses := true, apart := false, narrowed := true }
def FnUnitPropagationUptoSaid : Prop := fnUnitPropagationUptoRow.holds Try.pinned (OpenSpec.upto fnUnitPropagationSpec)

/-- 'laws.FnRUP', WHERE WHAT IT READS IS OF BULK AT MOST 1048576: true; the input reads as it did. -/
def fnRUPUptoRow : OpenClaim := { program := "ythfbkecnnllpkaa", sum := "56c328f4c5f2319c411a23d82c9f4626c6a09c84674c632f5b8b4198583ad647", func := "loop.example/g01918/laws.FnRUP", spec := "fnRUP", unfollowed := true, recurses := true, apart := false, narrowed := true }
def FnRUPUptoSaid : Prop := fnRUPUptoRow.holds Try.pinned (OpenSpec.upto fnRUPSpec)

end Rows
end Go.Proofs.Ythfbkecnnllpkaa
