/-
  No cell of these rows narrows 'for every input' (looked for: loops, veiled, ifaces, maps, wideKeys, modest, calm, conditions, laid).
  DERIVED. THE GIVEN ROWS OF THIS SEAT. 8 by the template 'for every input the law returns true; each argument reads behind the call as it read before'; 0 by the template 'total and deterministic' (their statements: YtcllfkplpdppiaaGreatTotals.lean).
  GIVEN WITH THE SEED: the statements are not yours to turn. If you find one false, say at which input.
  Laid BY PROGRAM, IN A SANDBOX (cutbox-rows.mjs): the forced cells as the released guide's own fill.sh prints them over the translation 8393fb5413852ec3… (all of the seat's roots in one cut). By AI agents, Wed Nov 11 2026. No macro, syntax, notation, axiom, sorry.
-/
import Derived.Test.YtcllfkplpdppiaaGreatChecked
import GoSem.Claim
import GoSem.ClaimJoined
import GoSem.ClaimMapViews
import Derived.JoinedTies
import Derived.KernelRfl
namespace Go.Proofs.YtcllfkplpdppiaaGreat
/- THE CELL 'sum', in the pinned program and in every row, IS THE sha256 OF THE DUMP (.gsa) THAT YtcllfkplpdppiaaGreatProg.lean LOADS. Nothing in Lean hashes anything: it is a label: what it is worth is what the hold of that sum in a sandbox is worth. -/
noncomputable def Tryz.pinned : Pinned := { name := "ytcllfkplpdppiaagreat", sum := "8393fb5413852ec39765085388a390c721c6608d977fb579ef3d0dc423047f54", checked := Tryz.checked }
namespace Rows
def none {H : Type} : Left H := { results := [], args := [] }

/-- 'laws.FnExactEvaluateRewriting': WHATEVER THE INPUT: true; the input reads as it did. -/
def fnExactEvaluateRewritingSpec : ChangeSpec := { name := "fnExactEvaluateRewriting", fn := fun _ => fun
  | [d1, d2, d3] => { results := [.lit (.bool true)], args := [d1, d2, d3] }
  | _ => none }
def fnExactEvaluateRewritingRow : OpenClaim := { program := "ytcllfkplpdppiaagreat", sum := "8393fb5413852ec39765085388a390c721c6608d977fb579ef3d0dc423047f54", func := "loop.example/g01918/laws.FnExactEvaluateRewriting", spec := "fnExactEvaluateRewriting", unfollowed := true, recurses := true, apart := false }
def FnExactEvaluateRewritingSaid : Prop := fnExactEvaluateRewritingRow.holds Tryz.pinned (OpenSpec.ofChange fnExactEvaluateRewritingSpec)

/-- ITS FALSE NEIGHBOUR: 'it returns false'. Refute it at one input. -/
def fnExactEvaluateRewritingWrong : ChangeSpec := { name := "fnExactEvaluateRewriting", fn := fun _ => fun
  | [d1, d2, d3] => { results := [.lit (.bool false)], args := [d1, d2, d3] }
  | _ => none }
def FnExactEvaluateRewritingWrongFalsely : Prop := fnExactEvaluateRewritingRow.holds Tryz.pinned (OpenSpec.ofChange fnExactEvaluateRewritingWrong)

/-- 'laws.FnExactIsPurified': WHATEVER THE INPUT: true; the input reads as it did. -/
def fnExactIsPurifiedSpec : ChangeSpec := { name := "fnExactIsPurified", fn := fun _ => fun
  | [d1, d2] => { results := [.lit (.bool true)], args := [d1, d2] }
  | _ => none }
def fnExactIsPurifiedRow : OpenClaim := { program := "ytcllfkplpdppiaagreat", sum := "8393fb5413852ec39765085388a390c721c6608d977fb579ef3d0dc423047f54", func := "loop.example/g01918/laws.FnExactIsPurified", spec := "fnExactIsPurified", unfollowed := true, recurses := true, apart := false }
def FnExactIsPurifiedSaid : Prop := fnExactIsPurifiedRow.holds Tryz.pinned (OpenSpec.ofChange fnExactIsPurifiedSpec)

/-- ITS FALSE NEIGHBOUR: 'it returns false'. Refute it at one input. -/
def fnExactIsPurifiedWrong : ChangeSpec := { name := "fnExactIsPurified", fn := fun _ => fun
  | [d1, d2] => { results := [.lit (.bool false)], args := [d1, d2] }
  | _ => none }
def FnExactIsPurifiedWrongFalsely : Prop := fnExactIsPurifiedRow.holds Tryz.pinned (OpenSpec.ofChange fnExactIsPurifiedWrong)

/-- 'laws.FnExactRewriting': WHATEVER THE INPUT: true; the input reads as it did. -/
def fnExactRewritingSpec : ChangeSpec := { name := "fnExactRewriting", fn := fun _ => fun
  | [d1, d2] => { results := [.lit (.bool true)], args := [d1, d2] }
  | _ => none }
def fnExactRewritingRow : OpenClaim := { program := "ytcllfkplpdppiaagreat", sum := "8393fb5413852ec39765085388a390c721c6608d977fb579ef3d0dc423047f54", func := "loop.example/g01918/laws.FnExactRewriting", spec := "fnExactRewriting", unfollowed := true, recurses := true, apart := false }
def FnExactRewritingSaid : Prop := fnExactRewritingRow.holds Tryz.pinned (OpenSpec.ofChange fnExactRewritingSpec)

/-- ITS FALSE NEIGHBOUR: 'it returns false'. Refute it at one input. -/
def fnExactRewritingWrong : ChangeSpec := { name := "fnExactRewriting", fn := fun _ => fun
  | [d1, d2] => { results := [.lit (.bool false)], args := [d1, d2] }
  | _ => none }
def FnExactRewritingWrongFalsely : Prop := fnExactRewritingRow.holds Tryz.pinned (OpenSpec.ofChange fnExactRewritingWrong)

/-- 'laws.FnClassification': WHATEVER THE INPUT: true; the input reads as it did. -/
def fnClassificationSpec : ChangeSpec := { name := "fnClassification", fn := fun _ => fun
  | [d] => { results := [.lit (.bool true)], args := [d] }
  | _ => none }
def fnClassificationRow : OpenClaim := { program := "ytcllfkplpdppiaagreat", sum := "8393fb5413852ec39765085388a390c721c6608d977fb579ef3d0dc423047f54", func := "loop.example/g01918/laws.FnClassification", spec := "fnClassification", inPlace := ["internal/abi.NoEscape", "internal/bytealg.MakeNoZero"], unfollowed := true, recurses := true, apart := false }
def FnClassificationSaid : Prop := fnClassificationRow.holds Tryz.pinned (OpenSpec.ofChange fnClassificationSpec)

/-- ITS FALSE NEIGHBOUR: 'it returns false'. Refute it at one input. -/
def fnClassificationWrong : ChangeSpec := { name := "fnClassification", fn := fun _ => fun
  | [d] => { results := [.lit (.bool false)], args := [d] }
  | _ => none }
def FnClassificationWrongFalsely : Prop := fnClassificationRow.holds Tryz.pinned (OpenSpec.ofChange fnClassificationWrong)

/-- 'laws.FnExactIrrelevantFacts': WHATEVER THE INPUT: true; the input reads as it did. -/
def fnExactIrrelevantFactsSpec : ChangeSpec := { name := "fnExactIrrelevantFacts", fn := fun _ => fun
  | [d1, d2] => { results := [.lit (.bool true)], args := [d1, d2] }
  | _ => none }
def fnExactIrrelevantFactsRow : OpenClaim := { program := "ytcllfkplpdppiaagreat", sum := "8393fb5413852ec39765085388a390c721c6608d977fb579ef3d0dc423047f54", func := "loop.example/g01918/laws.FnExactIrrelevantFacts", spec := "fnExactIrrelevantFacts", unfollowed := true, recurses := true, apart := false }
def FnExactIrrelevantFactsSaid : Prop := fnExactIrrelevantFactsRow.holds Tryz.pinned (OpenSpec.ofChange fnExactIrrelevantFactsSpec)

/-- ITS FALSE NEIGHBOUR: 'it returns false'. Refute it at one input. -/
def fnExactIrrelevantFactsWrong : ChangeSpec := { name := "fnExactIrrelevantFacts", fn := fun _ => fun
  | [d1, d2] => { results := [.lit (.bool false)], args := [d1, d2] }
  | _ => none }
def FnExactIrrelevantFactsWrongFalsely : Prop := fnExactIrrelevantFactsRow.holds Tryz.pinned (OpenSpec.ofChange fnExactIrrelevantFactsWrong)

/-- 'laws.FnHoldsIn': WHATEVER THE INPUT: true; the input reads as it did. -/
def fnHoldsInSpec : ChangeSpec := { name := "fnHoldsIn", fn := fun _ => fun
  | [d] => { results := [.lit (.bool true)], args := [d] }
  | _ => none }
def fnHoldsInRow : OpenClaim := { program := "ytcllfkplpdppiaagreat", sum := "8393fb5413852ec39765085388a390c721c6608d977fb579ef3d0dc423047f54", func := "loop.example/g01918/laws.FnHoldsIn", spec := "fnHoldsIn", unfollowed := true, recurses := true, apart := false }
def FnHoldsInSaid : Prop := fnHoldsInRow.holds Tryz.pinned (OpenSpec.ofChange fnHoldsInSpec)

/-- ITS FALSE NEIGHBOUR: 'it returns false'. Refute it at one input. -/
def fnHoldsInWrong : ChangeSpec := { name := "fnHoldsIn", fn := fun _ => fun
  | [d] => { results := [.lit (.bool false)], args := [d] }
  | _ => none }
def FnHoldsInWrongFalsely : Prop := fnHoldsInRow.holds Tryz.pinned (OpenSpec.ofChange fnHoldsInWrong)

/-- 'laws.FnExactFalsityClauses': WHATEVER THE INPUT: true; the input reads as it did. -/
def fnExactFalsityClausesSpec : ChangeSpec := { name := "fnExactFalsityClauses", fn := fun _ => fun
  | [d1, d2] => { results := [.lit (.bool true)], args := [d1, d2] }
  | _ => none }
def fnExactFalsityClausesRow : OpenClaim := { program := "ytcllfkplpdppiaagreat", sum := "8393fb5413852ec39765085388a390c721c6608d977fb579ef3d0dc423047f54", func := "loop.example/g01918/laws.FnExactFalsityClauses", spec := "fnExactFalsityClauses", unfollowed := true, recurses := true, apart := false }
def FnExactFalsityClausesSaid : Prop := fnExactFalsityClausesRow.holds Tryz.pinned (OpenSpec.ofChange fnExactFalsityClausesSpec)

/-- ITS FALSE NEIGHBOUR: 'it returns false'. Refute it at one input. -/
def fnExactFalsityClausesWrong : ChangeSpec := { name := "fnExactFalsityClauses", fn := fun _ => fun
  | [d1, d2] => { results := [.lit (.bool false)], args := [d1, d2] }
  | _ => none }
def FnExactFalsityClausesWrongFalsely : Prop := fnExactFalsityClausesRow.holds Tryz.pinned (OpenSpec.ofChange fnExactFalsityClausesWrong)

/-- 'laws.FnExactCertainByFixpoint': WHATEVER THE INPUT: true; the input reads as it did. -/
def fnExactCertainByFixpointSpec : ChangeSpec := { name := "fnExactCertainByFixpoint", fn := fun _ => fun
  | [d1, d2] => { results := [.lit (.bool true)], args := [d1, d2] }
  | _ => none }
def fnExactCertainByFixpointRow : OpenClaim := { program := "ytcllfkplpdppiaagreat", sum := "8393fb5413852ec39765085388a390c721c6608d977fb579ef3d0dc423047f54", func := "loop.example/g01918/laws.FnExactCertainByFixpoint", spec := "fnExactCertainByFixpoint", unfollowed := true, recurses := true, apart := false }
def FnExactCertainByFixpointSaid : Prop := fnExactCertainByFixpointRow.holds Tryz.pinned (OpenSpec.ofChange fnExactCertainByFixpointSpec)

/-- ITS FALSE NEIGHBOUR: 'it returns false'. Refute it at one input. -/
def fnExactCertainByFixpointWrong : ChangeSpec := { name := "fnExactCertainByFixpoint", fn := fun _ => fun
  | [d1, d2] => { results := [.lit (.bool false)], args := [d1, d2] }
  | _ => none }
def FnExactCertainByFixpointWrongFalsely : Prop := fnExactCertainByFixpointRow.holds Tryz.pinned (OpenSpec.ofChange fnExactCertainByFixpointWrong)

/- THE SECOND FORM. 'bulk': how many values and letters a reading holds, each counted each time it is reached (what is shared counts as often as it is met; a slice's spare places count too). A statement '..UptoSaid' is the law's where the arguments, and the package variables that the reading takes, are together of bulk at most 1048576: NARROWER than '..Said'. Prove '..Said' where nothing that the law and all that it calls make is longer than what came in: it says more and counts as full. Else prove '..UptoSaid'. A law counts once. -/
mutual
def uptoBulk {H : Type} : DataW H → Nat
  | .lit (.string bytes) => bytes.length + 1
  | .lit _ => 1
  | .nil => 1
  | .ptr d => uptoBulk d + 1
  | .slice elems spare => uptoBulkAll elems + uptoBulkAll spare + 1
  | .agg parts => uptoBulkAll parts + 1
  | .iface _ d => uptoBulk d + 1
  | .map entries => uptoBulkEntries entries + 1
  | .held _ => 1
def uptoBulkAll {H : Type} : List (DataW H) → Nat
  | [] => 0
  | d :: r => uptoBulk d + uptoBulkAll r
def uptoBulkEntries {H : Type} : List (Lit × DataW H) → Nat
  | [] => 0
  | x :: r => uptoBulkEntry x + uptoBulkEntries r
def uptoBulkEntry {H : Type} : Lit × DataW H → Nat
  | (.string bytes, d) => bytes.length + uptoBulk d + 1
  | (_, d) => uptoBulk d + 1
 end
def uptoSmall : (H : Type) → List (DataW H) → Bool := fun _ ds => decide (uptoBulkAll ds ≤ 1048576)
def OpenSpec.upto (s : _root_.Go.ChangeSpec) : _root_.Go.OpenSpec := { _root_.Go.OpenSpec.ofChange s with cond := some uptoSmall }

/-- 'laws.FnExactEvaluateRewriting', WHERE WHAT IT READS IS OF BULK AT MOST 1048576: true; the input reads as it did. -/
def fnExactEvaluateRewritingUptoRow : OpenClaim := { program := "ytcllfkplpdppiaagreat", sum := "8393fb5413852ec39765085388a390c721c6608d977fb579ef3d0dc423047f54", func := "loop.example/g01918/laws.FnExactEvaluateRewriting", spec := "fnExactEvaluateRewriting", unfollowed := true, recurses := true, apart := false, narrowed := true }
def FnExactEvaluateRewritingUptoSaid : Prop := fnExactEvaluateRewritingUptoRow.holds Tryz.pinned (OpenSpec.upto fnExactEvaluateRewritingSpec)

/-- 'laws.FnExactIsPurified', WHERE WHAT IT READS IS OF BULK AT MOST 1048576: true; the input reads as it did. -/
def fnExactIsPurifiedUptoRow : OpenClaim := { program := "ytcllfkplpdppiaagreat", sum := "8393fb5413852ec39765085388a390c721c6608d977fb579ef3d0dc423047f54", func := "loop.example/g01918/laws.FnExactIsPurified", spec := "fnExactIsPurified", unfollowed := true, recurses := true, apart := false, narrowed := true }
def FnExactIsPurifiedUptoSaid : Prop := fnExactIsPurifiedUptoRow.holds Tryz.pinned (OpenSpec.upto fnExactIsPurifiedSpec)

/-- 'laws.FnExactRewriting', WHERE WHAT IT READS IS OF BULK AT MOST 1048576: true; the input reads as it did. -/
def fnExactRewritingUptoRow : OpenClaim := { program := "ytcllfkplpdppiaagreat", sum := "8393fb5413852ec39765085388a390c721c6608d977fb579ef3d0dc423047f54", func := "loop.example/g01918/laws.FnExactRewriting", spec := "fnExactRewriting", unfollowed := true, recurses := true, apart := false, narrowed := true }
def FnExactRewritingUptoSaid : Prop := fnExactRewritingUptoRow.holds Tryz.pinned (OpenSpec.upto fnExactRewritingSpec)

/-- 'laws.FnClassification', WHERE WHAT IT READS IS OF BULK AT MOST 1048576: true; the input reads as it did. -/
def fnClassificationUptoRow : OpenClaim := { program := "ytcllfkplpdppiaagreat", sum := "8393fb5413852ec39765085388a390c721c6608d977fb579ef3d0dc423047f54", func := "loop.example/g01918/laws.FnClassification", spec := "fnClassification", inPlace := ["internal/abi.NoEscape", "internal/bytealg.MakeNoZero"], unfollowed := true, recurses := true, apart := false, narrowed := true }
def FnClassificationUptoSaid : Prop := fnClassificationUptoRow.holds Tryz.pinned (OpenSpec.upto fnClassificationSpec)

/-- 'laws.FnExactIrrelevantFacts', WHERE WHAT IT READS IS OF BULK AT MOST 1048576: true; the input reads as it did. -/
def fnExactIrrelevantFactsUptoRow : OpenClaim := { program := "ytcllfkplpdppiaagreat", sum := "8393fb5413852ec39765085388a390c721c6608d977fb579ef3d0dc423047f54", func := "loop.example/g01918/laws.FnExactIrrelevantFacts", spec := "fnExactIrrelevantFacts", unfollowed := true, recurses := true, apart := false, narrowed := true }
def FnExactIrrelevantFactsUptoSaid : Prop := fnExactIrrelevantFactsUptoRow.holds Tryz.pinned (OpenSpec.upto fnExactIrrelevantFactsSpec)

/-- 'laws.FnHoldsIn', WHERE WHAT IT READS IS OF BULK AT MOST 1048576: true; the input reads as it did. -/
def fnHoldsInUptoRow : OpenClaim := { program := "ytcllfkplpdppiaagreat", sum := "8393fb5413852ec39765085388a390c721c6608d977fb579ef3d0dc423047f54", func := "loop.example/g01918/laws.FnHoldsIn", spec := "fnHoldsIn", unfollowed := true, recurses := true, apart := false, narrowed := true }
def FnHoldsInUptoSaid : Prop := fnHoldsInUptoRow.holds Tryz.pinned (OpenSpec.upto fnHoldsInSpec)

/-- 'laws.FnExactFalsityClauses', WHERE WHAT IT READS IS OF BULK AT MOST 1048576: true; the input reads as it did. -/
def fnExactFalsityClausesUptoRow : OpenClaim := { program := "ytcllfkplpdppiaagreat", sum := "8393fb5413852ec39765085388a390c721c6608d977fb579ef3d0dc423047f54", func := "loop.example/g01918/laws.FnExactFalsityClauses", spec := "fnExactFalsityClauses", unfollowed := true, recurses := true, apart := false, narrowed := true }
def FnExactFalsityClausesUptoSaid : Prop := fnExactFalsityClausesUptoRow.holds Tryz.pinned (OpenSpec.upto fnExactFalsityClausesSpec)

/-- 'laws.FnExactCertainByFixpoint', WHERE WHAT IT READS IS OF BULK AT MOST 1048576: true; the input reads as it did. -/
def fnExactCertainByFixpointUptoRow : OpenClaim := { program := "ytcllfkplpdppiaagreat", sum := "8393fb5413852ec39765085388a390c721c6608d977fb579ef3d0dc423047f54", func := "loop.example/g01918/laws.FnExactCertainByFixpoint", spec := "fnExactCertainByFixpoint", unfollowed := true, recurses := true, apart := false, narrowed := true }
def FnExactCertainByFixpointUptoSaid : Prop := fnExactCertainByFixpointUptoRow.holds Tryz.pinned (OpenSpec.upto fnExactCertainByFixpointSpec)

end Rows
end Go.Proofs.YtcllfkplpdppiaaGreat
