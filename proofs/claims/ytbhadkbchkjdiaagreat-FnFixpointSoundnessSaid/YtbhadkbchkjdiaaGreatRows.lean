/-
  No cell of these rows narrows 'for every input' (looked for: loops, veiled, ifaces, maps, wideKeys, modest, calm, conditions, laid).
  DERIVED. THE GIVEN ROWS OF THIS SEAT. 2 by the template 'for every input the law returns true; each argument reads behind the call as it read before'; 0 by the template 'total and deterministic' (their statements: YtbhadkbchkjdiaaGreatTotals.lean).
  GIVEN WITH THE SEED: the statements are not yours to turn. If you find one false, say at which input.
  Laid BY PROGRAM, IN A SANDBOX (cutbox-rows.mjs): the forced cells as the released guide's own fill.sh prints them over the translation e0a90503fa120082… (all of the seat's roots in one cut). By AI agents, Wed Nov 11 2026. No macro, syntax, notation, axiom, sorry.
-/
import Derived.Test.YtbhadkbchkjdiaaGreatChecked
import GoSem.Claim
import GoSem.ClaimJoined
import GoSem.ClaimMapViews
import Derived.JoinedTies
import Derived.KernelRfl
namespace Go.Proofs.YtbhadkbchkjdiaaGreat
/- THE CELL 'sum', in the pinned program and in every row, IS THE sha256 OF THE DUMP (.gsa) THAT YtbhadkbchkjdiaaGreatProg.lean LOADS. Nothing in Lean hashes anything: it is a label: what it is worth is what the hold of that sum in a sandbox is worth. -/
noncomputable def Tryz.pinned : Pinned := { name := "ytbhadkbchkjdiaagreat", sum := "e0a90503fa12008208f3993afb071333bda928c10581388d9a9f5054d38c5fed", checked := Tryz.checked }
namespace Rows
def none {H : Type} : Left H := { results := [], args := [] }

/-- 'laws.FnFalsityClauses': WHATEVER THE INPUT: true; the input reads as it did. -/
def fnFalsityClausesSpec : ChangeSpec := { name := "fnFalsityClauses", fn := fun _ => fun
  | [d] => { results := [.lit (.bool true)], args := [d] }
  | _ => none }
def fnFalsityClausesRow : OpenClaim := { program := "ytbhadkbchkjdiaagreat", sum := "e0a90503fa12008208f3993afb071333bda928c10581388d9a9f5054d38c5fed", func := "loop.example/g01918/laws.FnFalsityClauses", spec := "fnFalsityClauses", unfollowed := true, recurses := true, apart := false }
def FnFalsityClausesSaid : Prop := fnFalsityClausesRow.holds Tryz.pinned (OpenSpec.ofChange fnFalsityClausesSpec)

/-- ITS FALSE NEIGHBOUR: 'it returns false'. Refute it at one input. -/
def fnFalsityClausesWrong : ChangeSpec := { name := "fnFalsityClauses", fn := fun _ => fun
  | [d] => { results := [.lit (.bool false)], args := [d] }
  | _ => none }
def FnFalsityClausesWrongFalsely : Prop := fnFalsityClausesRow.holds Tryz.pinned (OpenSpec.ofChange fnFalsityClausesWrong)

/-- 'laws.FnFixpointSoundness': WHATEVER THE INPUT: true; the input reads as it did. -/
def fnFixpointSoundnessSpec : ChangeSpec := { name := "fnFixpointSoundness", fn := fun _ => fun
  | [d] => { results := [.lit (.bool true)], args := [d] }
  | _ => none }
def fnFixpointSoundnessRow : OpenClaim := { program := "ytbhadkbchkjdiaagreat", sum := "e0a90503fa12008208f3993afb071333bda928c10581388d9a9f5054d38c5fed", func := "loop.example/g01918/laws.FnFixpointSoundness", spec := "fnFixpointSoundness", unfollowed := true, recurses := true, apart := false }
def FnFixpointSoundnessSaid : Prop := fnFixpointSoundnessRow.holds Tryz.pinned (OpenSpec.ofChange fnFixpointSoundnessSpec)

/-- ITS FALSE NEIGHBOUR: 'it returns false'. Refute it at one input. -/
def fnFixpointSoundnessWrong : ChangeSpec := { name := "fnFixpointSoundness", fn := fun _ => fun
  | [d] => { results := [.lit (.bool false)], args := [d] }
  | _ => none }
def FnFixpointSoundnessWrongFalsely : Prop := fnFixpointSoundnessRow.holds Tryz.pinned (OpenSpec.ofChange fnFixpointSoundnessWrong)

/- THE SECOND FORM. 'bulk': how many values and letters a reading holds, each counted each time it is reached (what is shared counts as often as it is met; a slice's spare places count too). A statement '..UptoSaid' is the law's where the arguments, and the package variables that the reading takes, are together of bulk at most 1048576: NARROWER than '..Said'. Prove '..Said' where nothing that the law and all that it calls make is longer than what came in: it says more and counts as full. Else prove '..UptoSaid'. A law counts once. -/
mutual
def uptoBulk {H : Type} : DataW H → Nat
  | .lit (.string bytes) => bytes.length + 1
  | .lit _ => 1
  | .nil => 1
  | .ptr d => uptoBulk d + 1
  | .slice elems spare => uptoBulkAll elems + uptoBulkAll spare + 1
  | .agg parts => uptoBulkAll parts + 1
  | .iface _ d => uptoBulk d + 1
  | .map entries => uptoBulkEntries entries + 1
  | .held _ => 1
def uptoBulkAll {H : Type} : List (DataW H) → Nat
  | [] => 0
  | d :: r => uptoBulk d + uptoBulkAll r
def uptoBulkEntries {H : Type} : List (Lit × DataW H) → Nat
  | [] => 0
  | x :: r => uptoBulkEntry x + uptoBulkEntries r
def uptoBulkEntry {H : Type} : Lit × DataW H → Nat
  | (.string bytes, d) => bytes.length + uptoBulk d + 1
  | (_, d) => uptoBulk d + 1
 end
def uptoSmall : (H : Type) → List (DataW H) → Bool := fun _ ds => decide (uptoBulkAll ds ≤ 1048576)
def OpenSpec.upto (s : _root_.Go.ChangeSpec) : _root_.Go.OpenSpec := { _root_.Go.OpenSpec.ofChange s with cond := some uptoSmall }

/-- 'laws.FnFalsityClauses', WHERE WHAT IT READS IS OF BULK AT MOST 1048576: true; the input reads as it did. -/
def fnFalsityClausesUptoRow : OpenClaim := { program := "ytbhadkbchkjdiaagreat", sum := "e0a90503fa12008208f3993afb071333bda928c10581388d9a9f5054d38c5fed", func := "loop.example/g01918/laws.FnFalsityClauses", spec := "fnFalsityClauses", unfollowed := true, recurses := true, apart := false, narrowed := true }
def FnFalsityClausesUptoSaid : Prop := fnFalsityClausesUptoRow.holds Tryz.pinned (OpenSpec.upto fnFalsityClausesSpec)

/-- 'laws.FnFixpointSoundness', WHERE WHAT IT READS IS OF BULK AT MOST 1048576: true; the input reads as it did. -/
def fnFixpointSoundnessUptoRow : OpenClaim := { program := "ytbhadkbchkjdiaagreat", sum := "e0a90503fa12008208f3993afb071333bda928c10581388d9a9f5054d38c5fed", func := "loop.example/g01918/laws.FnFixpointSoundness", spec := "fnFixpointSoundness", unfollowed := true, recurses := true, apart := false, narrowed := true }
def FnFixpointSoundnessUptoSaid : Prop := fnFixpointSoundnessUptoRow.holds Tryz.pinned (OpenSpec.upto fnFixpointSoundnessSpec)

end Rows
end Go.Proofs.YtbhadkbchkjdiaaGreat
