/-
  No cell of these rows narrows 'for every input' (looked for: loops, veiled, ifaces, maps, wideKeys, modest, calm, conditions, laid).
  DERIVED. THE GIVEN ROWS OF THIS SEAT. 3 by the template 'for every input the law returns true; each argument reads behind the call as it read before'; 0 by the template 'total and deterministic' (their statements: YtjfeimhiiomgoaaGreatTotals.lean).
  GIVEN WITH THE SEED: the statements are not yours to turn. If you find one false, say at which input.
  Laid BY PROGRAM, IN A SANDBOX (cutbox-rows.mjs): the forced cells as the released guide's own fill.sh prints them over the translation e4f248709d2f80e4… (all of the seat's roots in one cut). By AI agents, Wed Nov 11 2026. No macro, syntax, notation, axiom, sorry.
-/
import Derived.Test.YtjfeimhiiomgoaaGreatChecked
import GoSem.Claim
import GoSem.ClaimJoined
import GoSem.ClaimMapViews
import Derived.JoinedTies
import Derived.KernelRfl
namespace Go.Proofs.YtjfeimhiiomgoaaGreat
/- THE CELL 'sum', in the pinned program and in every row, IS THE sha256 OF THE DUMP (.gsa) THAT YtjfeimhiiomgoaaGreatProg.lean LOADS. Nothing in Lean hashes anything: it is a label: what it is worth is what the hold of that sum in a sandbox is worth. -/
noncomputable def Tryz.pinned : Pinned := { name := "ytjfeimhiiomgoaagreat", sum := "e4f248709d2f80e4ea46f5d93a55c89fb08ef4e01f65e019c199f953639c925b", checked := Tryz.checked }
namespace Rows
def none {H : Type} : Left H := { results := [], args := [] }

/-- 'laws.FnExactRewriting': WHATEVER THE INPUT: true; the input reads as it did. -/
def fnExactRewritingSpec : ChangeSpec := { name := "fnExactRewriting", fn := fun _ => fun
  | [d1, d2] => { results := [.lit (.bool true)], args := [d1, d2] }
  | _ => none }
def fnExactRewritingRow : OpenClaim := { program := "ytjfeimhiiomgoaagreat", sum := "e4f248709d2f80e4ea46f5d93a55c89fb08ef4e01f65e019c199f953639c925b", func := "loop.example/g01918/laws.FnExactRewriting", spec := "fnExactRewriting", unfollowed := true, recurses := true, apart := false }
def FnExactRewritingSaid : Prop := fnExactRewritingRow.holds Tryz.pinned (OpenSpec.ofChange fnExactRewritingSpec)

/-- ITS FALSE NEIGHBOUR: 'it returns false'. Refute it at one input. -/
def fnExactRewritingWrong : ChangeSpec := { name := "fnExactRewriting", fn := fun _ => fun
  | [d1, d2] => { results := [.lit (.bool false)], args := [d1, d2] }
  | _ => none }
def FnExactRewritingWrongFalsely : Prop := fnExactRewritingRow.holds Tryz.pinned (OpenSpec.ofChange fnExactRewritingWrong)

/-- 'laws.FnExactCertainByRewriting': WHATEVER THE INPUT: true; the input reads as it did. -/
def fnExactCertainByRewritingSpec : ChangeSpec := { name := "fnExactCertainByRewriting", fn := fun _ => fun
  | [d1, d2] => { results := [.lit (.bool true)], args := [d1, d2] }
  | _ => none }
def fnExactCertainByRewritingRow : OpenClaim := { program := "ytjfeimhiiomgoaagreat", sum := "e4f248709d2f80e4ea46f5d93a55c89fb08ef4e01f65e019c199f953639c925b", func := "loop.example/g01918/laws.FnExactCertainByRewriting", spec := "fnExactCertainByRewriting", unfollowed := true, recurses := true, apart := false }
def FnExactCertainByRewritingSaid : Prop := fnExactCertainByRewritingRow.holds Tryz.pinned (OpenSpec.ofChange fnExactCertainByRewritingSpec)

/-- ITS FALSE NEIGHBOUR: 'it returns false'. Refute it at one input. -/
def fnExactCertainByRewritingWrong : ChangeSpec := { name := "fnExactCertainByRewriting", fn := fun _ => fun
  | [d1, d2] => { results := [.lit (.bool false)], args := [d1, d2] }
  | _ => none }
def FnExactCertainByRewritingWrongFalsely : Prop := fnExactCertainByRewritingRow.holds Tryz.pinned (OpenSpec.ofChange fnExactCertainByRewritingWrong)

/-- 'laws.FnSolverCertainty': WHATEVER THE INPUT: true; the input reads as it did. -/
def fnSolverCertaintySpec : ChangeSpec := { name := "fnSolverCertainty", fn := fun _ => fun
  | [d] => { results := [.lit (.bool true)], args := [d] }
  | _ => none }
def fnSolverCertaintyRow : OpenClaim := { program := "ytjfeimhiiomgoaagreat", sum := "e4f248709d2f80e4ea46f5d93a55c89fb08ef4e01f65e019c199f953639c925b", func := "loop.example/g01918/laws.FnSolverCertainty", spec := "fnSolverCertainty", unfollowed := true, recurses := true, apart := false }
def FnSolverCertaintySaid : Prop := fnSolverCertaintyRow.holds Tryz.pinned (OpenSpec.ofChange fnSolverCertaintySpec)

/-- ITS FALSE NEIGHBOUR: 'it returns false'. Refute it at one input. -/
def fnSolverCertaintyWrong : ChangeSpec := { name := "fnSolverCertainty", fn := fun _ => fun
  | [d] => { results := [.lit (.bool false)], args := [d] }
  | _ => none }
def FnSolverCertaintyWrongFalsely : Prop := fnSolverCertaintyRow.holds Tryz.pinned (OpenSpec.ofChange fnSolverCertaintyWrong)

/- THE SECOND FORM. 'bulk': how many values and letters a reading holds, each counted each time it is reached (what is shared counts as often as it is met; a slice's spare places count too). A statement '..UptoSaid' is the law's where the arguments, and the package variables that the reading takes, are together of bulk at most 1048576: NARROWER than '..Said'. Prove '..Said' where nothing that the law and all that it calls make is longer than what came in: it says more and counts as full. Else prove '..UptoSaid'. A law counts once. -/
mutual
def uptoBulk {H : Type} : DataW H → Nat
  | .lit (.string bytes) => bytes.length + 1
  | .lit _ => 1
  | .nil => 1
  | .ptr d => uptoBulk d + 1
  | .slice elems spare => uptoBulkAll elems + uptoBulkAll spare + 1
  | .agg parts => uptoBulkAll parts + 1
  | .iface _ d => uptoBulk d + 1
  | .map entries => uptoBulkEntries entries + 1
  | .held _ => 1
def uptoBulkAll {H : Type} : List (DataW H) → Nat
  | [] => 0
  | d :: r => uptoBulk d + uptoBulkAll r
def uptoBulkEntries {H : Type} : List (Lit × DataW H) → Nat
  | [] => 0
  | x :: r => uptoBulkEntry x + uptoBulkEntries r
def uptoBulkEntry {H : Type} : Lit × DataW H → Nat
  | (.string bytes, d) => bytes.length + uptoBulk d + 1
  | (_, d) => uptoBulk d + 1
 end
def uptoSmall : (H : Type) → List (DataW H) → Bool := fun _ ds => decide (uptoBulkAll ds ≤ 1048576)
def OpenSpec.upto (s : _root_.Go.ChangeSpec) : _root_.Go.OpenSpec := { _root_.Go.OpenSpec.ofChange s with cond := some uptoSmall }

/-- 'laws.FnExactRewriting', WHERE WHAT IT READS IS OF BULK AT MOST 1048576: true; the input reads as it did. -/
def fnExactRewritingUptoRow : OpenClaim := { program := "ytjfeimhiiomgoaagreat", sum := "e4f248709d2f80e4ea46f5d93a55c89fb08ef4e01f65e019c199f953639c925b", func := "loop.example/g01918/laws.FnExactRewriting", spec := "fnExactRewriting", unfollowed := true, recurses := true, apart := false, narrowed := true }
def FnExactRewritingUptoSaid : Prop := fnExactRewritingUptoRow.holds Tryz.pinned (OpenSpec.upto fnExactRewritingSpec)

/-- 'laws.FnExactCertainByRewriting', WHERE WHAT IT READS IS OF BULK AT MOST 1048576: true; the input reads as it did. -/
def fnExactCertainByRewritingUptoRow : OpenClaim := { program := "ytjfeimhiiomgoaagreat", sum := "e4f248709d2f80e4ea46f5d93a55c89fb08ef4e01f65e019c199f953639c925b", func := "loop.example/g01918/laws.FnExactCertainByRewriting", spec := "fnExactCertainByRewriting", unfollowed := true, recurses := true, apart := false, narrowed := true }
def FnExactCertainByRewritingUptoSaid : Prop := fnExactCertainByRewritingUptoRow.holds Tryz.pinned (OpenSpec.upto fnExactCertainByRewritingSpec)

/-- 'laws.FnSolverCertainty', WHERE WHAT IT READS IS OF BULK AT MOST 1048576: true; the input reads as it did. -/
def fnSolverCertaintyUptoRow : OpenClaim := { program := "ytjfeimhiiomgoaagreat", sum := "e4f248709d2f80e4ea46f5d93a55c89fb08ef4e01f65e019c199f953639c925b", func := "loop.example/g01918/laws.FnSolverCertainty", spec := "fnSolverCertainty", unfollowed := true, recurses := true, apart := false, narrowed := true }
def FnSolverCertaintyUptoSaid : Prop := fnSolverCertaintyUptoRow.holds Tryz.pinned (OpenSpec.upto fnSolverCertaintySpec)

end Rows
end Go.Proofs.YtjfeimhiiomgoaaGreat
