/-
  No cell of these rows narrows 'for every input' (looked for: loops, veiled, ifaces, maps, wideKeys, modest, calm, conditions, laid).
  DERIVED. THE GIVEN ROWS OF THIS SEAT. 5 by the template 'for every input the law returns true; each argument reads behind the call as it read before'; 0 by the template 'total and deterministic' (their statements: YtaanfdjhmhifiaaGreatTotals.lean).
  GIVEN WITH THE SEED: the statements are not yours to turn. If you find one false, say at which input.
  Laid BY PROGRAM, IN A SANDBOX (cutbox-rows.mjs): the forced cells as the released guide's own fill.sh prints them over the translation 333fccdeb85abda5… (all of the seat's roots in one cut). By AI agents, Wed Nov 11 2026. No macro, syntax, notation, axiom, sorry.
-/
import Derived.Test.YtaanfdjhmhifiaaGreatChecked
import GoSem.Claim
import GoSem.ClaimJoined
import GoSem.ClaimMapViews
import Derived.JoinedTies
import Derived.KernelRfl
namespace Go.Proofs.YtaanfdjhmhifiaaGreat
/- THE CELL 'sum', in the pinned program and in every row, IS THE sha256 OF THE DUMP (.gsa) THAT YtaanfdjhmhifiaaGreatProg.lean LOADS. Nothing in Lean hashes anything: it is a label: what it is worth is what the hold of that sum in a sandbox is worth. -/
noncomputable def Tryz.pinned : Pinned := { name := "ytaanfdjhmhifiaagreat", sum := "333fccdeb85abda5b00c37dfda596fd2eb07d68e971350da579ef53a4a71505b", checked := Tryz.checked }
namespace Rows
def none {H : Type} : Left H := { results := [], args := [] }

/-- 'laws.FnExactPurifyOnce': WHATEVER THE INPUT: true; the input reads as it did. -/
def fnExactPurifyOnceSpec : ChangeSpec := { name := "fnExactPurifyOnce", fn := fun _ => fun
  | [d1, d2] => { results := [.lit (.bool true)], args := [d1, d2] }
  | _ => none }
def fnExactPurifyOnceRow : OpenClaim := { program := "ytaanfdjhmhifiaagreat", sum := "333fccdeb85abda5b00c37dfda596fd2eb07d68e971350da579ef53a4a71505b", func := "loop.example/g01918/laws.FnExactPurifyOnce", spec := "fnExactPurifyOnce", unfollowed := true, recurses := true, apart := false }
def FnExactPurifyOnceSaid : Prop := fnExactPurifyOnceRow.holds Tryz.pinned (OpenSpec.ofChange fnExactPurifyOnceSpec)

/-- ITS FALSE NEIGHBOUR: 'it returns false'. Refute it at one input. -/
def fnExactPurifyOnceWrong : ChangeSpec := { name := "fnExactPurifyOnce", fn := fun _ => fun
  | [d1, d2] => { results := [.lit (.bool false)], args := [d1, d2] }
  | _ => none }
def FnExactPurifyOnceWrongFalsely : Prop := fnExactPurifyOnceRow.holds Tryz.pinned (OpenSpec.ofChange fnExactPurifyOnceWrong)

/-- 'laws.FnExactFixpointSets': WHATEVER THE INPUT: true; the input reads as it did. -/
def fnExactFixpointSetsSpec : ChangeSpec := { name := "fnExactFixpointSets", fn := fun _ => fun
  | [d1, d2] => { results := [.lit (.bool true)], args := [d1, d2] }
  | _ => none }
def fnExactFixpointSetsRow : OpenClaim := { program := "ytaanfdjhmhifiaagreat", sum := "333fccdeb85abda5b00c37dfda596fd2eb07d68e971350da579ef53a4a71505b", func := "loop.example/g01918/laws.FnExactFixpointSets", spec := "fnExactFixpointSets", unfollowed := true, recurses := true, apart := false }
def FnExactFixpointSetsSaid : Prop := fnExactFixpointSetsRow.holds Tryz.pinned (OpenSpec.ofChange fnExactFixpointSetsSpec)

/-- ITS FALSE NEIGHBOUR: 'it returns false'. Refute it at one input. -/
def fnExactFixpointSetsWrong : ChangeSpec := { name := "fnExactFixpointSets", fn := fun _ => fun
  | [d1, d2] => { results := [.lit (.bool false)], args := [d1, d2] }
  | _ => none }
def FnExactFixpointSetsWrongFalsely : Prop := fnExactFixpointSetsRow.holds Tryz.pinned (OpenSpec.ofChange fnExactFixpointSetsWrong)

/-- 'laws.FnExactPurify': WHATEVER THE INPUT: true; the input reads as it did. -/
def fnExactPurifySpec : ChangeSpec := { name := "fnExactPurify", fn := fun _ => fun
  | [d1, d2] => { results := [.lit (.bool true)], args := [d1, d2] }
  | _ => none }
def fnExactPurifyRow : OpenClaim := { program := "ytaanfdjhmhifiaagreat", sum := "333fccdeb85abda5b00c37dfda596fd2eb07d68e971350da579ef53a4a71505b", func := "loop.example/g01918/laws.FnExactPurify", spec := "fnExactPurify", unfollowed := true, recurses := true, apart := false }
def FnExactPurifySaid : Prop := fnExactPurifyRow.holds Tryz.pinned (OpenSpec.ofChange fnExactPurifySpec)

/-- ITS FALSE NEIGHBOUR: 'it returns false'. Refute it at one input. -/
def fnExactPurifyWrong : ChangeSpec := { name := "fnExactPurify", fn := fun _ => fun
  | [d1, d2] => { results := [.lit (.bool false)], args := [d1, d2] }
  | _ => none }
def FnExactPurifyWrongFalsely : Prop := fnExactPurifyRow.holds Tryz.pinned (OpenSpec.ofChange fnExactPurifyWrong)

/-- 'laws.FnExactIsValidDerivation': WHATEVER THE INPUT: true; the input reads as it did. -/
def fnExactIsValidDerivationSpec : ChangeSpec := { name := "fnExactIsValidDerivation", fn := fun _ => fun
  | [d1, d2, d3] => { results := [.lit (.bool true)], args := [d1, d2, d3] }
  | _ => none }
def fnExactIsValidDerivationRow : OpenClaim := { program := "ytaanfdjhmhifiaagreat", sum := "333fccdeb85abda5b00c37dfda596fd2eb07d68e971350da579ef53a4a71505b", func := "loop.example/g01918/laws.FnExactIsValidDerivation", spec := "fnExactIsValidDerivation", unfollowed := true, recurses := true, apart := false }
def FnExactIsValidDerivationSaid : Prop := fnExactIsValidDerivationRow.holds Tryz.pinned (OpenSpec.ofChange fnExactIsValidDerivationSpec)

/-- ITS FALSE NEIGHBOUR: 'it returns false'. Refute it at one input. -/
def fnExactIsValidDerivationWrong : ChangeSpec := { name := "fnExactIsValidDerivation", fn := fun _ => fun
  | [d1, d2, d3] => { results := [.lit (.bool false)], args := [d1, d2, d3] }
  | _ => none }
def FnExactIsValidDerivationWrongFalsely : Prop := fnExactIsValidDerivationRow.holds Tryz.pinned (OpenSpec.ofChange fnExactIsValidDerivationWrong)

/-- 'laws.FnExactFindDerivation': WHATEVER THE INPUT: true; the input reads as it did. -/
def fnExactFindDerivationSpec : ChangeSpec := { name := "fnExactFindDerivation", fn := fun _ => fun
  | [d1, d2] => { results := [.lit (.bool true)], args := [d1, d2] }
  | _ => none }
def fnExactFindDerivationRow : OpenClaim := { program := "ytaanfdjhmhifiaagreat", sum := "333fccdeb85abda5b00c37dfda596fd2eb07d68e971350da579ef53a4a71505b", func := "loop.example/g01918/laws.FnExactFindDerivation", spec := "fnExactFindDerivation", unfollowed := true, recurses := true, apart := false }
def FnExactFindDerivationSaid : Prop := fnExactFindDerivationRow.holds Tryz.pinned (OpenSpec.ofChange fnExactFindDerivationSpec)

/-- ITS FALSE NEIGHBOUR: 'it returns false'. Refute it at one input. -/
def fnExactFindDerivationWrong : ChangeSpec := { name := "fnExactFindDerivation", fn := fun _ => fun
  | [d1, d2] => { results := [.lit (.bool false)], args := [d1, d2] }
  | _ => none }
def FnExactFindDerivationWrongFalsely : Prop := fnExactFindDerivationRow.holds Tryz.pinned (OpenSpec.ofChange fnExactFindDerivationWrong)

/- THE SECOND FORM. 'bulk': how many values and letters a reading holds, each counted each time it is reached (what is shared counts as often as it is met; a slice's spare places count too). A statement '..UptoSaid' is the law's where the arguments, and the package variables that the reading takes, are together of bulk at most 1048576: NARROWER than '..Said'. Prove '..Said' where nothing that the law and all that it calls make is longer than what came in: it says more and counts as full. Else prove '..UptoSaid'. A law counts once. -/
mutual
def uptoBulk {H : Type} : DataW H → Nat
  | .lit (.string bytes) => bytes.length + 1
  | .lit _ => 1
  | .nil => 1
  | .ptr d => uptoBulk d + 1
  | .slice elems spare => uptoBulkAll elems + uptoBulkAll spare + 1
  | .agg parts => uptoBulkAll parts + 1
  | .iface _ d => uptoBulk d + 1
  | .map entries => uptoBulkEntries entries + 1
  | .held _ => 1
def uptoBulkAll {H : Type} : List (DataW H) → Nat
  | [] => 0
  | d :: r => uptoBulk d + uptoBulkAll r
def uptoBulkEntries {H : Type} : List (Lit × DataW H) → Nat
  | [] => 0
  | x :: r => uptoBulkEntry x + uptoBulkEntries r
def uptoBulkEntry {H : Type} : Lit × DataW H → Nat
  | (.string bytes, d) => bytes.length + uptoBulk d + 1
  | (_, d) => uptoBulk d + 1
 end
def uptoSmall : (H : Type) → List (DataW H) → Bool := fun _ ds => decide (uptoBulkAll ds ≤ 1048576)
def OpenSpec.upto (s : _root_.Go.ChangeSpec) : _root_.Go.OpenSpec := { _root_.Go.OpenSpec.ofChange s with cond := some uptoSmall }

/-- 'laws.FnExactPurifyOnce', WHERE WHAT IT READS IS OF BULK AT MOST 1048576: true; the input reads as it did. -/
def fnExactPurifyOnceUptoRow : OpenClaim := { program := "ytaanfdjhmhifiaagreat", sum := "333fccdeb85abda5b00c37dfda596fd2eb07d68e971350da579ef53a4a71505b", func := "loop.example/g01918/laws.FnExactPurifyOnce", spec := "fnExactPurifyOnce", unfollowed := true, recurses := true, apart := false, narrowed := true }
def FnExactPurifyOnceUptoSaid : Prop := fnExactPurifyOnceUptoRow.holds Tryz.pinned (OpenSpec.upto fnExactPurifyOnceSpec)

/-- 'laws.FnExactFixpointSets', WHERE WHAT IT READS IS OF BULK AT MOST 1048576: true; the input reads as it did. -/
def fnExactFixpointSetsUptoRow : OpenClaim := { program := "ytaanfdjhmhifiaagreat", sum := "333fccdeb85abda5b00c37dfda596fd2eb07d68e971350da579ef53a4a71505b", func := "loop.example/g01918/laws.FnExactFixpointSets", spec := "fnExactFixpointSets", unfollowed := true, recurses := true, apart := false, narrowed := true }
def FnExactFixpointSetsUptoSaid : Prop := fnExactFixpointSetsUptoRow.holds Tryz.pinned (OpenSpec.upto fnExactFixpointSetsSpec)

/-- 'laws.FnExactPurify', WHERE WHAT IT READS IS OF BULK AT MOST 1048576: true; the input reads as it did. -/
def fnExactPurifyUptoRow : OpenClaim := { program := "ytaanfdjhmhifiaagreat", sum := "333fccdeb85abda5b00c37dfda596fd2eb07d68e971350da579ef53a4a71505b", func := "loop.example/g01918/laws.FnExactPurify", spec := "fnExactPurify", unfollowed := true, recurses := true, apart := false, narrowed := true }
def FnExactPurifyUptoSaid : Prop := fnExactPurifyUptoRow.holds Tryz.pinned (OpenSpec.upto fnExactPurifySpec)

/-- 'laws.FnExactIsValidDerivation', WHERE WHAT IT READS IS OF BULK AT MOST 1048576: true; the input reads as it did. -/
def fnExactIsValidDerivationUptoRow : OpenClaim := { program := "ytaanfdjhmhifiaagreat", sum := "333fccdeb85abda5b00c37dfda596fd2eb07d68e971350da579ef53a4a71505b", func := "loop.example/g01918/laws.FnExactIsValidDerivation", spec := "fnExactIsValidDerivation", unfollowed := true, recurses := true, apart := false, narrowed := true }
def FnExactIsValidDerivationUptoSaid : Prop := fnExactIsValidDerivationUptoRow.holds Tryz.pinned (OpenSpec.upto fnExactIsValidDerivationSpec)

/-- 'laws.FnExactFindDerivation', WHERE WHAT IT READS IS OF BULK AT MOST 1048576: true; the input reads as it did. -/
def fnExactFindDerivationUptoRow : OpenClaim := { program := "ytaanfdjhmhifiaagreat", sum := "333fccdeb85abda5b00c37dfda596fd2eb07d68e971350da579ef53a4a71505b", func := "loop.example/g01918/laws.FnExactFindDerivation", spec := "fnExactFindDerivation", unfollowed := true, recurses := true, apart := false, narrowed := true }
def FnExactFindDerivationUptoSaid : Prop := fnExactFindDerivationUptoRow.holds Tryz.pinned (OpenSpec.upto fnExactFindDerivationSpec)

end Rows
end Go.Proofs.YtaanfdjhmhifiaaGreat
