/-
  No cell of these rows narrows 'for every input' (looked for: loops, veiled, ifaces, maps, wideKeys, modest, calm, conditions, laid).
  DERIVED. THE GIVEN ROWS OF THIS SEAT. 4 by the template 'for every input the law returns true; each argument reads behind the call as it read before'; 0 by the template 'total and deterministic' (their statements: YtjmemfggbhkofaaGreatTotals.lean).
  GIVEN WITH THE SEED: the statements are not yours to turn. If you find one false, say at which input.
  Laid BY PROGRAM, IN A SANDBOX (cutbox-rows.mjs): the forced cells as the released guide's own fill.sh prints them over the translation 0b0defd8969886ef… (all of the seat's roots in one cut). By AI agents, Wed Nov 11 2026. No macro, syntax, notation, axiom, sorry.
-/
import Derived.Test.YtjmemfggbhkofaaGreatChecked
import GoSem.Claim
import GoSem.ClaimJoined
import GoSem.ClaimMapViews
import Derived.JoinedTies
import Derived.KernelRfl
namespace Go.Proofs.YtjmemfggbhkofaaGreat
/- THE CELL 'sum', in the pinned program and in every row, IS THE sha256 OF THE DUMP (.gsa) THAT YtjmemfggbhkofaaGreatProg.lean LOADS. Nothing in Lean hashes anything: it is a label: what it is worth is what the hold of that sum in a sandbox is worth. -/
noncomputable def Tryz.pinned : Pinned := { name := "ytjmemfggbhkofaagreat", sum := "0b0defd8969886ef2d2cd08c3e6759391cbfbe8fd446190676eaf20d1f498989", checked := Tryz.checked }
namespace Rows
def none {H : Type} : Left H := { results := [], args := [] }

/-- 'laws.FnPurification': WHATEVER THE INPUT: true; the input reads as it did. -/
def fnPurificationSpec : ChangeSpec := { name := "fnPurification", fn := fun _ => fun
  | [d] => { results := [.lit (.bool true)], args := [d] }
  | _ => none }
def fnPurificationRow : OpenClaim := { program := "ytjmemfggbhkofaagreat", sum := "0b0defd8969886ef2d2cd08c3e6759391cbfbe8fd446190676eaf20d1f498989", func := "loop.example/g01918/laws.FnPurification", spec := "fnPurification", unfollowed := true, recurses := true, apart := false }
def FnPurificationSaid : Prop := fnPurificationRow.holds Tryz.pinned (OpenSpec.ofChange fnPurificationSpec)

/-- ITS FALSE NEIGHBOUR: 'it returns false'. Refute it at one input. -/
def fnPurificationWrong : ChangeSpec := { name := "fnPurification", fn := fun _ => fun
  | [d] => { results := [.lit (.bool false)], args := [d] }
  | _ => none }
def FnPurificationWrongFalsely : Prop := fnPurificationRow.holds Tryz.pinned (OpenSpec.ofChange fnPurificationWrong)

/-- 'laws.FnDerivationSoundness': WHATEVER THE INPUT: true; the input reads as it did. -/
def fnDerivationSoundnessSpec : ChangeSpec := { name := "fnDerivationSoundness", fn := fun _ => fun
  | [d] => { results := [.lit (.bool true)], args := [d] }
  | _ => none }
def fnDerivationSoundnessRow : OpenClaim := { program := "ytjmemfggbhkofaagreat", sum := "0b0defd8969886ef2d2cd08c3e6759391cbfbe8fd446190676eaf20d1f498989", func := "loop.example/g01918/laws.FnDerivationSoundness", spec := "fnDerivationSoundness", unfollowed := true, recurses := true, apart := false }
def FnDerivationSoundnessSaid : Prop := fnDerivationSoundnessRow.holds Tryz.pinned (OpenSpec.ofChange fnDerivationSoundnessSpec)

/-- ITS FALSE NEIGHBOUR: 'it returns false'. Refute it at one input. -/
def fnDerivationSoundnessWrong : ChangeSpec := { name := "fnDerivationSoundness", fn := fun _ => fun
  | [d] => { results := [.lit (.bool false)], args := [d] }
  | _ => none }
def FnDerivationSoundnessWrongFalsely : Prop := fnDerivationSoundnessRow.holds Tryz.pinned (OpenSpec.ofChange fnDerivationSoundnessWrong)

/-- 'laws.FnExactPurifyOnce': WHATEVER THE INPUT: true; the input reads as it did. -/
def fnExactPurifyOnceSpec : ChangeSpec := { name := "fnExactPurifyOnce", fn := fun _ => fun
  | [d1, d2] => { results := [.lit (.bool true)], args := [d1, d2] }
  | _ => none }
def fnExactPurifyOnceRow : OpenClaim := { program := "ytjmemfggbhkofaagreat", sum := "0b0defd8969886ef2d2cd08c3e6759391cbfbe8fd446190676eaf20d1f498989", func := "loop.example/g01918/laws.FnExactPurifyOnce", spec := "fnExactPurifyOnce", unfollowed := true, recurses := true, apart := false }
def FnExactPurifyOnceSaid : Prop := fnExactPurifyOnceRow.holds Tryz.pinned (OpenSpec.ofChange fnExactPurifyOnceSpec)

/-- ITS FALSE NEIGHBOUR: 'it returns false'. Refute it at one input. -/
def fnExactPurifyOnceWrong : ChangeSpec := { name := "fnExactPurifyOnce", fn := fun _ => fun
  | [d1, d2] => { results := [.lit (.bool false)], args := [d1, d2] }
  | _ => none }
def FnExactPurifyOnceWrongFalsely : Prop := fnExactPurifyOnceRow.holds Tryz.pinned (OpenSpec.ofChange fnExactPurifyOnceWrong)

/-- 'laws.FnExactPurify': WHATEVER THE INPUT: true; the input reads as it did. -/
def fnExactPurifySpec : ChangeSpec := { name := "fnExactPurify", fn := fun _ => fun
  | [d1, d2] => { results := [.lit (.bool true)], args := [d1, d2] }
  | _ => none }
def fnExactPurifyRow : OpenClaim := { program := "ytjmemfggbhkofaagreat", sum := "0b0defd8969886ef2d2cd08c3e6759391cbfbe8fd446190676eaf20d1f498989", func := "loop.example/g01918/laws.FnExactPurify", spec := "fnExactPurify", unfollowed := true, recurses := true, apart := false }
def FnExactPurifySaid : Prop := fnExactPurifyRow.holds Tryz.pinned (OpenSpec.ofChange fnExactPurifySpec)

/-- ITS FALSE NEIGHBOUR: 'it returns false'. Refute it at one input. -/
def fnExactPurifyWrong : ChangeSpec := { name := "fnExactPurify", fn := fun _ => fun
  | [d1, d2] => { results := [.lit (.bool false)], args := [d1, d2] }
  | _ => none }
def FnExactPurifyWrongFalsely : Prop := fnExactPurifyRow.holds Tryz.pinned (OpenSpec.ofChange fnExactPurifyWrong)

/- THE SECOND FORM. 'bulk': how many values and letters a reading holds, each counted each time it is reached (what is shared counts as often as it is met; a slice's spare places count too). A statement '..UptoSaid' is the law's where the arguments, and the package variables that the reading takes, are together of bulk at most 1048576: NARROWER than '..Said'. Prove '..Said' where nothing that the law and all that it calls make is longer than what came in: it says more and counts as full. Else prove '..UptoSaid'. A law counts once. -/
mutual
def uptoBulk {H : Type} : DataW H → Nat
  | .lit (.string bytes) => bytes.length + 1
  | .lit _ => 1
  | .nil => 1
  | .ptr d => uptoBulk d + 1
  | .slice elems spare => uptoBulkAll elems + uptoBulkAll spare + 1
  | .agg parts => uptoBulkAll parts + 1
  | .iface _ d => uptoBulk d + 1
  | .map entries => uptoBulkEntries entries + 1
  | .held _ => 1
def uptoBulkAll {H : Type} : List (DataW H) → Nat
  | [] => 0
  | d :: r => uptoBulk d + uptoBulkAll r
def uptoBulkEntries {H : Type} : List (Lit × DataW H) → Nat
  | [] => 0
  | x :: r => uptoBulkEntry x + uptoBulkEntries r
def uptoBulkEntry {H : Type} : Lit × DataW H → Nat
  | (.string bytes, d) => bytes.length + uptoBulk d + 1
  | (_, d) => uptoBulk d + 1
 end
def uptoSmall : (H : Type) → List (DataW H) → Bool := fun _ ds => decide (uptoBulkAll ds ≤ 1048576)
def OpenSpec.upto (s : _root_.Go.ChangeSpec) : _root_.Go.OpenSpec := { _root_.Go.OpenSpec.ofChange s with cond := some uptoSmall }

/-- 'laws.FnPurification', WHERE WHAT IT READS IS OF BULK AT MOST 1048576: true; the input reads as it did. -/
def fnPurificationUptoRow : OpenClaim := { program := "ytjmemfggbhkofaagreat", sum := "0b0defd8969886ef2d2cd08c3e6759391cbfbe8fd446190676eaf20d1f498989", func := "loop.example/g01918/laws.FnPurification", spec := "fnPurification", unfollowed := true, recurses := true, apart := false, narrowed := true }
def FnPurificationUptoSaid : Prop := fnPurificationUptoRow.holds Tryz.pinned (OpenSpec.upto fnPurificationSpec)

/-- 'laws.FnDerivationSoundness', WHERE WHAT IT READS IS OF BULK AT MOST 1048576: true; the input reads as it did. -/
def fnDerivationSoundnessUptoRow : OpenClaim := { program := "ytjmemfggbhkofaagreat", sum := "0b0defd8969886ef2d2cd08c3e6759391cbfbe8fd446190676eaf20d1f498989", func := "loop.example/g01918/laws.FnDerivationSoundness", spec := "fnDerivationSoundness", unfollowed := true, recurses := true, apart := false, narrowed := true }
def FnDerivationSoundnessUptoSaid : Prop := fnDerivationSoundnessUptoRow.holds Tryz.pinned (OpenSpec.upto fnDerivationSoundnessSpec)

/-- 'laws.FnExactPurifyOnce', WHERE WHAT IT READS IS OF BULK AT MOST 1048576: true; the input reads as it did. -/
def fnExactPurifyOnceUptoRow : OpenClaim := { program := "ytjmemfggbhkofaagreat", sum := "0b0defd8969886ef2d2cd08c3e6759391cbfbe8fd446190676eaf20d1f498989", func := "loop.example/g01918/laws.FnExactPurifyOnce", spec := "fnExactPurifyOnce", unfollowed := true, recurses := true, apart := false, narrowed := true }
def FnExactPurifyOnceUptoSaid : Prop := fnExactPurifyOnceUptoRow.holds Tryz.pinned (OpenSpec.upto fnExactPurifyOnceSpec)

/-- 'laws.FnExactPurify', WHERE WHAT IT READS IS OF BULK AT MOST 1048576: true; the input reads as it did. -/
def fnExactPurifyUptoRow : OpenClaim := { program := "ytjmemfggbhkofaagreat", sum := "0b0defd8969886ef2d2cd08c3e6759391cbfbe8fd446190676eaf20d1f498989", func := "loop.example/g01918/laws.FnExactPurify", spec := "fnExactPurify", unfollowed := true, recurses := true, apart := false, narrowed := true }
def FnExactPurifyUptoSaid : Prop := fnExactPurifyUptoRow.holds Tryz.pinned (OpenSpec.upto fnExactPurifySpec)

end Rows
end Go.Proofs.YtjmemfggbhkofaaGreat
