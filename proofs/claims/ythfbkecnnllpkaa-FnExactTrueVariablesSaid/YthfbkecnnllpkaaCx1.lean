/- The functions of the first seat, and which parameters they write. -/
import Derived.Test.YthfbkecnnllpkaaHm30
import Derived.Test.YthfbkecnnllpkaaFn1
namespace Go.Proofs.YthfbkecnnllpkaaH
open Go
def ioTab (f : Nat) : List Nat :=
  match f with
  | 19 => [0] | 25 => [0] | 37 => [0] | 68 => [0] | 69 => [0] | 80 => [0] | 81 => [0] | 82 => [0] | 84 => [0]
  | _ => []
def cx : Cx := ⟨Tab, ioTab, fun _ _ _ _ => False⟩
end Go.Proofs.YthfbkecnnllpkaaH
