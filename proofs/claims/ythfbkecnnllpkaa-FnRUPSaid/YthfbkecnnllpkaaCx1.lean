/- The functions that the law reaches, and which parameters they write. -/
import Derived.Test.YthfbkecnnllpkaaHm30
import Derived.Test.YthfbkecnnllpkaaFn1
namespace Go.Proofs.YthfbkecnnllpkaaH
open Go
def ioTab (f : Nat) : List Nat :=
  match f with
  | 68 => [0]
  | 69 => [0]
  | 80 => [0]
  | 81 => [0]
  | 82 => [0]
  | 84 => [0]
  | _ => []
def noExt : Ext := fun _ _ _ _ _ => False
def cx : Cx := ⟨Tab, ioTab, CallOk Tab noExt ioTab⟩
end Go.Proofs.YthfbkecnnllpkaaH
