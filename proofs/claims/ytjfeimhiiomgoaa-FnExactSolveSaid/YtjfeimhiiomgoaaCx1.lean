import Derived.Test.YtjfeimhiiomgoaaX3
import Derived.Test.YtjfeimhiiomgoaaFn1
namespace Go.Proofs.YtjfeimhiiomgoaaH
open Go
def ioTab (f : Nat) : List Nat :=
  match f with
  | 21 => [0]
  | 22 => [0]
  | 27 => [0]
  | 28 => [0]
  | 46 => [0]
  | 51 => [0]
  | 54 => [0]
  | _ => []
abbrev noExt : Ext := X0
def cx : Cx := ⟨Tab, ioTab, CallOk Tab noExt ioTab⟩
end Go.Proofs.YtjfeimhiiomgoaaH
