import Derived.Test.YtjfeimhiiomgoaaX3
import Derived.Test.YtjfeimhiiomgoaaFn1
namespace Go.Proofs.YtjfeimhiiomgoaaH
open Go
def ioTab (f : Nat) : List Nat :=
  match f with
  | 27 => [0]
  | 28 => [0]
  | 48 => [0]
  | 51 => [0]
  | 54 => [0]
  | 64 => [0]
  | 65 => [0]
  | 66 => [0]
  | 69 => [0]
  | _ => []
abbrev noExt : Ext := X0
def cx : Cx := ⟨Tab, ioTab, CallOk Tab noExt ioTab⟩
end Go.Proofs.YtjfeimhiiomgoaaH
