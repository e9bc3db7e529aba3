import Derived.Test.YtjfeimhiiomgoaaGreatX4
import Derived.Test.YtjfeimhiiomgoaaGreatFn1
namespace Go.Proofs.YtjfeimhiiomgoaaGreatH
open Go
def ioTab (f : Nat) : List Nat :=
  match f with
  | 58 => [0]
  | 123 => [0]
  | 124 => [0]
  | _ => []
abbrev noExt : Ext := X0
def cx : Cx := ⟨Tab, ioTab, CallOk Tab noExt ioTab⟩
end Go.Proofs.YtjfeimhiiomgoaaGreatH
