import Derived.Test.YtbpdhmbdpjafeaaDoorX3
import Derived.Test.YtbpdhmbdpjafeaaDoorFn1
namespace Go.Proofs.YtbpdhmbdpjafeaaDoorH
open Go
def ioTab (f : Nat) : List Nat :=
  match f with
  | 16 => [0]
  | 18 => [0]
  | 19 => [0]
  | 20 => [0]
  | 35 => [0]
  | 36 => [0]
  | 37 => [0]
  | 55 => [0]
  | _ => []
abbrev noExt : Ext := X0
def cx : Cx := ⟨Tab, ioTab, CallOk Tab noExt ioTab⟩
end Go.Proofs.YtbpdhmbdpjafeaaDoorH
