import Derived.Test.YtbpdhmbdpjafeaaGreatX3
import Derived.Test.YtbpdhmbdpjafeaaGreatFn1
namespace Go.Proofs.YtbpdhmbdpjafeaaGreatH
open Go
def ioTab (f : Nat) : List Nat :=
  match f with
  | 14 => [0]
  | 15 => [0]
  | 16 => [0]
  | 17 => [0]
  | 41 => [0]
  | 42 => [0]
  | 43 => [0]
  | 52 => [0]
  | 65 => [0]
  | 83 => [0]
  | 86 => [0]
  | 98 => [0]
  | 111 => [3]
  | 122 => [0]
  | _ => []
abbrev noExt : Ext := X0
def cx : Cx := ⟨Tab, ioTab, CallOk Tab noExt ioTab⟩
end Go.Proofs.YtbpdhmbdpjafeaaGreatH
