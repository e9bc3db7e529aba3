import Derived.Test.YtamibblcpccjlaaGreatX3
import Derived.Test.YtamibblcpccjlaaGreatFn1
namespace Go.Proofs.YtamibblcpccjlaaGreatH
open Go
def ioTab (f : Nat) : List Nat :=
  match f with
  | 19 => [0]
  | 20 => [0]
  | 21 => [0]
  | 22 => [0]
  | 23 => [0]
  | 60 => [0]
  | 61 => [0]
  | 62 => [0]
  | 63 => [0]
  | 64 => [0]
  | 67 => [0]
  | 87 => [0]
  | 100 => [0]
  | 101 => [0]
  | 102 => [0]
  | 103 => [0]
  | 122 => [0]
  | _ => []
abbrev noExt : Ext := X0
def cx : Cx := ⟨Tab, ioTab, CallOk Tab noExt ioTab⟩
end Go.Proofs.YtamibblcpccjlaaGreatH
