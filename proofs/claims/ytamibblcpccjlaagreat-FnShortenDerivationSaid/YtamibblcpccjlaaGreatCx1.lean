import Derived.Test.YtamibblcpccjlaaGreatX4
import Derived.Test.YtamibblcpccjlaaGreatFn1
namespace Go.Proofs.YtamibblcpccjlaaGreatH
open Go
def ioTab (f : Nat) : List Nat :=
  match f with
  | 20 => [0]
  | 21 => [0]
  | 23 => [0]
  | 45 => [0]
  | 47 => [0]
  | 60 => [0]
  | 63 => [0]
  | 64 => [0]
  | 67 => [0]
  | 84 => [0]
  | 87 => [0]
  | 100 => [0]
  | 101 => [0]
  | 102 => [0]
  | 103 => [0]
  | 122 => [0]
  | 123 => [0]
  | 124 => [0]
  | 132 => [3]
  | _ => []
abbrev noExt : Ext := X0
def cx : Cx := ⟨Tab, ioTab, CallOk Tab noExt ioTab⟩
end Go.Proofs.YtamibblcpccjlaaGreatH
