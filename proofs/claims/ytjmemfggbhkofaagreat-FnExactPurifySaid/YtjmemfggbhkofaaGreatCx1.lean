import Derived.Test.YtjmemfggbhkofaaGreatX4
import Derived.Test.YtjmemfggbhkofaaGreatFn1
namespace Go.Proofs.YtjmemfggbhkofaaGreatH
open Go
def ioTab (f : Nat) : List Nat :=
  match f with
  | 32 => [0]
  | 33 => [0]
  | 77 => [0]
  | 78 => [0]
  | 79 => [0]
  | 80 => [0]
  | 107 => [0]
  | 140 => [0]
  | 155 => [3]
  | _ => []
abbrev noExt : Ext := X0
def cx : Cx := ⟨Tab, ioTab, CallOk Tab noExt ioTab⟩
end Go.Proofs.YtjmemfggbhkofaaGreatH
