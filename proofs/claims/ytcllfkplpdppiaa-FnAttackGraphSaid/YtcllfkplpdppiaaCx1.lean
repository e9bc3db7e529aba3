import Derived.Test.YtcllfkplpdppiaaX3
import Derived.Test.YtcllfkplpdppiaaFn1
namespace Go.Proofs.YtcllfkplpdppiaaH
open Go
def ioTab (f : Nat) : List Nat :=
  match f with
  | 24 => [0]
  | 43 => [0]
  | 44 => [0]
  | 45 => [0]
  | 59 => [0]
  | 60 => [0]
  | 63 => [0]
  | 64 => [0]
  | 70 => [0]
  | 71 => [0]
  | 72 => [0]
  | 73 => [0]
  | 79 => [0]
  | 80 => [0]
  | 81 => [0]
  | 82 => [0]
  | 84 => [0]
  | 85 => [0]
  | 87 => [0]
  | 88 => [0]
  | 96 => [0]
  | 98 => [0]
  | 99 => [2]
  | 100 => [4]
  | 104 => [3]
  | _ => []
abbrev noExt : Ext := X0
def cx : Cx := ⟨Tab, ioTab, CallOk Tab noExt ioTab⟩
end Go.Proofs.YtcllfkplpdppiaaH
