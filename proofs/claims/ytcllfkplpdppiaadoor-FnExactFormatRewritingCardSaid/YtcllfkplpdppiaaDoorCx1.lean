import Derived.Test.YtcllfkplpdppiaaDoorX3
import Derived.Test.YtcllfkplpdppiaaDoorFn1
namespace Go.Proofs.YtcllfkplpdppiaaDoorH
open Go
def ioTab (f : Nat) : List Nat :=
  match f with
  | 109 => [0]
  | 110 => [0]
  | 117 => [0]
  | 124 => [0]
  | 125 => [0]
  | 126 => [0]
  | 128 => [0]
  | 129 => [0]
  | 131 => [0]
  | 132 => [0]
  | 136 => [0]
  | 138 => [0]
  | 139 => [2]
  | 140 => [4]
  | 141 => [3]
  | _ => []
abbrev noExt : Ext := X0
def cx : Cx := ⟨Tab, ioTab, CallOk Tab noExt ioTab⟩
end Go.Proofs.YtcllfkplpdppiaaDoorH
