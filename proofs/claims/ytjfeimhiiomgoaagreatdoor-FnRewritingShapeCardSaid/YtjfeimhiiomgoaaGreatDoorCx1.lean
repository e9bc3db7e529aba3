import Derived.Test.YtjfeimhiiomgoaaGreatDoorX3
import Derived.Test.YtjfeimhiiomgoaaGreatDoorFn1
namespace Go.Proofs.YtjfeimhiiomgoaaGreatDoorH
open Go
def ioTab (f : Nat) : List Nat :=
  match f with
  | 23 => [0]
  | 57 => [0]
  | 58 => [0]
  | 75 => [0]
  | 76 => [0]
  | 95 => [0]
  | 96 => [0]
  | 97 => [0]
  | 115 => [0]
  | 116 => [0]
  | 117 => [0]
  | 118 => [0]
  | 129 => [0]
  | _ => []
abbrev noExt : Ext := X0
def cx : Cx := ⟨Tab, ioTab, CallOk Tab noExt ioTab⟩
end Go.Proofs.YtjfeimhiiomgoaaGreatDoorH
