import Derived.Test.YtjmemfggbhkofaaGreatX3
import Derived.Test.YtjmemfggbhkofaaGreatFn1
namespace Go.Proofs.YtjmemfggbhkofaaGreatH
open Go
def ioTab (f : Nat) : List Nat :=
  match f with
  | 54 => [0]
  | 104 => [0]
  | 105 => [0]
  | 107 => [0]
  | 128 => [0]
  | 129 => [0]
  | 131 => [0]
  | 140 => [0]
  | 148 => [0]
  | 149 => [0]
  | 154 => [0]
  | 155 => [3]
  | 165 => [0]
  | 166 => [0]
  | 168 => [0]
  | 169 => [0]
  | 170 => [0]
  | 201 => [0]
  | _ => []
abbrev noExt : Ext := X0
def cx : Cx := ⟨Tab, ioTab, CallOk Tab noExt ioTab⟩
end Go.Proofs.YtjmemfggbhkofaaGreatH
