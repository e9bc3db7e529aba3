import Derived.Test.YtbhadkbchkjdiaaGreatX3
import Derived.Test.YtbhadkbchkjdiaaGreatFn1
namespace Go.Proofs.YtbhadkbchkjdiaaGreatH
open Go
def ioTab (f : Nat) : List Nat :=
  match f with
  | 58 => [0]
  | 59 => [0]
  | 61 => [0]
  | 62 => [0]
  | 63 => [0]
  | 64 => [0]
  | 69 => [0]
  | 88 => [0]
  | 90 => [0]
  | 91 => [0]
  | 92 => [0]
  | 93 => [0]
  | 103 => [3]
  | 113 => [3]
  | 116 => [0]
  | 118 => [0]
  | 120 => [0]
  | 123 => [0]
  | 130 => [0]
  | _ => []
abbrev noExt : Ext := X0
def cx : Cx := ⟨Tab, ioTab, CallOk Tab noExt ioTab⟩
end Go.Proofs.YtbhadkbchkjdiaaGreatH
