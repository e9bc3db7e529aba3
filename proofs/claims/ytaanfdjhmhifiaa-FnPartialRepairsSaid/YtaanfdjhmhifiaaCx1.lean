import Derived.Test.YtaanfdjhmhifiaaX3
import Derived.Test.YtaanfdjhmhifiaaFn1
namespace Go.Proofs.YtaanfdjhmhifiaaH
open Go
def ioTab (f : Nat) : List Nat :=
  match f with
  | 36 => [0]
  | 37 => [0]
  | 53 => [3]
  | 61 => [0]
  | 62 => [0]
  | 78 => [0]
  | 79 => [0]
  | 81 => [0]
  | _ => []
def noExt : Ext := fun _ _ _ _ _ => False
def cx : Cx := ⟨Tab, ioTab, CallOk Tab noExt ioTab⟩
end Go.Proofs.YtaanfdjhmhifiaaH
