import Derived.Test.YtaanfdjhmhifiaaX3
import Derived.Test.YtaanfdjhmhifiaaFn1
namespace Go.Proofs.YtaanfdjhmhifiaaH
open Go
def ioTab (f : Nat) : List Nat :=
  match f with
  | 11 => [0]
  | 12 => [0]
  | 31 => [0]
  | 32 => [0]
  | 33 => [0]
  | 53 => [3]
  | _ => []
def noExt : Ext := fun _ _ _ _ _ => False
def cx : Cx := ⟨Tab, ioTab, CallOk Tab noExt ioTab⟩
end Go.Proofs.YtaanfdjhmhifiaaH
