import Derived.Test.YtaanfdjhmhifiaaGreatX3
import Derived.Test.YtaanfdjhmhifiaaGreatFn1
namespace Go.Proofs.YtaanfdjhmhifiaaGreatH
open Go
def ioTab (f : Nat) : List Nat :=
  match f with
  | 116 => [0]
  | 140 => [3]
  | 144 => [0]
  | 153 => [0]
  | 163 => [0]
  | 164 => [0]
  | 165 => [0]
  | 167 => [0]
  | 168 => [0]
  | 170 => [0]
  | 171 => [0]
  | 179 => [0]
  | 181 => [0]
  | 182 => [2]
  | 183 => [4]
  | 187 => [3]
  | _ => []
def noExt : Ext := fun _ _ _ _ _ => False
def cx : Cx := ⟨Tab, ioTab, CallOk Tab noExt ioTab⟩
end Go.Proofs.YtaanfdjhmhifiaaGreatH
