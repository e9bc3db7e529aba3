import Derived.Test.YtabmomjfdondnaaX3
import Derived.Test.YtabmomjfdondnaaFn1
namespace Go.Proofs.YtabmomjfdondnaaH
open Go
def ioTab (f : Nat) : List Nat :=
  match f with
  | 185 => [0]
  | 186 => [0]
  | 199 => [0]
  | 204 => [0]
  | 205 => [0]
  | 206 => [0]
  | 208 => [0]
  | 209 => [0]
  | 211 => [0]
  | 212 => [0]
  | 215 => [0]
  | 217 => [0]
  | 218 => [2]
  | 219 => [4]
  | 220 => [3]
  | _ => []
def noExt : Ext := fun _ _ _ _ _ => False
def cx : Cx := ⟨Tab, ioTab, CallOk Tab noExt ioTab⟩
end Go.Proofs.YtabmomjfdondnaaH
