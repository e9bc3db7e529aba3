import Derived.Test.YtcllfkplpdppiaaGreatX3
import Derived.Test.YtcllfkplpdppiaaGreatFn1
namespace Go.Proofs.YtcllfkplpdppiaaGreatH
open Go
def ioTab (f : Nat) : List Nat :=
  match f with
  | 134 => [3]
  | 140 => [0]
  | 170 => [0]
  | 196 => [0]
  | 230 => [0]
  | 231 => [0]
  | 232 => [0]
  | 234 => [0]
  | 235 => [0]
  | 237 => [0]
  | 238 => [0]
  | 257 => [0]
  | 259 => [0]
  | 260 => [2]
  | 261 => [4]
  | 264 => [3]
  | 271 => [3]
  | _ => []
def noExt : Ext := fun _ _ _ _ _ => False
def cx : Cx := ⟨Tab, ioTab, CallOk Tab noExt ioTab⟩
end Go.Proofs.YtcllfkplpdppiaaGreatH
