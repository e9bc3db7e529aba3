import Derived.Test.YtcllfkplpdppiaaGreatX3
import Derived.Test.YtcllfkplpdppiaaGreatFn1
namespace Go.Proofs.YtcllfkplpdppiaaGreatH
open Go
def ioTab (f : Nat) : List Nat :=
  match f with
  | 128 => [0]
  | 129 => [0]
  | 130 => [0]
  | 134 => [3]
  | 140 => [0]
  | 170 => [0]
  | 184 => [0]
  | 185 => [0]
  | 186 => [0]
  | 187 => [0]
  | 188 => [0]
  | 189 => [0]
  | 218 => [0]
  | 224 => [0]
  | 225 => [0]
  | 226 => [0]
  | 227 => [0]
  | 228 => [0]
  | 229 => [0]
  | 256 => [0]
  | _ => []
abbrev noExt : Ext := X0
def cx : Cx := ⟨Tab, ioTab, CallOk Tab noExt ioTab⟩
end Go.Proofs.YtcllfkplpdppiaaGreatH
