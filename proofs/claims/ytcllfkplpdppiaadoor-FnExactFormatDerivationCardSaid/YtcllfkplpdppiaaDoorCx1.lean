import Derived.Test.YtcllfkplpdppiaaDoorX3
import Derived.Test.YtcllfkplpdppiaaDoorFn1
namespace Go.Proofs.YtcllfkplpdppiaaDoorH
open Go
def ioTab (f : Nat) : List Nat :=
  match f with
  | _ => []
abbrev noExt : Ext := X0
def cx : Cx := ⟨Tab, ioTab, CallOk Tab noExt ioTab⟩
end Go.Proofs.YtcllfkplpdppiaaDoorH
