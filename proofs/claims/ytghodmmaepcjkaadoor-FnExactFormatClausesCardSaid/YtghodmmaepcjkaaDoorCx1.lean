import Derived.Test.YtghodmmaepcjkaaDoorX3
import Derived.Test.YtghodmmaepcjkaaDoorFn1
namespace Go.Proofs.YtghodmmaepcjkaaDoorH
open Go
def ioTab (f : Nat) : List Nat :=
  match f with
  | _ => []
abbrev noExt : Ext := X0
def cx : Cx := ⟨Tab, ioTab, CallOk Tab noExt ioTab⟩
end Go.Proofs.YtghodmmaepcjkaaDoorH
