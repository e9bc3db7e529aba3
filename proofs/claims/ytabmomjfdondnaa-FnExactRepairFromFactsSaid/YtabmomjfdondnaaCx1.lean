/- The functions that the law reaches, and which parameters they write. -/
import Derived.Test.YtabmomjfdondnaaHm30
import Derived.Test.YtabmomjfdondnaaFn1
namespace Go.Proofs.YtabmomjfdondnaaH
open Go
def ioTab (f : Nat) : List Nat :=
  match f with
  | 44 => [0]
  | 45 => [0]
  | 107 => [0]
  | 108 => [0]
  | _ => []
def noExt : Ext := fun _ _ _ _ _ => False
def cx : Cx := ⟨Tab, ioTab, CallOk Tab noExt ioTab⟩
end Go.Proofs.YtabmomjfdondnaaH
