/- Arguments that are structs: read field by field. -/
import Derived.Test.YtabmomjfdondnaaHn2
set_option linter.unusedVariables false
set_option linter.unusedSimpArgs false
namespace Go.Proofs.YtabmomjfdondnaaH
open Go Go.ChangeShapes
section
variable {H : Type} {enc : TypeId × Value → H} {P : Program} {W : World} {held : Bool}
/-- One field: where it lies. -/
def Fld (P : Program) (fs : Array Field) (i : Nat) (t : TypeId) (o w : Nat) : Prop := ∃ f, fs[i]? = some f ∧ f.type = t ∧ f.offset = o ∧ P.cellsOf t = w
theorem read_fld {α : Type} [Sz α] {E : En α} {ft : TypeId} {fs : Array Field} {i o w : Nat} {n : Nat} {cs : List Value} {xs : List (DataW H × List MemPlace)} (hf : Fld P fs i ft o w) (hr : Reads enc P W held E ft) (hi : i < xs.length)
    (h : ∀ (i : Nat) (f : Field), fs[i]? = some f → DataW.trod enc P W 0 (fun _ => true) held n f.type ((cs.drop f.offset).take (P.cellsOf f.type)) = xs[i]?) : ∃ a, RdVs W (E.c false a) ((cs.drop o).take w) ∧ ok a := by
  obtain ⟨f, h1, rfl, rfl, rfl⟩ := hf
  have h2 := h i f h1
  rw [List.getElem?_eq_getElem hi] at h2
  exact hr _ _ _ h2
/-- Cells in a row are what lies at each place. -/
theorem cells_split {cs : List Value} {o w : Nat} (h : o + w ≤ cs.length) : cs.drop o = (cs.drop o).take w ++ cs.drop (o + w) := by
  conv => lhs; rw [← List.take_append_drop w (cs.drop o)]
  rw [List.drop_drop]
theorem rdvs_agg {ts : List T} {cs : Array Value} (h : RdVs W ts (Value.cells (.agg cs)).toList) : RdVs W [.agg ts] [.agg cs] := by
  refine rdvs_one ?_
  rw [RdV]
  exact ⟨_, rfl, h⟩
end
end Go.Proofs.YtabmomjfdondnaaH
