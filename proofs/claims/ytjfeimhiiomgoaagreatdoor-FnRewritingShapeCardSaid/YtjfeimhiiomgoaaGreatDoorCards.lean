/-
  DERIVED. GIVEN WITH THE SEED: THE CARDS: each row of YtjfeimhiiomgoaaGreatDoorRows.lean that lists a variable, with what it lists TIED to the program's text (the seventh form; the later family's looks); each row that meets fmt, with fmt's text TOLD by the authors' own Lean function (tested against real Go, not proved from fmt's source: count such statements apart). THE CARD IS WHAT COUNTS. Prove the row's statement (the work); the ties are given (YtjfeimhiiomgoaaGreatDoorTie.lean); close each card by the builder's one call (the guide's Derived/Test/ToyasCard.lean, 'card_holds'). Laid BY PROGRAM, IN A SANDBOX (cutbox-door.mjs). By AI agents, Wed Nov 11 2026. No macro, syntax, notation, axiom, sorry.
-/
import Derived.Test.YtjfeimhiiomgoaaGreatDoorRows
import GoSem.ClaimSeven
namespace Go.Proofs.YtjfeimhiiomgoaaGreatDoor
namespace Rows

/-- THE TIED CARD OF 'laws.FnRewritingShape'. -/
def fnRewritingShapeCard : Claim7 := { stood := { row := fnRewritingShapeRow, standIns := [], harness := (true, "95fd51805ebb10e56e4a2aa533c02f6e452df2bec9f94abdebd2a4c569d4ec05"), looks := false }, kinds := [], alts := [], laidByText := true, laidKinds := [.data, .data, .data], laidTests := true, laidLooks := .later }
def FnRewritingShapeCardSaid : Prop := Claim7.holds Tryz.pinned (.plain (OpenSpec.ofChange fnRewritingShapeSpec)) fnRewritingShapeCard

/-- THE SECOND FORM's CARD OF 'laws.FnRewritingShape'. -/
def fnRewritingShapeUptoCard : Claim7 := { stood := { row := fnRewritingShapeUptoRow, standIns := [], harness := (true, "95fd51805ebb10e56e4a2aa533c02f6e452df2bec9f94abdebd2a4c569d4ec05"), looks := false }, kinds := [], alts := [], laidByText := true, laidKinds := [.data, .data, .data], laidTests := true, laidLooks := .later }
def FnRewritingShapeUptoCardSaid : Prop := Claim7.holds Tryz.pinned (.plain (OpenSpec.upto fnRewritingShapeSpec)) fnRewritingShapeUptoCard
end Rows
end Go.Proofs.YtjfeimhiiomgoaaGreatDoor
