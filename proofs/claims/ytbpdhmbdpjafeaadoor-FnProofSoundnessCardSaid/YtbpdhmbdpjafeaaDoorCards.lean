/-
  DERIVED. GIVEN WITH THE SEED: THE CARDS: each row of YtbpdhmbdpjafeaaDoorRows.lean that lists a variable, with what it lists TIED to the program's text (the seventh form; the later family's looks); each row that meets fmt, with fmt's text TOLD by the authors' own Lean function (tested against real Go, not proved from fmt's source: count such statements apart). THE CARD IS WHAT COUNTS. Prove the row's statement (the work); the ties are given (YtbpdhmbdpjafeaaDoorTie.lean); close each card by the builder's one call (the guide's Derived/Test/ToyasCard.lean, 'card_holds'). Laid BY PROGRAM, IN A SANDBOX (cutbox-door.mjs). By AI agents, Wed Nov 11 2026. No macro, syntax, notation, axiom, sorry.
-/
import Derived.Test.YtbpdhmbdpjafeaaDoorRows
import GoSem.ClaimSeven
namespace Go.Proofs.YtbpdhmbdpjafeaaDoor
namespace Rows

/-- THE TIED CARD OF 'laws.FnProofSoundness'. -/
def fnProofSoundnessCard : Claim7 := { stood := { row := fnProofSoundnessRow, standIns := [], harness := (true, "78eb7b64a1646319311134966618106ad89063abec8a5410466394a94f917ae5"), looks := false }, kinds := [], alts := [], laidByText := true, laidKinds := [.data, .data, .data], laidTests := true, laidLooks := .later }
def FnProofSoundnessCardSaid : Prop := Claim7.holds Tryd.pinned (.plain (OpenSpec.ofChange fnProofSoundnessSpec)) fnProofSoundnessCard

/-- THE SECOND FORM's CARD OF 'laws.FnProofSoundness'. -/
def fnProofSoundnessUptoCard : Claim7 := { stood := { row := fnProofSoundnessUptoRow, standIns := [], harness := (true, "78eb7b64a1646319311134966618106ad89063abec8a5410466394a94f917ae5"), looks := false }, kinds := [], alts := [], laidByText := true, laidKinds := [.data, .data, .data], laidTests := true, laidLooks := .later }
def FnProofSoundnessUptoCardSaid : Prop := Claim7.holds Tryd.pinned (.plain (OpenSpec.upto fnProofSoundnessSpec)) fnProofSoundnessUptoCard
end Rows
end Go.Proofs.YtbpdhmbdpjafeaaDoor
