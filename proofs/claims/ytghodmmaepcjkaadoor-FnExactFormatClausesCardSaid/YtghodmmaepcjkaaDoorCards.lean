/-
  DERIVED. GIVEN WITH THE SEED: THE CARDS: each row of YtghodmmaepcjkaaDoorRows.lean that lists a variable, with what it lists TIED to the program's text (the seventh form; the later family's looks); each row that meets fmt, with fmt's text TOLD by the authors' own Lean function (tested against real Go, not proved from fmt's source: count such statements apart). THE CARD IS WHAT COUNTS. Prove the row's statement (the work); the ties are given (YtghodmmaepcjkaaDoorTie.lean); close each card by the builder's one call (the guide's Derived/Test/ToyasCard.lean, 'card_holds'). Laid BY PROGRAM, IN A SANDBOX (cutbox-door.mjs). By AI agents, Wed Nov 11 2026. No macro, syntax, notation, axiom, sorry.
-/
import Derived.Test.YtghodmmaepcjkaaDoorRows
import GoSem.ClaimSeven
namespace Go.Proofs.YtghodmmaepcjkaaDoor
namespace Rows

/-- THE TIED CARD OF 'laws.FnExactFormatClause'. -/
def fnExactFormatClauseCard : Claim7 := { stood := { row := fnExactFormatClauseRow, standIns := [], harness := (true, "518c653eee67dcfa62bafca3af67db0d53bc43b33b11b119ddaa027014505dab"), looks := false }, kinds := [], alts := [], laidByText := true, laidKinds := [.data, .data, .data], laidTests := true, laidLooks := .later }
def FnExactFormatClauseCardSaid : Prop := Claim7.holds Tryd.pinned (.plain (OpenSpec.ofChange fnExactFormatClauseSpec)) fnExactFormatClauseCard

/-- THE TIED CARD OF 'laws.FnExactFormatClauses'. -/
def fnExactFormatClausesCard : Claim7 := { stood := { row := fnExactFormatClausesRow, standIns := [], harness := (true, "518c653eee67dcfa62bafca3af67db0d53bc43b33b11b119ddaa027014505dab"), looks := false }, kinds := [], alts := [], laidByText := true, laidKinds := [.data, .data, .data], laidTests := true, laidLooks := .later }
def FnExactFormatClausesCardSaid : Prop := Claim7.holds Tryd.pinned (.plain (OpenSpec.ofChange fnExactFormatClausesSpec)) fnExactFormatClausesCard

/-- THE TIED CARD OF 'laws.FnProofSoundness'. -/
def fnProofSoundnessCard : Claim7 := { stood := { row := fnProofSoundnessRow, standIns := [], harness := (true, "518c653eee67dcfa62bafca3af67db0d53bc43b33b11b119ddaa027014505dab"), looks := false }, kinds := [], alts := [], laidByText := true, laidKinds := [.data, .data, .data], laidTests := true, laidLooks := .later }
def FnProofSoundnessCardSaid : Prop := Claim7.holds Tryd.pinned (.plain (OpenSpec.ofChange fnProofSoundnessSpec)) fnProofSoundnessCard

/-- THE SECOND FORM's CARD OF 'laws.FnExactFormatClause'. -/
def fnExactFormatClauseUptoCard : Claim7 := { stood := { row := fnExactFormatClauseUptoRow, standIns := [], harness := (true, "518c653eee67dcfa62bafca3af67db0d53bc43b33b11b119ddaa027014505dab"), looks := false }, kinds := [], alts := [], laidByText := true, laidKinds := [.data, .data, .data], laidTests := true, laidLooks := .later }
def FnExactFormatClauseUptoCardSaid : Prop := Claim7.holds Tryd.pinned (.plain (OpenSpec.upto fnExactFormatClauseSpec)) fnExactFormatClauseUptoCard

/-- THE SECOND FORM's CARD OF 'laws.FnExactFormatClauses'. -/
def fnExactFormatClausesUptoCard : Claim7 := { stood := { row := fnExactFormatClausesUptoRow, standIns := [], harness := (true, "518c653eee67dcfa62bafca3af67db0d53bc43b33b11b119ddaa027014505dab"), looks := false }, kinds := [], alts := [], laidByText := true, laidKinds := [.data, .data, .data], laidTests := true, laidLooks := .later }
def FnExactFormatClausesUptoCardSaid : Prop := Claim7.holds Tryd.pinned (.plain (OpenSpec.upto fnExactFormatClausesSpec)) fnExactFormatClausesUptoCard

/-- THE SECOND FORM's CARD OF 'laws.FnProofSoundness'. -/
def fnProofSoundnessUptoCard : Claim7 := { stood := { row := fnProofSoundnessUptoRow, standIns := [], harness := (true, "518c653eee67dcfa62bafca3af67db0d53bc43b33b11b119ddaa027014505dab"), looks := false }, kinds := [], alts := [], laidByText := true, laidKinds := [.data, .data, .data], laidTests := true, laidLooks := .later }
def FnProofSoundnessUptoCardSaid : Prop := Claim7.holds Tryd.pinned (.plain (OpenSpec.upto fnProofSoundnessSpec)) fnProofSoundnessUptoCard
end Rows
end Go.Proofs.YtghodmmaepcjkaaDoor
