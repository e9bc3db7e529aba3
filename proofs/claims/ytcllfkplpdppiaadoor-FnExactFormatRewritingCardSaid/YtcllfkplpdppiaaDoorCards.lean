/-
  DERIVED. GIVEN WITH THE SEED: THE CARDS: each row of YtcllfkplpdppiaaDoorRows.lean that lists a variable, with what it lists TIED to the program's text (the seventh form; the later family's looks); each row that meets fmt, with fmt's text TOLD by the authors' own Lean function (tested against real Go, not proved from fmt's source: count such statements apart). THE CARD IS WHAT COUNTS. Prove the row's statement (the work); the ties are given (YtcllfkplpdppiaaDoorTie.lean); close each card by the builder's one call (the guide's Derived/Test/ToyasCard.lean, 'card_holds'). Laid BY PROGRAM, IN A SANDBOX (cutbox-door.mjs). By AI agents, Wed Nov 11 2026. No macro, syntax, notation, axiom, sorry.
-/
import Derived.Test.YtcllfkplpdppiaaDoorRows
import GoSem.ClaimSeven
namespace Go.Proofs.YtcllfkplpdppiaaDoor
namespace Rows

/-- THE TIED CARD OF 'laws.FnExactFormatDerivation'. -/
def fnExactFormatDerivationCard : Claim7 := { stood := { row := fnExactFormatDerivationRow, standIns := [], harness := (true, "af50c0864136625eac3510d0e2d4123878fbab263ed576127e25e160147f437e"), looks := false }, kinds := [], alts := [], laidByText := true, laidKinds := [.data, .data, .data], laidTests := true, laidLooks := .later }
def FnExactFormatDerivationCardSaid : Prop := Claim7.holds Tryd.pinned (.plain (OpenSpec.ofChange fnExactFormatDerivationSpec)) fnExactFormatDerivationCard

/-- THE TIED CARD OF 'laws.FnExactFormatRewriting'. -/
def fnExactFormatRewritingCard : Claim7 := { stood := { row := fnExactFormatRewritingRow, standIns := [], harness := (true, "af50c0864136625eac3510d0e2d4123878fbab263ed576127e25e160147f437e"), looks := false }, kinds := [], alts := [], laidByText := true, laidKinds := [.data, .data, .data], laidTests := true, laidLooks := .later }
def FnExactFormatRewritingCardSaid : Prop := Claim7.holds Tryd.pinned (.plain (OpenSpec.ofChange fnExactFormatRewritingSpec)) fnExactFormatRewritingCard

/-- THE SECOND FORM's CARD OF 'laws.FnExactFormatDerivation'. -/
def fnExactFormatDerivationUptoCard : Claim7 := { stood := { row := fnExactFormatDerivationUptoRow, standIns := [], harness := (true, "af50c0864136625eac3510d0e2d4123878fbab263ed576127e25e160147f437e"), looks := false }, kinds := [], alts := [], laidByText := true, laidKinds := [.data, .data, .data], laidTests := true, laidLooks := .later }
def FnExactFormatDerivationUptoCardSaid : Prop := Claim7.holds Tryd.pinned (.plain (OpenSpec.upto fnExactFormatDerivationSpec)) fnExactFormatDerivationUptoCard

/-- THE SECOND FORM's CARD OF 'laws.FnExactFormatRewriting'. -/
def fnExactFormatRewritingUptoCard : Claim7 := { stood := { row := fnExactFormatRewritingUptoRow, standIns := [], harness := (true, "af50c0864136625eac3510d0e2d4123878fbab263ed576127e25e160147f437e"), looks := false }, kinds := [], alts := [], laidByText := true, laidKinds := [.data, .data, .data], laidTests := true, laidLooks := .later }
def FnExactFormatRewritingUptoCardSaid : Prop := Claim7.holds Tryd.pinned (.plain (OpenSpec.upto fnExactFormatRewritingSpec)) fnExactFormatRewritingUptoCard
end Rows
end Go.Proofs.YtcllfkplpdppiaaDoor
