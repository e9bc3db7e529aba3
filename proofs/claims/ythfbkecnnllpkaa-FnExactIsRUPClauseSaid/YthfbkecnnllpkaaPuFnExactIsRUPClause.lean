/- The plain law of FnExactIsRUPClause. -/
import Derived.Test.YthfbkecnnllpkaaTd1
import Derived.Test.YthfbkecnnllpkaaPb6
set_option linter.unusedVariables false
set_option linter.unusedSimpArgs false
namespace Go.Proofs.YthfbkecnnllpkaaH
open Go
theorem lawFnExactIsRUPClause (n : Int) (hn : ok n) (a : List (List Int)) (ha : ok a) (b : List Int) (hb : ok b) : f10 n a b = some true := by
  unfold f10
  by_cases h0 : (b.length : Int) > 1048576
  · rw [if_pos h0]
  rw [if_neg h0, szII ha (by omega) (by omega)]
  simp only [Option.bind_some]
  by_cases h1 : lft 1048576 (a.length + (a.map List.length).sum) < 0
  · rw [if_pos h1]
  rw [if_neg h1]
  obtain ⟨h2, h3⟩ := szII_ok h1 (by omega)
  simp only [toII h2 h3, toI (a := b) (by omega), Option.bind_some, rupSpec (n := n) (c := b) (show Big a.length by omega) (fun x hx => by have := h3 x hx; omega) (by omega), rupImp (n := n) (c := b) (show Big a.length by omega) (fun x hx => by have := h3 x hx; omega) (by omega)]
  simp only [eqII (show a.length ≤ 9223372036854775807 by omega) (fun x hx => by have := h3 x hx; omega), eqI (show b.length ≤ 9223372036854775807 by omega), Option.bind_some]
  simp
end Go.Proofs.YthfbkecnnllpkaaH

