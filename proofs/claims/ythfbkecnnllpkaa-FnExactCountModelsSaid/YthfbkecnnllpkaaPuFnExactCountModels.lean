/- The plain law of FnExactCountModels. -/
import Derived.Test.YthfbkecnnllpkaaTd1
import Derived.Test.YthfbkecnnllpkaaPb5
set_option linter.unusedVariables false
set_option linter.unusedSimpArgs false
namespace Go.Proofs.YthfbkecnnllpkaaH
open Go
theorem lawFnExactCountModels (n : Int) (hn : ok n) (a : List (List Int)) (ha : ok a) : f9 n a = some true := by
  unfold f9
  rw [szII ha (by omega) (by omega)]
  simp only [Option.bind_some]
  by_cases h1 : lft 1048576 (a.length + (a.map List.length).sum) < 0
  · rw [if_pos h1]
  rw [if_neg h1]
  obtain ⟨h2, h3⟩ := szII_ok h1 (by omega)
  simp only [toII h2 h3, Option.bind_some, countSpec (n := n) (show Big a.length by omega) (fun x hx => by have := h3 x hx; omega), countImp (n := n) (show Big a.length by omega) (fun x hx => by have := h3 x hx; omega)]
  simp only [eqII (show a.length ≤ 9223372036854775807 by omega) (fun x hx => by have := h3 x hx; omega), Option.bind_some]
  simp
end Go.Proofs.YthfbkecnnllpkaaH

