/- The plain law of FnExactUnitPropagation. -/
import Derived.Test.YthfbkecnnllpkaaTd1
import Derived.Test.YthfbkecnnllpkaaPb7
import Derived.Test.YthfbkecnnllpkaaPb4
set_option linter.unusedVariables false
set_option linter.unusedSimpArgs false
namespace Go.Proofs.YthfbkecnnllpkaaH
open Go
theorem lawFnExactUnitPropagation (n : Int) (hn : ok n) (a : List (List Int)) (ha : ok a) (b : List Int) (hb : ok b) : f11 n a b = some true := by
  unfold f11
  by_cases h0 : (b.length : Int) > 1048576
  · rw [if_pos h0]
  rw [if_neg h0, szII ha (by omega) (by omega)]
  simp only [Option.bind_some]
  by_cases h1 : lft 1048576 (a.length + (a.map List.length).sum) < 0
  · rw [if_pos h1]
  rw [if_neg h1]
  obtain ⟨h2, h3⟩ := szII_ok h1 (by omega)
  have h4 := (lft_pos h1).2
  have h5 := up_len (n := n) (l := a) (s := b) (by omega)
  simp only [toII h2 h3, toI (a := b) (by omega), Option.bind_some, upSpec (n := n) (s := b) (show Big a.length by omega) (fun x hx => by have := h3 x hx; omega) (by omega), upImp (n := n) (s := b) (show Big a.length by omega) (fun x hx => by have := h3 x hx; omega) (by omega)]
  generalize up n a b = u at h5 ⊢
  have e0 : tot a a.length = (a.map List.length).sum := by unfold tot; rw [List.take_of_length_le (Nat.le_refl _)]
  simp only [eqII (show a.length ≤ 9223372036854775807 by omega) (fun x hx => by have := h3 x hx; omega), eqI (show b.length ≤ 9223372036854775807 by omega), eqI (show u.1.length ≤ 9223372036854775807 by omega), Option.bind_some,
    markII (l := a) (k := 1) (by omega) (by omega) (by omega), markI (a := b) (k := 1 + (tot a a.length : Int)) (by omega) (by omega), markI (a := u.1) (k := 1) (by omega) (by omega), heldI (k := 1) (n := u.1.length) (by omega) (by omega)]
  have e1 : ¬ ((1 : Int) + tot a a.length + b.length < 0) := by omega
  have e2 : ¬ ((1 : Int) + u.1.length < 0) := by omega
  simp [e1, e2]
end Go.Proofs.YthfbkecnnllpkaaH

