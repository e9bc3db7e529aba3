/- The plain law of FnExactMinimalSets. -/
import Derived.Test.YthfbkecnnllpkaaTd1
import Derived.Test.YthfbkecnnllpkaaPb4
set_option linter.unusedVariables false
set_option linter.unusedSimpArgs false
namespace Go.Proofs.YthfbkecnnllpkaaH
open Go
theorem sum_minSets {l : List (List Int)} (h : l.length ≤ 1048576) (h' : ∀ x ∈ l, x.length ≤ 1048576) : ((minSets l).map List.length).sum ≤ 1099511627776 := by
  have : ∀ m : List (List Int), (∀ x ∈ m, x.length ≤ 1048576) → (m.map List.length).sum ≤ m.length * 1048576 := by
    intro m hm
    induction m with
    | nil => simp
    | cons a m ih =>
      have := ih fun x hx => hm x (by simp [hx])
      have := hm a (by simp)
      simp only [List.map_cons, List.sum_cons, List.length_cons]; omega
  have h1 := this (minSets l) fun x hx => h' x (minSets_mem hx)
  have h2 := minSets_len (l := l)
  omega
theorem lawFnExactMinimalSets (a : List (List Int)) (ha : ok a) : f8 a = some true := by
  unfold f8
  rw [szII ha (by omega) (by omega)]
  simp only [Option.bind_some]
  by_cases h1 : lft 1048576 (a.length + (a.map List.length).sum) < 0
  · rw [if_pos h1]
  rw [if_neg h1]
  obtain ⟨h2, h3⟩ := szII_ok h1 (by omega)
  have h4 := (lft_pos h1).2
  have h5 := minSets_len (l := a)
  have h6 := sum_minSets h2 h3
  have q : ∀ x ∈ minSets a, x.length ≤ 9223372036854775807 := fun x hx => by have := h3 x (minSets_mem hx); omega
  simp only [toII h2 h3, Option.bind_some, minSpec h2 h3, minImp h2 h3, eqII (a := minSets a) (by omega) q, eqII (a := a) (by omega) (fun x hx => by have := h3 x hx; omega),
    markII (l := a) (k := 1) (by omega) (by omega) (by omega), markII (l := minSets a) (k := 1) (by omega) (by omega) (by omega), heldII (l := minSets a) (k := 1) (by omega) (by omega) (by omega)]
  have e1 : ¬ ((1 : Int) + tot a a.length < 0) := by omega
  have e2 : ¬ ((1 : Int) + tot (minSets a) (minSets a).length < 0) := by omega
  simp [e1, e2]
end Go.Proofs.YthfbkecnnllpkaaH

