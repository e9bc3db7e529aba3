/- Plain laws: all models of few variables, counted. -/
import Derived.Test.YthfbkecnnllpkaaTd1
import Derived.Test.YthfbkecnnllpkaaPb3
set_option linter.unusedVariables false
set_option linter.unusedSimpArgs false
namespace Go.Proofs.YthfbkecnnllpkaaH
open Go

theorem shl_two {n : Int} (h0 : 0 ≤ n) (h1 : n ≤ 14) : sshl .i64 1 n = ((2 ^ n.toNat : Nat) : Int) ∧ 2 ^ n.toNat ≤ 16384 := by
  have : n = 0 ∨ n = 1 ∨ n = 2 ∨ n = 3 ∨ n = 4 ∨ n = 5 ∨ n = 6 ∨ n = 7 ∨ n = 8 ∨ n = 9 ∨ n = 10 ∨ n = 11 ∨ n = 12 ∨ n = 13 ∨ n = 14 := by omega
  rcases this with h | h | h | h | h | h | h | h | h | h | h | h | h | h | h <;> subst h <;> decide
theorem nn_ok {n : Int} (h : 0 ≤ n) : nn n = some () := by unfold nn; rw [if_neg (by omega)]
def bit (k : Int) (v : Nat) : Bool := decide ((band .i64 (sshr .i64 k (v : Int)) 1) = 1)
def mods (n k : Nat) : List Bool := (List.range n).map (bit (k : Int))
theorem mods_len {n k : Nat} : (mods n k).length = n := by simp [mods]
end Go.Proofs.YthfbkecnnllpkaaH

