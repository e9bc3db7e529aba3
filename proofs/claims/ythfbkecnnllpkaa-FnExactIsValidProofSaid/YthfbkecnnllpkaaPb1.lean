/- Plain laws: copies, equality, sizes, marks of lists of numbers. -/
import Derived.Test.YthfbkecnnllpkaaTd1
import Derived.Test.YthfbkecnnllpkaaPl2
set_option linter.unusedVariables false
set_option linter.unusedSimpArgs false
namespace Go.Proofs.YthfbkecnnllpkaaH
open Go

theorem toI {a : List Int} (h : a.length ≤ 1048576) : f16 a = some a := by
  unfold f16
  rw [mkl_ok (by omega) (by omega) (by omega)]
  have : iter (f16_0 a) (List.replicate (a.length : Int).toNat 0, 0) = some a := iter_copy (by simp) (fun i hi out ho => by
    simp only [f16_0]
    rw [if_pos (by omega), ix_nat hi, ix_nat ho, Int.toNat_natCast, w64_succ (by omega)]; rfl) (fun out => by
    simp only [f16_0]
    rw [if_neg (by omega)])
  simp only [Option.bind_some, this]
theorem toII {a : List (List Int)} (h : a.length ≤ 1048576) (h' : ∀ x ∈ a, x.length ≤ 1048576) : f28 a = some a := by
  unfold f28
  rw [mkl_ok (by omega) (by omega) (by omega)]
  have : iter (f28_0 a) (List.replicate (a.length : Int).toNat [], 0) = some a := iter_copy (by simp) (fun i hi out ho => by
    simp only [f28_0]
    rw [if_pos (by omega), ix_nat hi, ix_nat ho, Int.toNat_natCast, w64_succ (by omega)]
    simp only [Option.bind_some, toI (h' _ (List.getElem_mem hi))]) (fun out => by
    simp only [f28_0]
    rw [if_neg (by omega)])
  simp only [Option.bind_some, this]

theorem eqI {a : List Int} (h : a.length ≤ 9223372036854775807) : f18 a a = some true := by
  unfold f18
  rw [if_neg (by simp)]
  rw [iter_ex (List.range a.length) (fun _ => false) false (fun i hi => by
    simp only [f18_0]
    simp only [List.length_range] at hi
    rw [if_pos (by omega), ix_nat hi, w64_succ (by omega)]
    simp) (by
    simp only [f18_0]
    rw [if_neg (by simp)])]
  simp
theorem eqII {a : List (List Int)} (h : a.length ≤ 9223372036854775807) (h' : ∀ x ∈ a, x.length ≤ 9223372036854775807) : f30 a a = some true := by
  unfold f30
  rw [if_neg (by simp)]
  rw [iter_ex (List.range a.length) (fun _ => false) false (fun i hi => by
    simp only [f30_0]
    simp only [List.length_range] at hi
    rw [if_pos (by omega), ix_nat hi, w64_succ (by omega)]
    simp only [Option.bind_some, eqI (h' _ (List.getElem_mem hi))]
    simp) (by
    simp only [f30_0]
    rw [if_neg (by simp)])]
  simp

theorem szI {a : List Int} {n : Int} (h : a.length ≤ 9223372036854775807) (h0 : 0 ≤ n) (h1 : n ≤ 1048576) : f51 a n = some (lft n a.length) := by
  unfold f51
  rw [w64_of (by omega)]
  unfold lft
  by_cases hc : n < (a.length : Int)
  · rw [if_pos (by omega), if_neg (by omega)]
  · rw [if_neg (by omega), if_pos (by omega)]
theorem szII {a : List (List Int)} {n : Int} (h : ok a) (h0 : 0 ≤ n) (h1 : n ≤ 1048576) : f26 a n = some (lft n (a.length + (a.map List.length).sum)) := by
  obtain ⟨h, h'⟩ := h
  unfold f26
  rw [w64_of (by omega)]
  by_cases hc : n < (a.length : Int)
  · rw [if_pos (by omega)]
    unfold lft
    rw [if_neg (by omega)]
  · rw [if_neg (by omega)]
    rw [iter_sz List.length a _ (by omega) (fun i hi b hb hb' => by
      simp only [f26_0]
      rw [if_pos (by omega), ix_nat hi, w64_succ (by omega)]
      simp only [Option.bind_some, szI (h' _ (List.getElem_mem hi)).1 hb (by omega)]
      split <;> rfl) (fun b => by
      simp only [f26_0]
      rw [if_neg (by omega)])]
    have : lft (n - a.length) (a.map List.length).sum = lft n (a.length + (a.map List.length).sum) := by
      unfold lft
      by_cases hc2 : (((a.map List.length).sum : Nat) : Int) ≤ n - a.length
      · rw [if_pos hc2, if_pos (by omega)]; omega
      · rw [if_neg hc2, if_neg (by omega)]
    rw [this]
    split
    · rename_i hlt
      rw [lft_bad hlt]; rfl
    · rfl
/-- What the guard on a size gives. -/
theorem szII_ok {a : List (List Int)} {n : Int} (h : ¬ lft n (a.length + (a.map List.length).sum) < 0) (h1 : n ≤ 1048576) : a.length ≤ 1048576 ∧ ∀ x ∈ a, x.length ≤ 1048576 := by
  obtain ⟨_, h⟩ := lft_pos h
  refine ⟨by omega, fun x hx => ?_⟩
  have := mem_le_sum (s := List.length) hx
  omega
end Go.Proofs.YthfbkecnnllpkaaH

