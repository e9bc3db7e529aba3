/- Plain laws: copies, equality, sizes, marks of lists of numbers. -/
import Derived.Test.YtabmomjfdondnaaTd1
import Derived.Test.YtabmomjfdondnaaPl2
set_option linter.unusedVariables false
set_option linter.unusedSimpArgs false
namespace Go.Proofs.YtabmomjfdondnaaH
open Go

theorem toI {a : List Int} (h : a.length ≤ 1048576) : f40 a = some a := by
  unfold f40
  rw [mkl_ok (by omega) (by omega) (by omega)]
  have : iter (f40_0 a) (List.replicate (a.length : Int).toNat 0, 0) = some a := iter_copy (by simp) (fun i hi out ho => by
    simp only [f40_0]
    rw [if_pos (by omega), ix_nat hi, ix_nat ho, Int.toNat_natCast, w64_succ (by omega)]; rfl) (fun out => by
    simp only [f40_0]
    rw [if_neg (by omega)])
  simp only [Option.bind_some, this]
theorem eqI {a : List Int} (h : a.length ≤ 9223372036854775807) : f42 a a = some true := by
  unfold f42
  rw [if_neg (by simp)]
  rw [iter_ex (List.range a.length) (fun _ => false) false (fun i hi => by
    simp only [f42_0]
    simp only [List.length_range] at hi
    rw [if_pos (by omega), ix_nat hi, w64_succ (by omega)]
    simp) (by
    simp only [f42_0]
    rw [if_neg (by simp)])]
  simp
theorem szI {a : List Int} {n : Int} (h : a.length ≤ 9223372036854775807) (h0 : 0 ≤ n) (h1 : n ≤ 1048576) : f64 a n = some (lft n a.length) := by
  unfold f64
  rw [w64_of (by omega)]
  unfold lft
  by_cases hc : n < (a.length : Int)
  · rw [if_pos (by omega), if_neg (by omega)]
  · rw [if_neg (by omega), if_pos (by omega)]
end Go.Proofs.YtabmomjfdondnaaH

