/- Plain laws: marks, minimal sets. -/
import Derived.Test.YtabmomjfdondnaaTd1
import Derived.Test.YtabmomjfdondnaaPb2
set_option linter.unusedVariables false
set_option linter.unusedSimpArgs false
namespace Go.Proofs.YtabmomjfdondnaaH
open Go

/-- Numbers from k on. -/
def mk (k : Int) (n : Nat) : List Int := (List.range n).map fun i => k + (i : Nat)
theorem mk_len {k : Int} {n : Nat} : (mk k n).length = n := by simp [mk]
theorem mk_get {k : Int} {n i : Nat} (h : i < (mk k n).length) : (mk k n)[i] = k + i := by simp [mk]
theorem markI {a : List Int} {k : Int} (h0 : 0 ≤ k) (h : k + a.length ≤ 4611686018427387904) : f45 a k = some (k + a.length, mk k a.length) := by
  unfold f45
  have := iter_steps (f := f45_0) (fun i => ((mk k a.length).take i ++ a.drop i, k + (i : Nat), (i : Int))) a.length (mk k a.length, k + a.length) (fun i hi => by
    have e1 : ((mk k a.length).take i ++ a.drop i).length = a.length := by simp [mk_len]; omega
    have e2 := set_copy (a := mk k a.length) (L := a) (i := i) (by rw [mk_len]; exact hi) (by rw [mk_len])
    rw [mk_get] at e2
    simp only [f45_0]
    rw [if_pos (by rw [e1]; omega), ix_nat (by rw [e1]; exact hi), w64_succ (by omega), w64_of (by omega), Option.bind_some, Int.toNat_natCast, e2]
    rw [show k + (i : Int) + 1 = k + ((i + 1 : Nat) : Int) by omega]) (by
    have e1 : ((mk k a.length).take a.length ++ a.drop a.length) = mk k a.length := by
      rw [List.take_of_length_le (by rw [mk_len]; omega), List.drop_of_length_le (by omega), List.append_nil]
    simp only [f45_0]
    rw [e1, if_neg (by rw [mk_len]; omega)])
  simp only [Int.natCast_zero, List.take_zero, List.drop_zero, List.nil_append, Int.add_zero, Int.ofNat_zero] at this
  erw [this]
  rfl
theorem heldI {k : Int} {n : Nat} (h0 : 0 ≤ k) (h : k + n ≤ 4611686018427387904) : f46 (mk k n) k = some (k + n) := by
  unfold f46
  have := iter_steps (f := f46_0 (mk k n)) (fun i => (k + (i : Nat), (i : Int))) n (.inl (k + n)) (fun i hi => by
    simp only [f46_0]
    rw [if_pos (by rw [mk_len]; omega), ix_nat (by rw [mk_len]; exact hi), w64_succ (by omega), w64_of (by omega), Option.bind_some, mk_get, if_neg (by simp)]
    rw [show k + (i : Int) + 1 = k + ((i + 1 : Nat) : Int) by omega]) (by
    simp only [f46_0]
    rw [if_neg (by rw [mk_len]; omega)])
  simp only [Int.natCast_zero, Int.add_zero, Int.ofNat_zero] at this
  erw [this]
  rfl
end Go.Proofs.YtabmomjfdondnaaH

