/- Plain laws: marks, minimal sets. -/
import Derived.Test.YthfbkecnnllpkaaTd1
import Derived.Test.YthfbkecnnllpkaaPb2
set_option linter.unusedVariables false
set_option linter.unusedSimpArgs false
namespace Go.Proofs.YthfbkecnnllpkaaH
open Go

/-- Numbers from k on. -/
def mk (k : Int) (n : Nat) : List Int := (List.range n).map fun i => k + (i : Nat)
theorem mk_len {k : Int} {n : Nat} : (mk k n).length = n := by simp [mk]
theorem mk_get {k : Int} {n i : Nat} (h : i < (mk k n).length) : (mk k n)[i] = k + i := by simp [mk]
theorem markI {a : List Int} {k : Int} (h0 : 0 ≤ k) (h : k + a.length ≤ 4611686018427387904) : f19 a k = some (k + a.length, mk k a.length) := by
  unfold f19
  have := iter_steps (f := f19_0) (fun i => ((mk k a.length).take i ++ a.drop i, k + (i : Nat), (i : Int))) a.length (mk k a.length, k + a.length) (fun i hi => by
    have e1 : ((mk k a.length).take i ++ a.drop i).length = a.length := by simp [mk_len]; omega
    have e2 := set_copy (a := mk k a.length) (L := a) (i := i) (by rw [mk_len]; exact hi) (by rw [mk_len])
    rw [mk_get] at e2
    simp only [f19_0]
    rw [if_pos (by rw [e1]; omega), ix_nat (by rw [e1]; exact hi), w64_succ (by omega), w64_of (by omega), Option.bind_some, Int.toNat_natCast, e2]
    rw [show k + (i : Int) + 1 = k + ((i + 1 : Nat) : Int) by omega]) (by
    have e1 : ((mk k a.length).take a.length ++ a.drop a.length) = mk k a.length := by
      rw [List.take_of_length_le (by rw [mk_len]; omega), List.drop_of_length_le (by omega), List.append_nil]
    simp only [f19_0]
    rw [e1, if_neg (by rw [mk_len]; omega)])
  simp only [Int.natCast_zero, List.take_zero, List.drop_zero, List.nil_append, Int.add_zero, Int.ofNat_zero] at this
  erw [this]
  rfl
theorem heldI {k : Int} {n : Nat} (h0 : 0 ≤ k) (h : k + n ≤ 4611686018427387904) : f20 (mk k n) k = some (k + n) := by
  unfold f20
  have := iter_steps (f := f20_0 (mk k n)) (fun i => (k + (i : Nat), (i : Int))) n (.inl (k + n)) (fun i hi => by
    simp only [f20_0]
    rw [if_pos (by rw [mk_len]; omega), ix_nat (by rw [mk_len]; exact hi), w64_succ (by omega), w64_of (by omega), Option.bind_some, mk_get, if_neg (by simp)]
    rw [show k + (i : Int) + 1 = k + ((i + 1 : Nat) : Int) by omega]) (by
    simp only [f20_0]
    rw [if_neg (by rw [mk_len]; omega)])
  simp only [Int.natCast_zero, Int.add_zero, Int.ofNat_zero] at this
  erw [this]
  rfl
def tot (l : List (List Int)) (i : Nat) : Nat := ((l.take i).map List.length).sum
theorem tot_succ {l : List (List Int)} {i : Nat} (h : i < l.length) : tot l (i + 1) = tot l i + l[i].length := by
  unfold tot; rw [take_succ' h, List.map_append, List.sum_append]; simp
theorem tot_le {l : List (List Int)} {i : Nat} : tot l i ≤ (l.map List.length).sum := by
  unfold tot
  conv => rhs; rw [← List.take_append_drop i l, List.map_append, List.sum_append]
  omega
def mkSS (k : Int) (l : List (List Int)) : List (List Int) := (List.range l.length).map fun i => mk (k + tot l i) (l.getD i []).length
theorem mkSS_len {k : Int} {l : List (List Int)} : (mkSS k l).length = l.length := by simp [mkSS]
theorem mkSS_get {k : Int} {l : List (List Int)} {i : Nat} (h : i < (mkSS k l).length) : (mkSS k l)[i] = mk (k + tot l i) (l[i]'(by rw [mkSS_len] at h; exact h)).length := by
  have h' : i < l.length := by rw [mkSS_len] at h; exact h
  simp [mkSS, List.getElem?_eq_getElem h']
theorem markII {l : List (List Int)} {k : Int} (h0 : 0 ≤ k) (h : k + (l.map List.length).sum ≤ 4611686018427387904) (hl : Big l.length) : f37 l k = some (k + tot l l.length, mkSS k l) := by
  unfold f37
  have := iter_steps (f := f37_0) (fun i => ((mkSS k l).take i ++ l.drop i, k + (tot l i : Nat), (i : Int))) l.length (mkSS k l, k + tot l l.length) (fun i hi => by
    have e1 : ((mkSS k l).take i ++ l.drop i).length = l.length := by simp [mkSS_len]; omega
    have e2 := set_copy (a := mkSS k l) (L := l) (i := i) (by rw [mkSS_len]; exact hi) (by rw [mkSS_len])
    rw [mkSS_get] at e2
    have e3 : ((mkSS k l).take i ++ l.drop i)[i]'(by rw [e1]; exact hi) = l[i] := by
      rw [List.getElem_append_right (by rw [List.length_take]; omega), List.getElem_drop]
      congr 1; simp [mkSS_len]; omega
    have e4 := tot_succ hi
    have e5 := tot_le (l := l) (i := i + 1)
    simp only [f37_0]
    rw [if_pos (by rw [e1]; omega), ix_nat (by rw [e1]; exact hi), w64_succ (by omega), Option.bind_some, e3, markI (by omega) (by omega), Option.bind_some, Int.toNat_natCast, e2]
    rw [e4, show k + (tot l i : Int) + (l[i].length : Int) = k + ((tot l i + l[i].length : Nat) : Int) by omega]) (by
    have e1 : ((mkSS k l).take l.length ++ l.drop l.length) = mkSS k l := by
      rw [List.take_of_length_le (by rw [mkSS_len]; omega), List.drop_of_length_le (by omega), List.append_nil]
    simp only [f37_0]
    rw [e1, if_neg (by rw [mkSS_len]; omega)])
  have e0 : tot l 0 = 0 := by simp [tot]
  simp only [e0, Int.natCast_zero, List.take_zero, List.drop_zero, List.nil_append, Int.add_zero, Int.ofNat_zero] at this
  erw [this]
  rfl
end Go.Proofs.YthfbkecnnllpkaaH

