/- Plain laws: all models of few variables, counted. -/
import Derived.Test.YthfbkecnnllpkaaTd1
import Derived.Test.YthfbkecnnllpkaaPb3
set_option linter.unusedVariables false
set_option linter.unusedSimpArgs false
namespace Go.Proofs.YthfbkecnnllpkaaH
open Go

theorem shl_two {n : Int} (h0 : 0 ≤ n) (h1 : n ≤ 14) : sshl .i64 1 n = ((2 ^ n.toNat : Nat) : Int) ∧ 2 ^ n.toNat ≤ 16384 := by
  have : n = 0 ∨ n = 1 ∨ n = 2 ∨ n = 3 ∨ n = 4 ∨ n = 5 ∨ n = 6 ∨ n = 7 ∨ n = 8 ∨ n = 9 ∨ n = 10 ∨ n = 11 ∨ n = 12 ∨ n = 13 ∨ n = 14 := by omega
  rcases this with h | h | h | h | h | h | h | h | h | h | h | h | h | h | h <;> subst h <;> decide
theorem nn_ok {n : Int} (h : 0 ≤ n) : nn n = some () := by unfold nn; rw [if_neg (by omega)]
def bit (k : Int) (v : Nat) : Bool := decide ((band .i64 (sshr .i64 k (v : Int)) 1) = 1)
def mods (n k : Nat) : List Bool := (List.range n).map (bit (k : Int))
theorem mods_len {n k : Nat} : (mods n k).length = n := by simp [mods]
theorem valid_ok {n : Int} {l : List (List Int)} (h : valid n l = true) : 0 ≤ n ∧ n ≤ 14 ∧ l.length ≤ 400 ∧ l.all (clS n) = true := by
  unfold valid at h
  simp only [Bool.and_eq_true, decide_eq_true_eq] at h
  exact ⟨h.2.1.1, h.2.1.2, by omega, h.1⟩
def count (n : Nat) (l : List (List Int)) : Int := (List.range (2 ^ n)).foldl (fun c k => if sat l (mods n k) = true then w64 (c + 1) else c) 0
theorem countSpec {n : Int} {l : List (List Int)} (h : Big l.length) (h' : ∀ x ∈ l, Big x.length) : f39 n l = some (if valid n l = true then count n.toNat l else 0) := by
  unfold f39
  rw [specValid h h', Option.bind_some]
  by_cases hv : valid n l = true
  · obtain ⟨h0, h1, _, _⟩ := valid_ok hv
    obtain ⟨s1, s2⟩ := shl_two h0 h1
    rw [if_neg (by simp [hv]), if_pos hv]
    rw [iter_foldl (List.range (2 ^ n.toNat)) (fun c k => if sat l (mods n.toNat k) = true then w64 (c + 1) else c) id (fun k hk c => by
      simp only [List.length_range] at hk
      simp only [List.getElem_range]
      simp only [f39_0]
      rw [nn_ok h0, Option.bind_some, s1, if_pos (by omega), w64_succ (by omega)]
      rw [iter_flat (List.range n.toNat) (fun v => [bit (k : Int) v]) id (fun v hv => by
        have hl := take_flat_le (l := List.range n.toNat) (i := v) (g := fun v => [bit (k : Int) v]) (m := 1) (fun _ => by simp)
        simp only [List.length_range] at hv
        simp only [List.getElem_range]
        generalize ((List.range n.toNat).take v).flatMap (fun v => [bit (k : Int) v]) = out at hl ⊢
        simp only [f39_1]
        rw [if_pos (by omega), nn_ok (by omega), Option.bind_some, app_fits (by simp; omega), w64_succ (by omega)]
        rfl) (by
        simp only [f39_1]
        rw [if_neg (by simp; omega)]; rfl)]
      have e1 : (List.range n.toNat).flatMap (fun v => [bit (k : Int) v]) = mods n.toNat k := by
        unfold mods; exact (List.map_eq_flatMap).symm
      rw [e1, Option.bind_some]
      simp only [id]
      rw [satSpec h h' (by rw [mods_len]; omega), Option.bind_some]
      cases sat l (mods n.toNat k) <;> rfl) (fun c => by
      simp only [f39_0]
      rw [nn_ok h0, Option.bind_some, s1, if_neg (by simp)]; rfl)]
    rfl
  · rw [if_pos (by simpa using hv), if_neg hv]
theorem countImp {n : Int} {l : List (List Int)} (h : Big l.length) (h' : ∀ x ∈ l, Big x.length) : f40 n l = some (if valid n l = true then count n.toNat l else 0) := by
  unfold f40
  rw [implValid h h', Option.bind_some]
  by_cases hv : valid n l = true
  · obtain ⟨h0, h1, _, _⟩ := valid_ok hv
    obtain ⟨s1, s2⟩ := shl_two h0 h1
    rw [if_neg (by simp [hv]), if_pos hv, mkl_ok h0 (by omega) (by omega), nn_ok h0]
    simp only [Option.bind_some]
    obtain ⟨r, e1, e2⟩ := iter_up (f := f40_0 n l) (2 ^ n.toNat) (fun i s => ∃ m : List Bool, m.length = n.toNat ∧ s = (((List.range (2 ^ n.toNat)).take i).foldl (fun c k => if sat l (mods n.toNat k) = true then w64 (c + 1) else c) 0, m, (i : Int))) (fun r => r = count n.toNat l) (fun k s hk ⟨m, hm, hs⟩ => by
      subst hs
      simp only [f40_0]
      rw [s1, if_pos (by omega), w64_succ (by omega)]
      rw [iter_copy (a := mods n.toNat k) (by rw [mods_len, hm]) (fun v hv out ho => by
        rw [mods_len] at hv
        simp only [f40_1]
        rw [if_pos (by omega), nn_ok (by omega), Option.bind_some, ix_nat ho, w64_succ (by omega), Option.bind_some, Int.toNat_natCast]
        simp [mods, bit]) (fun out => by
        simp only [f40_1]
        rw [if_neg (by rw [mods_len, hm]; omega)])]
      rw [Option.bind_some, satImp h h' (by rw [mods_len]; omega), Option.bind_some]
      refine ⟨.inl (if sat l (mods n.toNat k) = true then _ else _, _, _), by cases sat l (mods n.toNat k) <;> rfl, mods n.toNat k, mods_len, ?_⟩
      have ht := take_succ' (l := List.range (2 ^ n.toNat)) (i := k) (by simpa using hk)
      rw [ht, List.foldl_append]
      simp only [List.getElem_range]; rfl) (fun s ⟨m, hm, hs⟩ => by
      subst hs
      simp only [f40_0]
      rw [s1, if_neg (by omega)]
      refine ⟨_, rfl, ?_⟩
      unfold count
      rw [List.take_of_length_le (by simp)]) (0, List.replicate n.toNat false, 0) ⟨List.replicate n.toNat false, by simp, by simp⟩
    rw [e1, e2]; rfl
  · rw [if_pos (by simpa using hv), if_neg hv]
end Go.Proofs.YthfbkecnnllpkaaH

