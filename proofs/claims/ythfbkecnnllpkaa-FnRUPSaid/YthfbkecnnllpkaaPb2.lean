/- Plain laws: searches, sets, IsCovered. -/
import Derived.Test.YthfbkecnnllpkaaTd1
import Derived.Test.YthfbkecnnllpkaaPb1
import Derived.Test.YthfbkecnnllpkaaPl3
set_option linter.unusedVariables false
set_option linter.unusedSimpArgs false
namespace Go.Proofs.YthfbkecnnllpkaaH
open Go

abbrev Big (n : Nat) : Prop := n ≤ 9223372036854775806
theorem hasI {l : List Int} {x : Int} (h : Big l.length) : f70 l x = some (l.contains x) := by
  unfold f70
  rw [iter_ex l (fun a => x == a) true (fun i hi => by
    simp only [f70_0]
    rw [if_pos (by omega), ix_nat hi, w64_succ (by omega)]
    simp only [Option.bind_some]
    by_cases hc : l[i] = x
    · rw [if_pos hc, if_pos (by simp [hc])]
    · rw [if_neg hc, if_neg (by simp; exact fun h => hc h.symm)]) (by
    simp only [f70_0]
    rw [if_neg (by omega)])]
  rw [show l.contains x = l.any (fun a => x == a) from List.any_beq.symm]
  by_cases hc : l.any (fun a => x == a) = true
  · rw [if_pos hc, hc]; rfl
  · rw [if_neg hc]; simp only [Bool.not_eq_true] at hc; rw [hc]; rfl
theorem indexII {s : List (List Int)} {f : List Int → Option Bool} {p : List Int → Bool} (h : Big s.length) (hf : ∀ a ∈ s, f a = some (p a)) : f53 s f = some (s.any p) := by
  unfold f53 f71
  obtain ⟨o, h1, h2⟩ := iter_idx (f := f71_0 s f) s p (fun i hi => by
    simp only [f71_0]
    rw [if_pos (by omega), ix_nat hi, w64_succ (by omega)]
    simp only [Option.bind_some, hf _ (List.getElem_mem hi)]
    split <;> rfl) (by
    simp only [f71_0]
    rw [if_neg (by omega)])
  rw [h1]
  cases o with
  | inl _ => dsimp only at h2; rw [h2]; rfl
  | inr x => dsimp only at h2; rw [h2.2]; simp; omega
theorem indexI {s : List Int} {f : Int → Option Bool} {p : Int → Bool} (h : Big s.length) (hf : ∀ a ∈ s, f a = some (p a)) : f57 s f = some (s.any p) := by
  unfold f57 f74
  obtain ⟨o, h1, h2⟩ := iter_idx (f := f74_0 s f) s p (fun i hi => by
    simp only [f74_0]
    rw [if_pos (by omega), ix_nat hi, w64_succ (by omega)]
    simp only [Option.bind_some, hf _ (List.getElem_mem hi)]
    split <;> rfl) (by
    simp only [f74_0]
    rw [if_neg (by omega)])
  rw [h1]
  cases o with
  | inl _ => dsimp only at h2; rw [h2]; rfl
  | inr x => dsimp only at h2; rw [h2.2]; simp; omega
theorem containsI {s : List Int} {v : Int} (h : Big s.length) : f73 s v = some (s.contains v) := by
  unfold f73 f83
  obtain ⟨o, h1, h2⟩ := iter_idx (f := f83_0 s v) s (fun a => v == a) (fun i hi => by
    simp only [f83_0]
    rw [if_pos (by omega), ix_nat hi, w64_succ (by omega)]
    simp only [Option.bind_some, beq_iff_eq]
    split <;> rfl) (by
    simp only [f83_0]
    rw [if_neg (by omega)])
  rw [h1]
  rw [show s.contains v = s.any (fun a => v == a) from List.any_beq.symm]
  cases o with
  | inl _ => dsimp only at h2; rw [h2]; rfl
  | inr x => dsimp only at h2; rw [h2.2]; simp; omega
end Go.Proofs.YthfbkecnnllpkaaH

