/- Plain laws: searches, sets, IsCovered. -/
import Derived.Test.YthfbkecnnllpkaaTd1
import Derived.Test.YthfbkecnnllpkaaPb1
import Derived.Test.YthfbkecnnllpkaaPl3
set_option linter.unusedVariables false
set_option linter.unusedSimpArgs false
namespace Go.Proofs.YthfbkecnnllpkaaH
open Go

abbrev Big (n : Nat) : Prop := n ≤ 9223372036854775806
theorem indexII {s : List (List Int)} {f : List Int → Option Bool} {p : List Int → Bool} (h : Big s.length) (hf : ∀ a ∈ s, f a = some (p a)) : f53 s f = some (s.any p) := by
  unfold f53 f71
  obtain ⟨o, h1, h2⟩ := iter_idx (f := f71_0 s f) s p (fun i hi => by
    simp only [f71_0]
    rw [if_pos (by omega), ix_nat hi, w64_succ (by omega)]
    simp only [Option.bind_some, hf _ (List.getElem_mem hi)]
    split <;> rfl) (by
    simp only [f71_0]
    rw [if_neg (by omega)])
  rw [h1]
  cases o with
  | inl _ => dsimp only at h2; rw [h2]; rfl
  | inr x => dsimp only at h2; rw [h2.2]; simp; omega
theorem indexI {s : List Int} {f : Int → Option Bool} {p : Int → Bool} (h : Big s.length) (hf : ∀ a ∈ s, f a = some (p a)) : f57 s f = some (s.any p) := by
  unfold f57 f74
  obtain ⟨o, h1, h2⟩ := iter_idx (f := f74_0 s f) s p (fun i hi => by
    simp only [f74_0]
    rw [if_pos (by omega), ix_nat hi, w64_succ (by omega)]
    simp only [Option.bind_some, hf _ (List.getElem_mem hi)]
    split <;> rfl) (by
    simp only [f74_0]
    rw [if_neg (by omega)])
  rw [h1]
  cases o with
  | inl _ => dsimp only at h2; rw [h2]; rfl
  | inr x => dsimp only at h2; rw [h2.2]; simp; omega
theorem containsI {s : List Int} {v : Int} (h : Big s.length) : f73 s v = some (s.contains v) := by
  unfold f73 f83
  obtain ⟨o, h1, h2⟩ := iter_idx (f := f83_0 s v) s (fun a => v == a) (fun i hi => by
    simp only [f83_0]
    rw [if_pos (by omega), ix_nat hi, w64_succ (by omega)]
    simp only [Option.bind_some, beq_iff_eq]
    split <;> rfl) (by
    simp only [f83_0]
    rw [if_neg (by omega)])
  rw [h1]
  rw [show s.contains v = s.any (fun a => v == a) from List.any_beq.symm]
  cases o with
  | inl _ => dsimp only at h2; rw [h2]; rfl
  | inr x => dsimp only at h2; rw [h2.2]; simp; omega
end Go.Proofs.YthfbkecnnllpkaaH

