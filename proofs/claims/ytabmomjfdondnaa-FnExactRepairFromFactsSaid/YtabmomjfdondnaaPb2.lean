/- Plain laws: searches, sets, IsCovered. -/
import Derived.Test.YtabmomjfdondnaaTd1
import Derived.Test.YtabmomjfdondnaaPb1
import Derived.Test.YtabmomjfdondnaaPl3
set_option linter.unusedVariables false
set_option linter.unusedSimpArgs false
namespace Go.Proofs.YtabmomjfdondnaaH
open Go

abbrev Big (n : Nat) : Prop := n ≤ 9223372036854775806
theorem hasI {l : List Int} {x : Int} (h : Big l.length) : f98 l x = some (l.contains x) := by
  unfold f98
  rw [iter_ex l (fun a => x == a) true (fun i hi => by
    simp only [f98_0]
    rw [if_pos (by omega), ix_nat hi, w64_succ (by omega)]
    simp only [Option.bind_some]
    by_cases hc : l[i] = x
    · rw [if_pos hc, if_pos (by simp [hc])]
    · rw [if_neg hc, if_neg (by simp; exact fun h => hc h.symm)]) (by
    simp only [f98_0]
    rw [if_neg (by omega)])]
  rw [show l.contains x = l.any (fun a => x == a) from List.any_beq.symm]
  by_cases hc : l.any (fun a => x == a) = true
  · rw [if_pos hc, hc]; rfl
  · rw [if_neg hc]; simp only [Bool.not_eq_true] at hc; rw [hc]; rfl
theorem indexI {s : List Int} {f : Int → Option Bool} {p : Int → Bool} (h : Big s.length) (hf : ∀ a ∈ s, f a = some (p a)) : f74 s f = some (s.any p) := by
  unfold f74 f103
  obtain ⟨o, h1, h2⟩ := iter_idx (f := f103_0 s f) s p (fun i hi => by
    simp only [f103_0]
    rw [if_pos (by omega), ix_nat hi, w64_succ (by omega)]
    simp only [Option.bind_some, hf _ (List.getElem_mem hi)]
    split <;> rfl) (by
    simp only [f103_0]
    rw [if_neg (by omega)])
  rw [h1]
  cases o with
  | inl _ => dsimp only at h2; rw [h2]; rfl
  | inr x => dsimp only at h2; rw [h2.2]; simp; omega
theorem containsI {s : List Int} {v : Int} (h : Big s.length) : f105 s v = some (s.contains v) := by
  unfold f105 f158
  obtain ⟨o, h1, h2⟩ := iter_idx (f := f158_0 s v) s (fun a => v == a) (fun i hi => by
    simp only [f158_0]
    rw [if_pos (by omega), ix_nat hi, w64_succ (by omega)]
    simp only [Option.bind_some, beq_iff_eq]
    split <;> rfl) (by
    simp only [f158_0]
    rw [if_neg (by omega)])
  rw [h1]
  rw [show s.contains v = s.any (fun a => v == a) from List.any_beq.symm]
  cases o with
  | inl _ => dsimp only at h2; rw [h2]; rfl
  | inr x => dsimp only at h2; rw [h2.2]; simp; omega
end Go.Proofs.YtabmomjfdondnaaH

