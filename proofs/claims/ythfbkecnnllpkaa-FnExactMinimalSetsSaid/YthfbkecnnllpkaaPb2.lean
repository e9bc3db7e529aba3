/- Plain laws: searches, sets, IsCovered. -/
import Derived.Test.YthfbkecnnllpkaaTd1
import Derived.Test.YthfbkecnnllpkaaPb1
import Derived.Test.YthfbkecnnllpkaaPl3
set_option linter.unusedVariables false
set_option linter.unusedSimpArgs false
namespace Go.Proofs.YthfbkecnnllpkaaH
open Go

abbrev Big (n : Nat) : Prop := n ≤ 9223372036854775806
theorem hasI {l : List Int} {x : Int} (h : Big l.length) : f70 l x = some (l.contains x) := by
  unfold f70
  rw [iter_ex l (fun a => x == a) true (fun i hi => by
    simp only [f70_0]
    rw [if_pos (by omega), ix_nat hi, w64_succ (by omega)]
    simp only [Option.bind_some]
    by_cases hc : l[i] = x
    · rw [if_pos hc, if_pos (by simp [hc])]
    · rw [if_neg hc, if_neg (by simp; exact fun h => hc h.symm)]) (by
    simp only [f70_0]
    rw [if_neg (by omega)])]
  rw [show l.contains x = l.any (fun a => x == a) from List.any_beq.symm]
  by_cases hc : l.any (fun a => x == a) = true
  · rw [if_pos hc, hc]; rfl
  · rw [if_neg hc]; simp only [Bool.not_eq_true] at hc; rw [hc]; rfl
theorem indexI {s : List Int} {f : Int → Option Bool} {p : Int → Bool} (h : Big s.length) (hf : ∀ a ∈ s, f a = some (p a)) : f57 s f = some (s.any p) := by
  unfold f57 f74
  obtain ⟨o, h1, h2⟩ := iter_idx (f := f74_0 s f) s p (fun i hi => by
    simp only [f74_0]
    rw [if_pos (by omega), ix_nat hi, w64_succ (by omega)]
    simp only [Option.bind_some, hf _ (List.getElem_mem hi)]
    split <;> rfl) (by
    simp only [f74_0]
    rw [if_neg (by omega)])
  rw [h1]
  cases o with
  | inl _ => dsimp only at h2; rw [h2]; rfl
  | inr x => dsimp only at h2; rw [h2.2]; simp; omega
theorem containsI {s : List Int} {v : Int} (h : Big s.length) : f73 s v = some (s.contains v) := by
  unfold f73 f83
  obtain ⟨o, h1, h2⟩ := iter_idx (f := f83_0 s v) s (fun a => v == a) (fun i hi => by
    simp only [f83_0]
    rw [if_pos (by omega), ix_nat hi, w64_succ (by omega)]
    simp only [Option.bind_some, beq_iff_eq]
    split <;> rfl) (by
    simp only [f83_0]
    rw [if_neg (by omega)])
  rw [h1]
  rw [show s.contains v = s.any (fun a => v == a) from List.any_beq.symm]
  cases o with
  | inl _ => dsimp only at h2; rw [h2]; rfl
  | inr x => dsimp only at h2; rw [h2.2]; simp; omega
theorem subset {a b : List Int} (ha : Big a.length) (hb : Big b.length) : f55 a b = some (a.all b.contains) := by
  unfold f55
  rw [indexI (p := fun x => !b.contains x) ha (fun x _ => by
    unfold f72
    rw [containsI hb]
    simp)]
  rw [any_not]
  simp
/-- A set that covers. -/
def cov (l : List (List Int)) (s : List Int) : Bool := l.any fun v => v.all s.contains
theorem met {l : List (List Int)} {s : List Int} (h : Big l.length) (h' : ∀ x ∈ l, Big x.length) (hs : Big s.length) : f52 l s = some (cov l s) := by
  unfold f52
  rw [iter_ex l (fun v => v.all s.contains) true (fun i hi => by
    simp only [f52_0]
    rw [if_pos (by omega), w64_succ (by omega)]
    rw [iter_foldl l[i] (fun b a => b && s.contains a) id (fun k hk b => by
      simp only [f52_1]
      have hk' := h' _ (List.getElem_mem hi)
      rw [ix_nat hi, Option.bind_some, if_pos (by omega), ix_nat hk, w64_succ (by omega)]
      simp only [Option.bind_some, hasI hs]
      cases b <;> rfl) (fun b => by
      simp only [f52_1]
      rw [ix_nat hi, Option.bind_some, if_neg (by omega)]; rfl)]
    simp only [Option.bind_some, foldl_all, Bool.true_and, id]
    split <;> rfl) (by
    simp only [f52_0]
    rw [if_neg (by omega)])]
  unfold cov
  by_cases hc : (l.any fun v => v.all s.contains) = true
  · rw [if_pos hc, hc]; rfl
  · rw [if_neg hc]; simp only [Bool.not_eq_true] at hc; rw [hc]; rfl
theorem specCov {l : List (List Int)} {s : List Int} (h : Big l.length) (h' : ∀ x ∈ l, Big x.length) (hs : Big s.length) : f27 l s = some (cov l s) := by
  unfold f27
  rw [met h h' hs]; rfl
end Go.Proofs.YthfbkecnnllpkaaH

