/- What some functions of the law compute, on trees. -/
import Derived.Test.YthfbkecnnllpkaaCx1
set_option linter.unusedVariables false
namespace Go.Proofs.YthfbkecnnllpkaaH
open Go
theorem loop18 (xs ys : List Int) (hx : xs.length < 1000000000) (he : ys.length = xs.length) (n : Nat) : ∀ (i : Nat), n = xs.length - i → i ≤ xs.length → (∀ j, j < i → xs[j]? = ys[j]?) →
    Wc cx 26 (.loop L18_0) [(0, .v (tInts xs)), (1, .v (tInts ys)), (5, .v (.int .i64 i))] fun ex V =>
      if xs = ys then ex = .exit 0 ∧ V = [] else ex = .ret ∧ V = [(4, .v (.bool false))] := by
  induction n with
  | zero =>
    intro i hn hi hp
    refine Wc.loop (Wc.seq (Wc.seq (Wc.ev (by conv => lhs; simp [tInts]) (Wo.nil ?_))))
    refine Wc.cond (by conv => lhs; simp) (fun hc => ?_) (fun hc => ?_)
    · simp at hc; omega
    · refine Wc.seq (Wc.kil (by conv => lhs; simp) (Wc.exit ?_))
      have : xs = ys := by
        apply List.ext_getElem?
        intro j
        by_cases hj : j < i
        · exact hp j hj
        · rw [List.getElem?_eq_none (by omega), List.getElem?_eq_none (by omega)]
      simp [this]
  | succ n ih =>
    intro i hn hi hp
    have hlt : i < xs.length := by omega
    refine Wc.loop (Wc.seq (Wc.seq (Wc.ev (by conv => lhs; simp [tInts]) (Wo.nil ?_))))
    refine Wc.cond (by conv => lhs; simp) (fun hc => ?_) (fun hc => ?_)
    · refine Wc.seq (Wc.kil (by conv => lhs; simp) (Wc.skip ?_))
      refine Wc.seq (Wc.block (Wc.seq (Wc.ev (by conv => lhs; simp [tInts, hlt, he]) (Wo.nil ?_))))
      have hw : IntKind.i64.wrap ((i : Int) + 1) = ((i + 1 : Nat) : Int) := by rw [wrap_in _ (by omega)]; simp
      refine Wc.cond (by conv => lhs; simp) (fun hc2 => ?_) (fun hc2 => ?_)
      · refine Wc.seq (Wc.kil (by conv => lhs; simp) ?_)
        refine Wc.seq (Wc.ev (by conv => lhs; simp) (Wo.nil (Wc.ret ?_)))
        have hne : xs ≠ ys := by
          intro e; subst e; simp at hc2
        simp [hne]
      · refine Wc.seq (Wc.kil (by conv => lhs; simp) (Wc.skip ?_))
        refine Wc.ev (by conv => lhs; simp [hw]) (Wo.nil ?_)
        refine ih (i + 1) (by omega) (by omega) fun j hj => ?_
        by_cases hji : j = i
        · subst hji
          rw [List.getElem?_eq_getElem hlt, List.getElem?_eq_getElem (by omega)]
          simpa using hc2
        · exact hp j (by omega)
    · simp at hc; omega
theorem spec18 (xs ys : List Int) (hx : xs.length < 1000000000) (hy : ys.length < 1000000000) : VJx cx (.ca 18 [tInts xs, tInts ys] (.bool (xs == ys)) []) := by
  refine ca_of rfl rfl (by decide) rfl ?_
  refine Wc.seq (Wc.ev (by conv => lhs; simp [tInts]) (Wo.nil ?_))
  refine Wc.seq (Wc.seq (Wc.ev (by conv => lhs; simp [tInts]) (Wo.nil ?_)))
  refine Wc.cond (by conv => lhs; simp) (fun hc => ?_) (fun hc => ?_)
  · refine Wc.seq (Wc.kil (by conv => lhs; simp) ?_)
    refine Wc.seq (Wc.ev (by conv => lhs; simp [tInts]) (Wo.nil ?_))
    refine Wc.ret (res_of (.inr rfl) ?_)
    have : xs ≠ ys := by intro e; subst e; simp at hc
    exact ⟨_, _, _, by conv => lhs; simp, rfl, by simp [this]⟩
  · have he : ys.length = xs.length := by simp at hc; omega
    refine Wc.seq (Wc.kil (by conv => lhs; simp) (Wc.skip ?_))
    refine Wc.seq (Wc.seq (Wc.ev (by conv => lhs; simp [tInts]) (Wo.nil (Wc.block ?_))))
    refine Wc.mono (loop18 xs ys hx he xs.length 0 (by omega) (by omega) (by intro j hj; omega)) fun ex V h => ?_
    by_cases e : xs = ys
    · rw [if_pos e] at h
      obtain ⟨rfl, rfl⟩ := h
      refine Wc.seq (Wc.ev (by conv => lhs; simp [tInts]) (Wo.nil ?_))
      refine Wc.ret (res_of (.inr rfl) ?_)
      exact ⟨_, _, _, by conv => lhs; simp, rfl, by simp [e]⟩
    · rw [if_neg e] at h
      obtain ⟨rfl, rfl⟩ := h
      refine res_of (.inr rfl) ?_
      exact ⟨_, _, _, by conv => lhs; simp, rfl, by simp [e]⟩
end Go.Proofs.YthfbkecnnllpkaaH
