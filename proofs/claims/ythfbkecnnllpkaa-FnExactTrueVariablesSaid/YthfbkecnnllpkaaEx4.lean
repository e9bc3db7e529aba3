/- What some functions of the law compute, on trees. -/
import Derived.Test.YthfbkecnnllpkaaEx3
set_option linter.unusedVariables false
namespace Go.Proofs.YthfbkecnnllpkaaH
open Go
def oBools (l : List Bool) : T := .sl true false 1 0 (bools l)
theorem bools_set (l : List Bool) (i : Nat) (x : Bool) (h : i < l.length) : (bools l).take i ++ (T.bool x :: (bools l).drop (i + 1)) = bools (l.set i x) := by
  unfold bools
  rw [← List.map_take, ← List.map_drop, List.set_eq_take_append_cons_drop, if_pos h]; simp
theorem loop22 (xs : List Bool) (hx : xs.length < 1000000000) (n : Nat) : ∀ (i : Nat) (acc : List Bool), n = xs.length - i → i ≤ xs.length → acc.length = xs.length → acc.take i = xs.take i →
    Wc cx 22 (.loop L22_0) [(0, .v (tBools xs)), (3, .v (oBools acc)), (4, .v (.int .i64 i))] fun ex V => ex = .exit 0 ∧ V = [(3, .v (oBools xs))] := by
  induction n with
  | zero =>
    intro i acc hn hi ha ht
    refine Wc.loop (Wc.seq (Wc.seq (Wc.ev (by conv => lhs; simp [tBools, oBools]) (Wo.nil ?_))))
    refine Wc.cond (by conv => lhs; simp) (fun hc => ?_) (fun hc => ?_)
    · simp at hc; omega
    · refine Wc.seq (Wc.kil (by conv => lhs; simp) (Wc.exit ?_))
      rw [List.take_of_length_le (by omega), List.take_of_length_le (by omega)] at ht
      subst ht
      simp [oBools]
  | succ n ih =>
    intro i acc hn hi ha ht
    have hlt : i < xs.length := by omega
    refine Wc.loop (Wc.seq (Wc.seq (Wc.ev (by conv => lhs; simp [tBools, oBools]) (Wo.nil ?_))))
    refine Wc.cond (by conv => lhs; simp) (fun hc => ?_) (fun hc => ?_)
    · refine Wc.seq (Wc.kil (by conv => lhs; simp) (Wc.skip ?_))
      have hle : i + 1 ≤ xs.length := by omega
      refine Wc.seq (Wc.block (Wc.ev (by conv => lhs; simp [hlt, ha, hle]) (Wo.nil ?_)))
      have hw : IntKind.i64.wrap ((i : Int) + 1) = ((i + 1 : Nat) : Int) := by rw [wrap_in _ (by omega)]; simp
      rw [bools_set _ _ _ (by omega)]
      refine Wc.ev (by conv => lhs; simp [hw]) (Wo.nil ?_)
      refine ih (i + 1) (acc.set i xs[i]) (by omega) (by omega) (by simpa using ha) ?_
      rw [List.take_add_one, List.take_add_one, List.take_set_of_le (Nat.le_refl _), ht, List.getElem?_set_self (by omega), List.getElem?_eq_getElem hlt]
    · simp at hc; omega
def IsB (t : T) (l : List Bool) : Prop := t = tBools l ∨ (t = .nils ∧ l = [])
theorem spec22 (t : T) (xs : List Bool) (ht : IsB t xs) (hx : xs.length < 1000000000) : VJx cx (.ca 22 [t] (oBools xs) []) := by
  refine ca_of rfl rfl (by decide) rfl ?_
  rcases ht with rfl | ⟨rfl, rfl⟩
  · have h1 : (xs.length : Int) ≤ 281474976710656 := by omega
    have h2 : (xs.length : Int) ≤ 9223372036854775807 := by omega
    refine Wc.seq (Wc.ev (by conv => lhs; simp [tBools]) (Wo.nil ?_))
    refine Wc.seq (Wc.ev (by conv => lhs; simp [tBools, h1, h2]) (Wo.nil ?_))
    refine Wc.seq (Wc.seq (Wc.ev (by conv => lhs; simp) (Wo.nil (Wc.block ?_))))
    have hz : List.replicate xs.length (T.bool false) = bools (List.replicate xs.length false) := by simp [bools]
    rw [hz]
    refine Wc.mono (loop22 xs hx xs.length 0 _ (by omega) (by omega) (by simp) (by simp)) fun ex V h => ?_
    obtain ⟨rfl, rfl⟩ := h
    refine Wc.seq (Wc.ev (by conv => lhs; simp [oBools]) (Wo.nil (Wc.ret (res_of (.inr rfl) ?_))))
    exact ⟨_, _, _, by conv => lhs; simp, rfl, by simp [oBools]⟩
  · refine Wc.seq (Wc.ev (by conv => lhs; simp) (Wo.nil ?_))
    refine Wc.seq (Wc.ev (by conv => lhs; simp) (Wo.nil ?_))
    refine Wc.seq (Wc.seq (Wc.ev (by conv => lhs; simp) (Wo.nil (Wc.block ?_))))
    refine Wc.loop (Wc.seq (Wc.seq (Wc.ev (by conv => lhs; simp) (Wo.nil ?_))))
    refine Wc.cond (by conv => lhs; simp) (fun hc => by simp at hc) (fun hc => ?_)
    refine Wc.seq (Wc.kil (by conv => lhs; simp) (Wc.exit ?_))
    refine Wc.seq (Wc.ev (by conv => lhs; simp [oBools]) (Wo.nil (Wc.ret (res_of (.inr rfl) ?_))))
    exact ⟨_, _, _, by conv => lhs; simp, rfl, by simp [oBools, bools]⟩
theorem loop24 (xs ys : List Bool) (hx : xs.length < 1000000000) (he : ys.length = xs.length) (n : Nat) : ∀ (i : Nat), n = xs.length - i → i ≤ xs.length → (∀ j, j < i → xs[j]? = ys[j]?) →
    Wc cx 26 (.loop L24_0) [(0, .v (tBools xs)), (1, .v (tBools ys)), (5, .v (.int .i64 i))] fun ex V =>
      if xs = ys then ex = .exit 0 ∧ V = [] else ex = .ret ∧ V = [(4, .v (.bool false))] := by
  induction n with
  | zero =>
    intro i hn hi hp
    refine Wc.loop (Wc.seq (Wc.seq (Wc.ev (by conv => lhs; simp [tBools]) (Wo.nil ?_))))
    refine Wc.cond (by conv => lhs; simp) (fun hc => ?_) (fun hc => ?_)
    · simp at hc; omega
    · refine Wc.seq (Wc.kil (by conv => lhs; simp) (Wc.exit ?_))
      have : xs = ys := by
        apply List.ext_getElem?
        intro j
        by_cases hj : j < i
        · exact hp j hj
        · rw [List.getElem?_eq_none (by omega), List.getElem?_eq_none (by omega)]
      simp [this]
  | succ n ih =>
    intro i hn hi hp
    have hlt : i < xs.length := by omega
    refine Wc.loop (Wc.seq (Wc.seq (Wc.ev (by conv => lhs; simp [tBools]) (Wo.nil ?_))))
    refine Wc.cond (by conv => lhs; simp) (fun hc => ?_) (fun hc => ?_)
    · refine Wc.seq (Wc.kil (by conv => lhs; simp) (Wc.skip ?_))
      refine Wc.seq (Wc.block (Wc.seq (Wc.ev (by conv => lhs; simp [tBools, hlt, he]) (Wo.nil ?_))))
      have hw : IntKind.i64.wrap ((i : Int) + 1) = ((i + 1 : Nat) : Int) := by rw [wrap_in _ (by omega)]; simp
      refine Wc.cond (by conv => lhs; simp) (fun hc2 => ?_) (fun hc2 => ?_)
      · refine Wc.seq (Wc.kil (by conv => lhs; simp) ?_)
        refine Wc.seq (Wc.ev (by conv => lhs; simp) (Wo.nil (Wc.ret ?_)))
        have hne : xs ≠ ys := by
          intro e; subst e; simp at hc2
        simp [hne]
      · refine Wc.seq (Wc.kil (by conv => lhs; simp) (Wc.skip ?_))
        refine Wc.ev (by conv => lhs; simp [hw]) (Wo.nil ?_)
        refine ih (i + 1) (by omega) (by omega) fun j hj => ?_
        by_cases hji : j = i
        · subst hji
          rw [List.getElem?_eq_getElem hlt, List.getElem?_eq_getElem (by omega)]
          simpa using hc2
        · exact hp j (by omega)
    · simp at hc; omega
theorem spec24 (xs ys : List Bool) (hx : xs.length < 1000000000) (hy : ys.length < 1000000000) : VJx cx (.ca 24 [tBools xs, tBools ys] (.bool (xs == ys)) []) := by
  refine ca_of rfl rfl (by decide) rfl ?_
  refine Wc.seq (Wc.ev (by conv => lhs; simp [tBools]) (Wo.nil ?_))
  refine Wc.seq (Wc.seq (Wc.ev (by conv => lhs; simp [tBools]) (Wo.nil ?_)))
  refine Wc.cond (by conv => lhs; simp) (fun hc => ?_) (fun hc => ?_)
  · refine Wc.seq (Wc.kil (by conv => lhs; simp) ?_)
    refine Wc.seq (Wc.ev (by conv => lhs; simp [tBools]) (Wo.nil ?_))
    refine Wc.ret (res_of (.inr rfl) ?_)
    have : xs ≠ ys := by intro e; subst e; simp at hc
    exact ⟨_, _, _, by conv => lhs; simp, rfl, by simp [this]⟩
  · have he : ys.length = xs.length := by simp at hc; omega
    refine Wc.seq (Wc.kil (by conv => lhs; simp) (Wc.skip ?_))
    refine Wc.seq (Wc.seq (Wc.ev (by conv => lhs; simp [tBools]) (Wo.nil (Wc.block ?_))))
    refine Wc.mono (loop24 xs ys hx he xs.length 0 (by omega) (by omega) (by intro j hj; omega)) fun ex V h => ?_
    by_cases e : xs = ys
    · rw [if_pos e] at h
      obtain ⟨rfl, rfl⟩ := h
      refine Wc.seq (Wc.ev (by conv => lhs; simp [tBools]) (Wo.nil ?_))
      refine Wc.ret (res_of (.inr rfl) ?_)
      exact ⟨_, _, _, by conv => lhs; simp, rfl, by simp [e]⟩
    · rw [if_neg e] at h
      obtain ⟨rfl, rfl⟩ := h
      refine res_of (.inr rfl) ?_
      exact ⟨_, _, _, by conv => lhs; simp, rfl, by simp [e]⟩
end Go.Proofs.YthfbkecnnllpkaaH
