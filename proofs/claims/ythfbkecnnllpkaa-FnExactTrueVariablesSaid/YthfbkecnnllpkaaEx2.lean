/- What some functions of the law compute, on trees. -/
import Derived.Test.YthfbkecnnllpkaaEx1
set_option linter.unusedVariables false
namespace Go.Proofs.YthfbkecnnllpkaaH
open Go
/-- An owned slice of whole numbers. -/
def oInts (l : List Int) : T := .sl true false 1 0 (ints l)
theorem ints_set (l : List Int) (i : Nat) (x : Int) (h : i < l.length) : (ints l).take i ++ (.int .i64 x :: (ints l).drop (i + 1)) = ints (l.set i x) := by
  unfold ints
  rw [← List.map_take, ← List.map_drop, List.set_eq_take_append_cons_drop, if_pos h]; simp
theorem loop16 (xs : List Int) (hx : xs.length < 1000000000) (n : Nat) : ∀ (i : Nat) (acc : List Int), n = xs.length - i → i ≤ xs.length → acc.length = xs.length → acc.take i = xs.take i →
    Wc cx 22 (.loop L16_0) [(0, .v (tInts xs)), (3, .v (oInts acc)), (4, .v (.int .i64 i))] fun ex V => ex = .exit 0 ∧ V = [(3, .v (oInts xs))] := by
  induction n with
  | zero =>
    intro i acc hn hi ha ht
    refine Wc.loop (Wc.seq (Wc.seq (Wc.ev (by conv => lhs; simp [tInts, oInts]) (Wo.nil ?_))))
    refine Wc.cond (by conv => lhs; simp) (fun hc => ?_) (fun hc => ?_)
    · simp at hc; omega
    · refine Wc.seq (Wc.kil (by conv => lhs; simp) (Wc.exit ?_))
      rw [List.take_of_length_le (by omega), List.take_of_length_le (by omega)] at ht
      subst ht
      simp [oInts]
  | succ n ih =>
    intro i acc hn hi ha ht
    have hlt : i < xs.length := by omega
    refine Wc.loop (Wc.seq (Wc.seq (Wc.ev (by conv => lhs; simp [tInts, oInts]) (Wo.nil ?_))))
    refine Wc.cond (by conv => lhs; simp) (fun hc => ?_) (fun hc => ?_)
    · refine Wc.seq (Wc.kil (by conv => lhs; simp) (Wc.skip ?_))
      have hle : i + 1 ≤ xs.length := by omega
      refine Wc.seq (Wc.block (Wc.ev (by conv => lhs; simp [hlt, ha, hle]) (Wo.nil ?_)))
      have hw : IntKind.i64.wrap ((i : Int) + 1) = ((i + 1 : Nat) : Int) := by rw [wrap_in _ (by omega)]; simp
      rw [ints_set _ _ _ (by omega)]
      refine Wc.ev (by conv => lhs; simp [hw]) (Wo.nil ?_)
      refine ih (i + 1) (acc.set i xs[i]) (by omega) (by omega) (by simpa using ha) ?_
      rw [List.take_add_one, List.take_add_one, List.take_set_of_le (Nat.le_refl _), ht, List.getElem?_set_self (by omega), List.getElem?_eq_getElem hlt]
    · simp at hc; omega
/-- What stands for a list of whole numbers. -/
def IsI (t : T) (l : List Int) : Prop := t = tInts l ∨ (t = .nils ∧ l = [])
theorem spec16 (t : T) (xs : List Int) (ht : IsI t xs) (hx : xs.length < 1000000000) : VJx cx (.ca 16 [t] (oInts xs) []) := by
  refine ca_of rfl rfl (by decide) rfl ?_
  rcases ht with rfl | ⟨rfl, rfl⟩
  · have h1 : (8 : Int) * xs.length ≤ 281474976710656 := by omega
    have h2 : (xs.length : Int) ≤ 9223372036854775807 := by omega
    refine Wc.seq (Wc.ev (by conv => lhs; simp [tInts]) (Wo.nil ?_))
    refine Wc.seq (Wc.ev (by conv => lhs; simp [tInts, h1, h2]) (Wo.nil ?_))
    refine Wc.seq (Wc.seq (Wc.ev (by conv => lhs; simp) (Wo.nil (Wc.block ?_))))
    have hz : List.replicate xs.length (T.int .i64 0) = ints (List.replicate xs.length 0) := by simp [ints]
    rw [hz]
    refine Wc.mono (loop16 xs hx xs.length 0 _ (by omega) (by omega) (by simp) (by simp)) fun ex V h => ?_
    obtain ⟨rfl, rfl⟩ := h
    refine Wc.seq (Wc.ev (by conv => lhs; simp [oInts]) (Wo.nil (Wc.ret (res_of (.inr rfl) ?_))))
    exact ⟨_, _, _, by conv => lhs; simp, rfl, by simp [oInts]⟩
  · refine Wc.seq (Wc.ev (by conv => lhs; simp) (Wo.nil ?_))
    refine Wc.seq (Wc.ev (by conv => lhs; simp) (Wo.nil ?_))
    refine Wc.seq (Wc.seq (Wc.ev (by conv => lhs; simp) (Wo.nil (Wc.block ?_))))
    refine Wc.loop (Wc.seq (Wc.seq (Wc.ev (by conv => lhs; simp) (Wo.nil ?_))))
    refine Wc.cond (by conv => lhs; simp) (fun hc => by simp at hc) (fun hc => ?_)
    refine Wc.seq (Wc.kil (by conv => lhs; simp) (Wc.exit ?_))
    refine Wc.seq (Wc.ev (by conv => lhs; simp [oInts]) (Wo.nil (Wc.ret (res_of (.inr rfl) ?_))))
    exact ⟨_, _, _, by conv => lhs; simp, rfl, by simp [oInts, ints]⟩
/-- Whole numbers m, m + 1, .. -/
def upFrom (m : Int) : Nat → List Int
  | 0 => []
  | n + 1 => m :: upFrom (m + 1) n
theorem loop19 (n : Nat) : ∀ (i : Nat) (acc : List Int) (k : Int), n = acc.length - i → i ≤ acc.length → acc.length < 1000000000 → 0 ≤ k → k + (acc.length - i : Nat) < 9223372036854775807 →
    Wc cx 19 (.loop L19_0) [(0, .v (oInts acc)), (1, .v (.int .i64 k)), (5, .v (.int .i64 i))] fun ex V => ex = .exit 0 ∧ V = [(0, .v (oInts (acc.take i ++ upFrom k (acc.length - i)))), (1, .v (.int .i64 (k + (acc.length - i : Nat))))] := by
  induction n with
  | zero =>
    intro i acc k hn hi ha hk hk2
    have hii : acc.length - i = 0 := by omega
    refine Wc.loop (Wc.seq (Wc.seq (Wc.ev (by conv => lhs; simp [oInts]) (Wo.nil ?_))))
    refine Wc.cond (by conv => lhs; simp) (fun hc => ?_) (fun hc => ?_)
    · simp at hc; omega
    · refine Wc.seq (Wc.kil (by conv => lhs; simp) (Wc.exit ?_))
      rw [hii, List.take_of_length_le (by omega)]
      simp [oInts, upFrom]
  | succ n ih =>
    intro i acc k hn hi ha hk hk2
    have hlt : i < acc.length := by omega
    refine Wc.loop (Wc.seq (Wc.seq (Wc.ev (by conv => lhs; simp [oInts]) (Wo.nil ?_))))
    refine Wc.cond (by conv => lhs; simp) (fun hc => ?_) (fun hc => ?_)
    · have hle : i + 1 ≤ acc.length := by omega
      have hw : IntKind.i64.wrap ((i : Int) + 1) = ((i + 1 : Nat) : Int) := by rw [wrap_in _ (by omega)]; simp
      have hw2 : IntKind.i64.wrap (k + 1) = k + 1 := by rw [wrap_in _ (by omega)]
      refine Wc.seq (Wc.kil (by conv => lhs; simp) (Wc.skip ?_))
      refine Wc.seq (Wc.block (Wc.seq (Wc.ev (by conv => lhs; simp [hlt, hle]) (Wo.nil ?_))))
      refine Wc.ev (by conv => lhs; simp [hw2]) (Wo.nil ?_)
      rw [ints_set _ _ _ hlt]
      refine Wc.ev (by conv => lhs; simp [hw]) (Wo.nil ?_)
      refine Wc.mono (ih (i + 1) (acc.set i k) (k + 1) (by simp; omega) (by simp; omega) (by simpa using ha) (by omega) ?_) fun ex V h => ?_
      · simp only [List.length_set]; omega
      · obtain ⟨rfl, rfl⟩ := h
        refine ⟨rfl, ?_⟩
        have e1 : acc.length - i = (acc.length - (i + 1)) + 1 := by omega
        simp only [List.length_set]
        rw [List.take_add_one, List.getElem?_set_self hlt, List.take_set_of_le (Nat.le_refl _), e1, upFrom]
        simp
        omega
    · simp at hc; omega
theorem spec19 (xs : List Int) (k : Int) (hx : xs.length < 1000000000) (hk : 0 ≤ k) (hk2 : k + xs.length < 9223372036854775807) : VJx cx (.ca 19 [oInts xs, .int .i64 k] (.int .i64 (k + xs.length)) [oInts (upFrom k xs.length)]) := by
  refine ca_of rfl rfl (by decide) rfl ?_
  refine Wc.seq (Wc.ev (by conv => lhs; simp [oInts]) (Wo.nil ?_))
  refine Wc.seq (Wc.seq (Wc.ev (by conv => lhs; simp) (Wo.nil (Wc.block ?_))))
  refine Wc.mono (loop19 xs.length 0 xs k (by omega) (by omega) hx hk (by simpa using hk2)) fun ex V h => ?_
  obtain ⟨rfl, rfl⟩ := h
  refine Wc.seq (Wc.ev (by conv => lhs; simp [oInts]) (Wo.nil (Wc.ret (res_of (.inr rfl) ?_))))
  exact ⟨_, _, _, by conv => lhs; simp, by (conv => lhs; simp [cx, ioTab, List.range, List.range.loop]); exact rfl, by simp⟩
end Go.Proofs.YthfbkecnnllpkaaH
