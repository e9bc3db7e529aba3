/- What some functions of the law compute, on trees. -/
import Derived.Test.YthfbkecnnllpkaaEx5
set_option linter.unusedVariables false
namespace Go.Proofs.YthfbkecnnllpkaaH
open Go
theorem spec21 (xs : List Bool) (hx : xs.length < 1000000000) : VJx cx (.ca 21 [tBools xs] (oInts (trueAt 0 xs)) []) := by
  refine ca_of rfl rfl (by decide) rfl ?_
  refine Wc.seq (Wc.ev (by conv => lhs; simp [tBools]) (Wo.nil ?_))
  refine Wc.seq (Wc.ev (by conv => lhs; simp) (Wo.nil ?_))
  refine Wc.seq (Wc.seq (Wc.ev (by conv => lhs; simp) (Wo.nil (Wc.block ?_))))
  refine Wc.mono (loop21 xs hx xs.length 0 [] (by omega) (by omega) (by simp)) fun ex V h => ?_
  obtain ⟨rfl, rfl⟩ := h
  refine Wc.seq (Wc.ev (by conv => lhs; simp [oInts]) (Wo.nil (Wc.ret (res_of (.inr rfl) ?_))))
  exact ⟨_, _, _, by conv => lhs; simp, rfl, by simp [oInts]⟩
theorem loop23 (xs : List Bool) (hx : xs.length < 1000000000) (n : Nat) : ∀ (i : Nat) (acc : List Int), n = xs.length - i → i ≤ xs.length → acc.length ≤ i →
    Wc cx 21 (.loop L23_0) [(3, .v (oInts acc)), (7, .v (tBools xs)), (8, .v (.int .i64 xs.length)), (9, .v (.int .i64 i))] fun ex V => ex = .exit 0 ∧ V = [(3, .v (oInts (acc ++ trueAt i (xs.drop i))))] := by
  induction n with
  | zero =>
    intro i acc hn hi ha
    refine Wc.loop (Wc.seq (Wc.ev (by conv => lhs; simp [tBools, oInts]) (Wo.nil (Wc.seq ?_))))
    refine Wc.cond (by conv => lhs; simp) (fun hc => ?_) (fun hc => ?_)
    · simp at hc; omega
    · refine Wc.seq (Wc.kil (by conv => lhs; simp) (Wc.exit ?_))
      rw [List.drop_eq_nil_of_le (by omega)]
      simp [oInts, trueAt]
  | succ n ih =>
    intro i acc hn hi ha
    have hlt : i < xs.length := by omega
    refine Wc.loop (Wc.seq (Wc.ev (by conv => lhs; simp [tBools, oInts]) (Wo.nil (Wc.seq ?_))))
    refine Wc.cond (by conv => lhs; simp) (fun hc => ?_) (fun hc => ?_)
    · have hw : IntKind.i64.wrap ((i : Int) + 1) = ((i + 1 : Nat) : Int) := by rw [wrap_in _ (by omega)]; simp
      have hr : (acc.length + 1) * 8 ≤ room := by unfold room; omega
      refine Wc.seq (Wc.kil (by conv => lhs; simp) (Wc.skip ?_))
      refine Wc.seq (Wc.block (Wc.seq (Wc.ev (by conv => lhs; simp [hlt]) (Wo.nil ?_))))
      refine Wc.seq (Wc.ev (by conv => lhs; simp) (Wo.nil ?_))
      have hd : xs.drop i = xs[i] :: xs.drop (i + 1) := List.drop_eq_getElem_cons hlt
      refine Wc.cond (by conv => lhs; simp) (fun hb => ?_) (fun hb => ?_)
      · refine Wc.seq (Wc.kil (by conv => lhs; simp) ?_)
        refine Wc.ev (by conv => lhs; simp [hr]) (Wo.nil ?_)
        rw [ints_snoc]
        refine Wc.ev (by conv => lhs; simp [hw]) (Wo.nil ?_)
        refine Wc.mono (ih (i + 1) (acc ++ [(i : Int)]) (by omega) (by omega) (by simp; omega)) fun ex V h => ?_
        obtain ⟨rfl, rfl⟩ := h
        refine ⟨rfl, ?_⟩
        rw [hd, trueAt, if_pos hb]; simp
      · refine Wc.seq (Wc.kil (by conv => lhs; simp) (Wc.skip ?_))
        refine Wc.ev (by conv => lhs; simp [hw]) (Wo.nil ?_)
        refine Wc.mono (ih (i + 1) acc (by omega) (by omega) (by omega)) fun ex V h => ?_
        obtain ⟨rfl, rfl⟩ := h
        refine ⟨rfl, ?_⟩
        rw [hd, trueAt, if_neg (by simp [hb])]
    · simp at hc; omega
theorem spec23 (xs : List Bool) (hx : xs.length < 1000000000) : VJx cx (.ca 23 [tBools xs] (oInts (trueAt 0 xs)) []) := by
  refine ca_of rfl rfl (by decide) rfl ?_
  refine Wc.seq (Wc.ev (by conv => lhs; simp [tBools]) (Wo.nil ?_))
  refine Wc.seq (Wc.ev (by conv => lhs; simp) (Wo.nil ?_))
  refine Wc.seq (Wc.seq (Wc.ev (by conv => lhs; simp) (Wo.nil (Wc.block ?_))))
  refine Wc.mono (loop23 xs hx xs.length 0 [] (by omega) (by omega) (by simp)) fun ex V h => ?_
  obtain ⟨rfl, rfl⟩ := h
  refine Wc.seq (Wc.ev (by conv => lhs; simp [oInts]) (Wo.nil (Wc.ret (res_of (.inr rfl) ?_))))
  exact ⟨_, _, _, by conv => lhs; simp, rfl, by simp [oInts]⟩
end Go.Proofs.YthfbkecnnllpkaaH
