/- What some functions of the law compute, on trees. -/
import Derived.Test.YthfbkecnnllpkaaEx6
set_option linter.unusedVariables false
namespace Go.Proofs.YthfbkecnnllpkaaH
open Go
def upB (m : Int) : Nat → List Bool
  | 0 => []
  | n + 1 => (m.tmod 3 == 0) :: upB (m + 1) n
theorem loop25 (n : Nat) : ∀ (i : Nat) (acc : List Bool) (k : Int), n = acc.length - i → i ≤ acc.length → acc.length < 1000000000 → 0 ≤ k → k + (acc.length - i : Nat) < 9223372036854775807 →
    Wc cx 21 (.loop L25_0) [(0, .v (oBools acc)), (1, .v (.int .i64 k)), (5, .v (.int .i64 i))] fun ex V => ex = .exit 0 ∧ V = [(0, .v (oBools (acc.take i ++ upB k (acc.length - i)))), (1, .v (.int .i64 (k + (acc.length - i : Nat))))] := by
  induction n with
  | zero =>
    intro i acc k hn hi ha hk hk2
    have hii : acc.length - i = 0 := by omega
    refine Wc.loop (Wc.seq (Wc.seq (Wc.ev (by conv => lhs; simp [oBools]) (Wo.nil ?_))))
    refine Wc.cond (by conv => lhs; simp) (fun hc => ?_) (fun hc => ?_)
    · simp at hc; omega
    · refine Wc.seq (Wc.kil (by conv => lhs; simp) (Wc.exit ?_))
      rw [hii, List.take_of_length_le (by omega)]
      simp [oBools, upB]
  | succ n ih =>
    intro i acc k hn hi ha hk hk2
    have hlt : i < acc.length := by omega
    refine Wc.loop (Wc.seq (Wc.seq (Wc.ev (by conv => lhs; simp [oBools]) (Wo.nil ?_))))
    refine Wc.cond (by conv => lhs; simp) (fun hc => ?_) (fun hc => ?_)
    · have hle : i + 1 ≤ acc.length := by omega
      have hw : IntKind.i64.wrap ((i : Int) + 1) = ((i + 1 : Nat) : Int) := by rw [wrap_in _ (by omega)]; simp
      have hw2 : IntKind.i64.wrap (k + 1) = k + 1 := by rw [wrap_in _ (by omega)]
      refine Wc.seq (Wc.kil (by conv => lhs; simp) (Wc.skip ?_))
      refine Wc.seq (Wc.block (Wc.seq (Wc.ev (by conv => lhs; simp [hlt, hle]) (Wo.nil ?_))))
      refine Wc.ev (by conv => lhs; simp [hw2]) (Wo.nil ?_)
      rw [bools_set _ _ _ hlt]
      refine Wc.ev (by conv => lhs; simp [hw]) (Wo.nil ?_)
      refine Wc.mono (ih (i + 1) (acc.set i (k.tmod 3 == 0)) (k + 1) (by simp; omega) (by simp; omega) (by simpa using ha) (by omega) ?_) fun ex V h => ?_
      · simp only [List.length_set]; omega
      · obtain ⟨rfl, rfl⟩ := h
        refine ⟨rfl, ?_⟩
        have e1 : acc.length - i = (acc.length - (i + 1)) + 1 := by omega
        simp only [List.length_set]
        rw [List.take_add_one, List.getElem?_set_self hlt, List.take_set_of_le (Nat.le_refl _), e1, upB]
        simp
        omega
    · simp at hc; omega
theorem spec25 (xs : List Bool) (k : Int) (hx : xs.length < 1000000000) (hk : 0 ≤ k) (hk2 : k + xs.length < 9223372036854775807) : VJx cx (.ca 25 [oBools xs, .int .i64 k] (.int .i64 (k + xs.length)) [oBools (upB k xs.length)]) := by
  refine ca_of rfl rfl (by decide) rfl ?_
  refine Wc.seq (Wc.ev (by conv => lhs; simp [oBools]) (Wo.nil ?_))
  refine Wc.seq (Wc.seq (Wc.ev (by conv => lhs; simp) (Wo.nil (Wc.block ?_))))
  refine Wc.mono (loop25 xs.length 0 xs k (by omega) (by omega) hx hk (by simpa using hk2)) fun ex V h => ?_
  obtain ⟨rfl, rfl⟩ := h
  refine Wc.seq (Wc.ev (by conv => lhs; simp [oBools]) (Wo.nil (Wc.ret (res_of (.inr rfl) ?_))))
  exact ⟨_, _, _, by conv => lhs; simp, by (conv => lhs; simp [cx, ioTab, List.range, List.range.loop]); exact rfl, by simp⟩
end Go.Proofs.YthfbkecnnllpkaaH
