/- What some functions of the law compute, on trees. -/
import Derived.Test.YthfbkecnnllpkaaEx4
set_option linter.unusedVariables false
namespace Go.Proofs.YthfbkecnnllpkaaH
open Go
@[simp] theorem upFrom_len : ∀ (n : Nat) (k : Int), (upFrom k n).length = n
  | 0, _ => rfl
  | n + 1, k => by simp [upFrom, upFrom_len n]
theorem upFrom_at : ∀ (n : Nat) (k : Int) (i : Nat) (h : i < (upFrom k n).length), (upFrom k n)[i] = k + i
  | 0, k, i, h => by simp [upFrom] at h
  | n + 1, k, 0, h => by simp [upFrom]
  | n + 1, k, i + 1, h => by
    simp only [upFrom, List.getElem_cons_succ]
    rw [upFrom_at n (k + 1) i]; omega
theorem loop20 (N : Nat) (k0 : Int) (hN : N < 1000000000) (hk0 : 0 ≤ k0) (hk : k0 + N < 9223372036854775807) (n : Nat) : ∀ (i : Nat), n = N - i → i ≤ N →
    Wc cx 21 (.loop L20_0) [(0, .v (tInts (upFrom k0 N))), (1, .v (.int .i64 (k0 + i))), (5, .v (.int .i64 i))] fun ex V => ex = .exit 0 ∧ V = [(1, .v (.int .i64 (k0 + N)))] := by
  induction n with
  | zero =>
    intro i hn hi
    have hii : i = N := by omega
    subst hii
    refine Wc.loop (Wc.seq (Wc.seq (Wc.ev (by conv => lhs; simp [tInts]) (Wo.nil ?_))))
    refine Wc.cond (by conv => lhs; simp) (fun hc => ?_) (fun hc => ?_)
    · simp at hc
    · refine Wc.seq (Wc.kil (by conv => lhs; simp) (Wc.exit ?_))
      exact ⟨rfl, rfl⟩
  | succ n ih =>
    intro i hn hi
    have hlt : i < N := by omega
    refine Wc.loop (Wc.seq (Wc.seq (Wc.ev (by conv => lhs; simp [tInts]) (Wo.nil ?_))))
    refine Wc.cond (by conv => lhs; simp) (fun hc => ?_) (fun hc => ?_)
    · have hw : IntKind.i64.wrap ((i : Int) + 1) = ((i + 1 : Nat) : Int) := by rw [wrap_in _ (by omega)]; simp
      have hw2 : IntKind.i64.wrap (k0 + i + 1) = k0 + ((i + 1 : Nat) : Int) := by rw [wrap_in _ (by omega)]; omega
      refine Wc.seq (Wc.kil (by conv => lhs; simp) (Wc.skip ?_))
      refine Wc.seq (Wc.block (Wc.seq (Wc.seq (Wc.ev (by conv => lhs; simp [hlt, upFrom_at]) (Wo.nil ?_)))))
      refine Wc.cond (by conv => lhs; simp) (fun hb => ?_) (fun hb => ?_)
      · simp at hb
      · refine Wc.seq (Wc.kil (by conv => lhs; simp) (Wc.skip ?_))
        refine Wc.ev (by conv => lhs; simp [hw2]) (Wo.nil ?_)
        refine Wc.ev (by conv => lhs; simp [hw]) (Wo.nil ?_)
        exact ih (i + 1) (by omega) (by omega)
    · simp at hc; omega
theorem spec20 (N : Nat) (k0 : Int) (hN : N < 1000000000) (hk0 : 0 ≤ k0) (hk : k0 + N < 9223372036854775807) : VJx cx (.ca 20 [tInts (upFrom k0 N), .int .i64 k0] (.int .i64 (k0 + N)) []) := by
  refine ca_of rfl rfl (by decide) rfl ?_
  refine Wc.seq (Wc.ev (by conv => lhs; simp [tInts]) (Wo.nil ?_))
  refine Wc.seq (Wc.seq (Wc.ev (by conv => lhs; simp) (Wo.nil (Wc.block ?_))))
  have h := loop20 N k0 hN hk0 hk N 0 (by omega) (by omega)
  simp only [Int.natCast_zero, Int.add_zero] at h
  refine Wc.mono h fun ex V h => ?_
  obtain ⟨rfl, rfl⟩ := h
  refine Wc.seq (Wc.ev (by conv => lhs; simp) (Wo.nil (Wc.ret (res_of (.inr rfl) ?_))))
  exact ⟨_, _, _, by conv => lhs; simp, rfl, by simp⟩
end Go.Proofs.YthfbkecnnllpkaaH
