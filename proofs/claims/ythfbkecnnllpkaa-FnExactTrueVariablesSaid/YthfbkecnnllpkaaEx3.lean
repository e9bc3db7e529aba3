/- What some functions of the law compute, on trees. -/
import Derived.Test.YthfbkecnnllpkaaEx2
set_option linter.unusedVariables false
namespace Go.Proofs.YthfbkecnnllpkaaH
open Go
def bools (l : List Bool) : List T := l.map T.bool
@[simp] theorem bools_len (l : List Bool) : (bools l).length = l.length := by simp [bools]
@[simp] theorem bools_get (l : List Bool) (i : Nat) : (bools l)[i]? = l[i]?.map T.bool := by simp [bools]
@[simp] theorem bools_at (l : List Bool) (i : Nat) (h : i < (bools l).length) : (bools l)[i] = .bool (l[i]'(by simpa using h)) := by simp [bools]
@[simp] theorem ints_plain (l : List Int) : plains (ints l) = true := by
  induction l with
  | nil => rfl
  | cons x l ih => simpa [ints, plains, T.plain] using ih
theorem ints_snoc (l : List Int) (x : Int) : ints l ++ [.int .i64 x] = ints (l ++ [x]) := by simp [ints]
def tBools (l : List Bool) : T := .sl false false 1 0 (bools l)
/-- The numbers of what is true, from i on. -/
def trueAt : Nat → List Bool → List Int
  | _, [] => []
  | i, b :: l => if b then (i : Int) :: trueAt (i + 1) l else trueAt (i + 1) l
theorem loop21 (xs : List Bool) (hx : xs.length < 1000000000) (n : Nat) : ∀ (i : Nat) (acc : List Int), n = xs.length - i → i ≤ xs.length → acc.length ≤ i →
    Wc cx 21 (.loop L21_0) [(0, .v (tBools xs)), (3, .v (oInts acc)), (4, .v (.int .i64 i))] fun ex V => ex = .exit 0 ∧ V = [(3, .v (oInts (acc ++ trueAt i (xs.drop i))))] := by
  induction n with
  | zero =>
    intro i acc hn hi ha
    refine Wc.loop (Wc.seq (Wc.seq (Wc.ev (by conv => lhs; simp [tBools, oInts]) (Wo.nil ?_))))
    refine Wc.cond (by conv => lhs; simp) (fun hc => ?_) (fun hc => ?_)
    · simp at hc; omega
    · refine Wc.seq (Wc.kil (by conv => lhs; simp) (Wc.exit ?_))
      rw [List.drop_eq_nil_of_le (by omega)]
      simp [oInts, trueAt]
  | succ n ih =>
    intro i acc hn hi ha
    have hlt : i < xs.length := by omega
    refine Wc.loop (Wc.seq (Wc.seq (Wc.ev (by conv => lhs; simp [tBools, oInts]) (Wo.nil ?_))))
    refine Wc.cond (by conv => lhs; simp) (fun hc => ?_) (fun hc => ?_)
    · have hw : IntKind.i64.wrap ((i : Int) + 1) = ((i + 1 : Nat) : Int) := by rw [wrap_in _ (by omega)]; simp
      have hr : (acc.length + 1) * 8 ≤ room := by unfold room; omega
      refine Wc.seq (Wc.kil (by conv => lhs; simp) (Wc.skip ?_))
      refine Wc.seq (Wc.block (Wc.seq (Wc.ev (by conv => lhs; simp [hlt]) (Wo.nil ?_))))
      have hd : xs.drop i = xs[i] :: xs.drop (i + 1) := List.drop_eq_getElem_cons hlt
      refine Wc.cond (by conv => lhs; simp) (fun hb => ?_) (fun hb => ?_)
      · refine Wc.seq (Wc.kil (by conv => lhs; simp) ?_)
        refine Wc.ev (by conv => lhs; simp [hr]) (Wo.nil ?_)
        rw [ints_snoc]
        refine Wc.ev (by conv => lhs; simp [hw]) (Wo.nil ?_)
        refine Wc.mono (ih (i + 1) (acc ++ [(i : Int)]) (by omega) (by omega) (by simp; omega)) fun ex V h => ?_
        obtain ⟨rfl, rfl⟩ := h
        refine ⟨rfl, ?_⟩
        rw [hd, trueAt, if_pos hb]; simp
      · refine Wc.seq (Wc.kil (by conv => lhs; simp) (Wc.skip ?_))
        refine Wc.ev (by conv => lhs; simp [hw]) (Wo.nil ?_)
        refine Wc.mono (ih (i + 1) acc (by omega) (by omega) (by omega)) fun ex V h => ?_
        obtain ⟨rfl, rfl⟩ := h
        refine ⟨rfl, ?_⟩
        rw [hd, trueAt, if_neg (by simp [hb])]
    · simp at hc; omega
end Go.Proofs.YthfbkecnnllpkaaH
