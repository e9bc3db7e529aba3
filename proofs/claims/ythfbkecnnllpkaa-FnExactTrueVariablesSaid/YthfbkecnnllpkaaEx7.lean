/- What some functions of the law compute, on trees. -/
import Derived.Test.YthfbkecnnllpkaaEx6b
set_option linter.unusedSimpArgs false
set_option linter.unusedVariables false
namespace Go.Proofs.YthfbkecnnllpkaaH
open Go
@[simp] theorem ints_frz (l : List Int) : frzs (ints l) = ints l := by
  induction l with
  | nil => rfl
  | cons x l ih =>
    have : ints (x :: l) = .int .i64 x :: ints l := rfl
    rw [this, frzs, ih]
    simp
@[simp] theorem bools_frz (l : List Bool) : frzs (bools l) = bools l := by
  induction l with
  | nil => rfl
  | cons x l ih =>
    have : bools (x :: l) = .bool x :: bools l := rfl
    rw [this, frzs, ih]
    simp
@[simp] theorem ints_alone (l : List Int) : alones (ints l) = true := by
  induction l with
  | nil => rfl
  | cons x l ih => simpa [ints, alones, T.alone] using ih
@[simp] theorem bools_alone (l : List Bool) : alones (bools l) = true := by
  induction l with
  | nil => rfl
  | cons x l ih => simpa [bools, alones, T.alone] using ih
attribute [simp] T.alone alones
theorem trueAt_len : ∀ (i : Nat) (l : List Bool), (trueAt i l).length ≤ l.length
  | _, [] => Nat.le_refl _
  | i, b :: l => by
    have := trueAt_len (i + 1) l
    simp only [trueAt]
    split <;> simp <;> omega
theorem law4 (xs : List Bool) : VJx cx (.ca 4 [tBools xs] (.bool true) []) := by
  refine ca_of rfl rfl (by decide) rfl ?_
  refine Wc.seq (Wc.ev (by conv => lhs; simp [tBools]) (Wo.nil ?_))
  refine Wc.seq (Wc.seq (Wc.ev (by conv => lhs; simp) (Wo.nil ?_)))
  refine Wc.cond (by conv => lhs; simp) (fun hc => ?_) (fun hc => ?_)
  · refine Wc.seq (Wc.kil (by conv => lhs; simp) ?_)
    refine Wc.seq (Wc.ev (by conv => lhs; simp) (Wo.nil (Wc.ret (res_of (.inr rfl) ?_))))
    exact ⟨_, _, _, by conv => lhs; simp, rfl, by simp⟩
  · have hx : xs.length < 1000000000 := by simp at hc; omega
    refine Wc.seq (Wc.kil (by conv => lhs; simp) (Wc.skip ?_))
    refine Wc.seq (Wc.ev (by conv => lhs; simp) ?_)
    have ht : (trueAt 0 xs).length < 1000000000 := Nat.lt_of_le_of_lt (trueAt_len 0 xs) hx
    refine Wo.call rfl rfl (by (conv => lhs; simp [cx, ioTab, tInts, tBools, oInts, oBools]) <;> rfl) (spec22 (tBools xs) xs (.inl rfl) hx) (by simp) (by simp [tInts, tBools, oInts, oBools]) (by (conv => lhs; simp [tInts, tBools, oInts, oBools]) <;> rfl) (by (conv => lhs; simp [tInts, tBools, oInts, oBools]) <;> rfl) ?_
    refine Wo.ev (by conv => lhs; simp) ?_
    refine Wo.call rfl rfl (by (conv => lhs; simp [cx, ioTab, tInts, tBools, oInts, oBools]) <;> rfl) (spec21 xs hx) (by simp) (by simp [tInts, tBools, oInts, oBools]) (by (conv => lhs; simp [tInts, tBools, oInts, oBools]) <;> rfl) (by (conv => lhs; simp [tInts, tBools, oInts, oBools]) <;> rfl) ?_
    refine Wo.ev (by conv => lhs; simp) (Wo.nil ?_)
    refine Wc.seq (Wc.ev (by conv => lhs; simp) ?_)
    refine Wo.call rfl rfl (by (conv => lhs; simp [cx, ioTab, tInts, tBools, oInts, oBools]) <;> rfl) (spec22 (tBools xs) xs (.inl rfl) hx) (by simp) (by simp [tInts, tBools, oInts, oBools]) (by (conv => lhs; simp [tInts, tBools, oInts, oBools]) <;> rfl) (by (conv => lhs; simp [tInts, tBools, oInts, oBools]) <;> rfl) ?_
    refine Wo.ev (by conv => lhs; simp) (Wo.nil ?_)
    refine Wc.seq (Wc.ev (by conv => lhs; simp) ?_)
    refine Wo.call rfl rfl (by (conv => lhs; simp [cx, ioTab, tInts, tBools, oInts, oBools]) <;> rfl) (spec23 xs hx) (by simp) (by simp [tInts, tBools, oInts, oBools]) (by (conv => lhs; simp [tInts, tBools, oInts, oBools]) <;> rfl) (by (conv => lhs; simp [tInts, tBools, oInts, oBools]) <;> rfl) ?_
    refine Wo.ev (by conv => lhs; simp) (Wo.nil ?_)
    refine Wc.seq (Wc.seq (Wc.ev (by conv => lhs; simp) ?_))
    refine Wo.call rfl rfl (by (conv => lhs; simp [cx, ioTab, tInts, tBools, oInts, oBools]) <;> rfl) (spec18 (trueAt 0 xs) (trueAt 0 xs) ht ht) (by simp) (by simp [tInts, tBools, oInts, oBools]) (by (conv => lhs; simp [tInts, tBools, oInts, oBools]) <;> rfl) (by (conv => lhs; simp [tInts, tBools, oInts, oBools]) <;> rfl) ?_
    refine Wo.ev (by conv => lhs; simp) (Wo.nil ?_)
    refine Wc.cond (by conv => lhs; simp) (fun hc => by simp at hc) (fun hc => ?_)
    refine Wc.seq (Wc.kil (by conv => lhs; simp) (Wc.skip ?_))
    refine Wc.seq (Wc.seq (Wc.ev (by conv => lhs; simp) ?_))
    refine Wo.call rfl rfl (by (conv => lhs; simp [cx, ioTab, tInts, tBools, oInts, oBools]) <;> rfl) (spec22 (tBools xs) xs (.inl rfl) hx) (by simp) (by simp [tInts, tBools, oInts, oBools]) (by (conv => lhs; simp [tInts, tBools, oInts, oBools]) <;> rfl) (by (conv => lhs; simp [tInts, tBools, oInts, oBools]) <;> rfl) ?_
    refine Wo.ev (by conv => lhs; simp) ?_
    refine Wo.call rfl rfl (by (conv => lhs; simp [cx, ioTab, tInts, tBools, oInts, oBools]) <;> rfl) (spec24 xs xs hx hx) (by simp) (by simp [tInts, tBools, oInts, oBools]) (by (conv => lhs; simp [tInts, tBools, oInts, oBools]) <;> rfl) (by (conv => lhs; simp [tInts, tBools, oInts, oBools]) <;> rfl) ?_
    refine Wo.ev (by conv => lhs; simp) (Wo.nil ?_)
    refine Wc.cond (by conv => lhs; simp) (fun hc => by simp at hc) (fun hc => ?_)
    refine Wc.seq (Wc.kil (by conv => lhs; simp) (Wc.skip ?_))
    refine Wc.seq (Wc.ev (by conv => lhs; simp) (Wo.nil ?_))
    refine Wc.seq (Wc.ev (by conv => lhs; simp) ?_)
    refine Wo.call rfl rfl (by (conv => lhs; simp [cx, ioTab, tInts, tBools, oInts, oBools]) <;> rfl) (spec25 xs 1 hx (by omega) (by omega)) (by simp) (by simp [tInts, tBools, oInts, oBools]) (by (conv => lhs; simp [tInts, tBools, oInts, oBools]) <;> rfl) (by (conv => lhs; simp [tInts, tBools, oInts, oBools]) <;> rfl) ?_
    refine Wo.ev (by conv => lhs; simp) (Wo.nil ?_)
    have hneg : ¬ ((1 : Int) + xs.length < 0) := by omega
    refine Wc.seq (Wc.seq (Wc.ev (by conv => lhs; simp [hneg]) ?_))
    refine Wo.call rfl rfl (by (conv => lhs; simp [cx, ioTab, tInts, tBools, oInts, oBools]) <;> rfl) (spec18 (trueAt 0 xs) (trueAt 0 xs) ht ht) (by simp) (by simp [tInts, tBools, oInts, oBools]) (by (conv => lhs; simp [tInts, tBools, oInts, oBools]) <;> rfl) (by (conv => lhs; simp [tInts, tBools, oInts, oBools]) <;> rfl) ?_
    refine Wo.ev (by conv => lhs; simp) (Wo.nil ?_)
    refine Wc.cond (by conv => lhs; simp) (fun hc => by simp at hc) (fun hc => ?_)
    refine Wc.seq (Wc.kil (by conv => lhs; simp) (Wc.skip ?_))
    have hneg2 : ¬ ((1 : Int) + (trueAt 0 xs).length < 0) := by omega
    refine Wc.seq (Wc.ev (by conv => lhs; simp) (Wo.nil ?_))
    refine Wc.seq (Wc.ev (by conv => lhs; simp) ?_)
    refine Wo.call rfl rfl (by (conv => lhs; simp [cx, ioTab, tInts, tBools, oInts, oBools]) <;> rfl) (spec19 (trueAt 0 xs) 1 ht (by omega) (by omega)) (by simp) (by simp [tInts, tBools, oInts, oBools]) (by (conv => lhs; simp [tInts, tBools, oInts, oBools]) <;> rfl) (by (conv => lhs; simp [tInts, tBools, oInts, oBools]) <;> rfl) ?_
    refine Wo.ev (by conv => lhs; simp) (Wo.nil ?_)
    refine Wc.seq (Wc.ev (by conv => lhs; simp) (Wo.nil ?_))
    refine Wc.seq (Wc.ev (by conv => lhs; simp) ?_)
    refine Wo.call rfl rfl (by (conv => lhs; simp [cx, ioTab, tInts, tBools, oInts, oBools]) <;> rfl) (spec20 (trueAt 0 xs).length 1 ht (by omega) (by omega)) (by simp) (by simp [tInts, tBools, oInts, oBools]) (by (conv => lhs; simp [tInts, tBools, oInts, oBools]) <;> rfl) (by (conv => lhs; simp [tInts, tBools, oInts, oBools]) <;> rfl) ?_
    refine Wo.ev (by conv => lhs; simp) (Wo.nil ?_)
    refine Wc.seq (Wc.seq (Wc.ev (by conv => lhs; simp [hneg2]) (Wo.nil ?_)))
    refine Wc.cond (by conv => lhs; simp) (fun hc => by simp at hc) (fun hc => ?_)
    refine Wc.seq (Wc.kil (by conv => lhs; simp) (Wc.skip ?_))
    refine Wc.seq (Wc.seq (Wc.ev (by conv => lhs; simp [hneg2]) (Wo.nil ?_)))
    refine Wc.cond (by conv => lhs; simp) (fun hc => by simp at hc) (fun hc => ?_)
    refine Wc.seq (Wc.kil (by conv => lhs; simp) (Wc.skip ?_))
    refine Wc.seq (Wc.ev (by conv => lhs; simp) ?_)
    refine Wo.call rfl rfl (by (conv => lhs; simp [cx, ioTab, tInts, tBools, oInts, oBools]) <;> rfl) (spec22 (tBools xs) xs (.inl rfl) hx) (by simp) (by simp [tInts, tBools, oInts, oBools]) (by (conv => lhs; simp [tInts, tBools, oInts, oBools]) <;> rfl) (by (conv => lhs; simp [tInts, tBools, oInts, oBools]) <;> rfl) ?_
    refine Wo.ev (by conv => lhs; simp) ?_
    refine Wo.call rfl rfl (by (conv => lhs; simp [cx, ioTab, tInts, tBools, oInts, oBools]) <;> rfl) (spec23 xs hx) (by simp) (by simp [tInts, tBools, oInts, oBools]) (by (conv => lhs; simp [tInts, tBools, oInts, oBools]) <;> rfl) (by (conv => lhs; simp [tInts, tBools, oInts, oBools]) <;> rfl) ?_
    refine Wo.ev (by conv => lhs; simp) (Wo.nil ?_)
    refine Wc.seq (Wc.seq (Wc.ev (by conv => lhs; simp) ?_))
    refine Wo.call rfl rfl (by (conv => lhs; simp [cx, ioTab, tInts, tBools, oInts, oBools]) <;> rfl) (spec18 (trueAt 0 xs) (trueAt 0 xs) ht ht) (by simp) (by simp [tInts, tBools, oInts, oBools]) (by (conv => lhs; simp [tInts, tBools, oInts, oBools]) <;> rfl) (by (conv => lhs; simp [tInts, tBools, oInts, oBools]) <;> rfl) ?_
    refine Wo.ev (by conv => lhs; simp) (Wo.nil ?_)
    refine Wc.cond (by conv => lhs; simp) (fun hc => by simp at hc) (fun hc => ?_)
    refine Wc.seq (Wc.kil (by conv => lhs; simp) (Wc.skip ?_))
    refine Wc.seq (Wc.ev (by conv => lhs; simp) (Wo.nil ?_))
    refine Wc.seq (Wc.ev (by conv => lhs; simp) ?_)
    refine Wo.call rfl rfl (by (conv => lhs; simp [cx, ioTab, tInts, tBools, oInts, oBools]) <;> rfl) (spec20 (trueAt 0 xs).length 1 ht (by omega) (by omega)) (by simp) (by simp [tInts, tBools, oInts, oBools]) (by (conv => lhs; simp [tInts, tBools, oInts, oBools]) <;> rfl) (by (conv => lhs; simp [tInts, tBools, oInts, oBools]) <;> rfl) ?_
    refine Wo.ev (by conv => lhs; simp) (Wo.nil ?_)
    refine Wc.seq (Wc.seq (Wc.ev (by conv => lhs; simp [hneg2]) (Wo.nil ?_)))
    refine Wc.cond (by conv => lhs; simp) (fun hc => by simp at hc) (fun hc => ?_)
    refine Wc.seq (Wc.kil (by conv => lhs; simp) (Wc.skip ?_))
    refine Wc.seq (Wc.seq (Wc.ev (by conv => lhs; simp [hneg2]) (Wo.nil ?_)))
    refine Wc.cond (by conv => lhs; simp) (fun hc => by simp at hc) (fun hc => ?_)
    refine Wc.seq (Wc.kil (by conv => lhs; simp) (Wc.skip ?_))
    refine Wc.seq (Wc.ev (by conv => lhs; simp) (Wo.nil (Wc.ret (res_of (.inr rfl) ?_))))
    exact ⟨_, _, _, by conv => lhs; simp, rfl, by simp⟩
theorem law4n (xs : List Bool) (hxs : xs = []) : VJx cx (.ca 4 [.nils] (.bool true) []) := by
  refine ca_of rfl rfl (by decide) rfl ?_
  refine Wc.seq (Wc.ev (by conv => lhs; simp [tBools]) (Wo.nil ?_))
  refine Wc.seq (Wc.seq (Wc.ev (by conv => lhs; simp) (Wo.nil ?_)))
  refine Wc.cond (by conv => lhs; simp) (fun hc => by simp at hc) (fun hc => ?_)
  · have hx : xs.length < 1000000000 := by rw [hxs]; simp
    refine Wc.seq (Wc.kil (by conv => lhs; simp) (Wc.skip ?_))
    refine Wc.seq (Wc.ev (by conv => lhs; simp) ?_)
    have ht : (trueAt 0 xs).length < 1000000000 := Nat.lt_of_le_of_lt (trueAt_len 0 xs) hx
    refine Wo.call rfl rfl (by (conv => lhs; simp [cx, ioTab, tInts, tBools, oInts, oBools]) <;> rfl) (spec22 .nils xs (.inr ⟨rfl, hxs⟩) hx) (by simp) (by simp [tInts, tBools, oInts, oBools]) (by (conv => lhs; simp [tInts, tBools, oInts, oBools]) <;> rfl) (by (conv => lhs; simp [tInts, tBools, oInts, oBools]) <;> rfl) ?_
    refine Wo.ev (by conv => lhs; simp) ?_
    refine Wo.call rfl rfl (by (conv => lhs; simp [cx, ioTab, tInts, tBools, oInts, oBools]) <;> rfl) (spec21 xs hx) (by simp) (by simp [tInts, tBools, oInts, oBools]) (by (conv => lhs; simp [tInts, tBools, oInts, oBools]) <;> rfl) (by (conv => lhs; simp [tInts, tBools, oInts, oBools]) <;> rfl) ?_
    refine Wo.ev (by conv => lhs; simp) (Wo.nil ?_)
    refine Wc.seq (Wc.ev (by conv => lhs; simp) ?_)
    refine Wo.call rfl rfl (by (conv => lhs; simp [cx, ioTab, tInts, tBools, oInts, oBools]) <;> rfl) (spec22 .nils xs (.inr ⟨rfl, hxs⟩) hx) (by simp) (by simp [tInts, tBools, oInts, oBools]) (by (conv => lhs; simp [tInts, tBools, oInts, oBools]) <;> rfl) (by (conv => lhs; simp [tInts, tBools, oInts, oBools]) <;> rfl) ?_
    refine Wo.ev (by conv => lhs; simp) (Wo.nil ?_)
    refine Wc.seq (Wc.ev (by conv => lhs; simp) ?_)
    refine Wo.call rfl rfl (by (conv => lhs; simp [cx, ioTab, tInts, tBools, oInts, oBools]) <;> rfl) (spec23 xs hx) (by simp) (by simp [tInts, tBools, oInts, oBools]) (by (conv => lhs; simp [tInts, tBools, oInts, oBools]) <;> rfl) (by (conv => lhs; simp [tInts, tBools, oInts, oBools]) <;> rfl) ?_
    refine Wo.ev (by conv => lhs; simp) (Wo.nil ?_)
    refine Wc.seq (Wc.seq (Wc.ev (by conv => lhs; simp) ?_))
    refine Wo.call rfl rfl (by (conv => lhs; simp [cx, ioTab, tInts, tBools, oInts, oBools]) <;> rfl) (spec18 (trueAt 0 xs) (trueAt 0 xs) ht ht) (by simp) (by simp [tInts, tBools, oInts, oBools]) (by (conv => lhs; simp [tInts, tBools, oInts, oBools]) <;> rfl) (by (conv => lhs; simp [tInts, tBools, oInts, oBools]) <;> rfl) ?_
    refine Wo.ev (by conv => lhs; simp) (Wo.nil ?_)
    refine Wc.cond (by conv => lhs; simp) (fun hc => by simp at hc) (fun hc => ?_)
    refine Wc.seq (Wc.kil (by conv => lhs; simp) (Wc.skip ?_))
    refine Wc.seq (Wc.seq (Wc.ev (by conv => lhs; simp) ?_))
    refine Wo.call rfl rfl (by (conv => lhs; simp [cx, ioTab, tInts, tBools, oInts, oBools]) <;> rfl) (spec22 .nils xs (.inr ⟨rfl, hxs⟩) hx) (by simp) (by simp [tInts, tBools, oInts, oBools]) (by (conv => lhs; simp [tInts, tBools, oInts, oBools]) <;> rfl) (by (conv => lhs; simp [tInts, tBools, oInts, oBools]) <;> rfl) ?_
    refine Wo.ev (by conv => lhs; simp) ?_
    refine Wo.call rfl rfl (by (conv => lhs; simp [cx, ioTab, tInts, tBools, oInts, oBools]) <;> rfl) (spec24 xs xs hx hx) (by simp) (by simp [tInts, tBools, oInts, oBools]) (by (conv => lhs; simp [tInts, tBools, oInts, oBools]) <;> rfl) (by (conv => lhs; simp [tInts, tBools, oInts, oBools]) <;> rfl) ?_
    refine Wo.ev (by conv => lhs; simp) (Wo.nil ?_)
    refine Wc.cond (by conv => lhs; simp) (fun hc => by simp at hc) (fun hc => ?_)
    refine Wc.seq (Wc.kil (by conv => lhs; simp) (Wc.skip ?_))
    refine Wc.seq (Wc.ev (by conv => lhs; simp) (Wo.nil ?_))
    refine Wc.seq (Wc.ev (by conv => lhs; simp) ?_)
    refine Wo.call rfl rfl (by (conv => lhs; simp [cx, ioTab, tInts, tBools, oInts, oBools]) <;> rfl) (spec25 xs 1 hx (by omega) (by omega)) (by simp) (by simp [tInts, tBools, oInts, oBools]) (by (conv => lhs; simp [tInts, tBools, oInts, oBools]) <;> rfl) (by (conv => lhs; simp [tInts, tBools, oInts, oBools]) <;> rfl) ?_
    refine Wo.ev (by conv => lhs; simp) (Wo.nil ?_)
    have hneg : ¬ ((1 : Int) + xs.length < 0) := by omega
    refine Wc.seq (Wc.seq (Wc.ev (by conv => lhs; simp [hneg]) ?_))
    refine Wo.call rfl rfl (by (conv => lhs; simp [cx, ioTab, tInts, tBools, oInts, oBools]) <;> rfl) (spec18 (trueAt 0 xs) (trueAt 0 xs) ht ht) (by simp) (by simp [tInts, tBools, oInts, oBools]) (by (conv => lhs; simp [tInts, tBools, oInts, oBools]) <;> rfl) (by (conv => lhs; simp [tInts, tBools, oInts, oBools]) <;> rfl) ?_
    refine Wo.ev (by conv => lhs; simp) (Wo.nil ?_)
    refine Wc.cond (by conv => lhs; simp) (fun hc => by simp at hc) (fun hc => ?_)
    refine Wc.seq (Wc.kil (by conv => lhs; simp) (Wc.skip ?_))
    have hneg2 : ¬ ((1 : Int) + (trueAt 0 xs).length < 0) := by omega
    refine Wc.seq (Wc.ev (by conv => lhs; simp) (Wo.nil ?_))
    refine Wc.seq (Wc.ev (by conv => lhs; simp) ?_)
    refine Wo.call rfl rfl (by (conv => lhs; simp [cx, ioTab, tInts, tBools, oInts, oBools]) <;> rfl) (spec19 (trueAt 0 xs) 1 ht (by omega) (by omega)) (by simp) (by simp [tInts, tBools, oInts, oBools]) (by (conv => lhs; simp [tInts, tBools, oInts, oBools]) <;> rfl) (by (conv => lhs; simp [tInts, tBools, oInts, oBools]) <;> rfl) ?_
    refine Wo.ev (by conv => lhs; simp) (Wo.nil ?_)
    refine Wc.seq (Wc.ev (by conv => lhs; simp) (Wo.nil ?_))
    refine Wc.seq (Wc.ev (by conv => lhs; simp) ?_)
    refine Wo.call rfl rfl (by (conv => lhs; simp [cx, ioTab, tInts, tBools, oInts, oBools]) <;> rfl) (spec20 (trueAt 0 xs).length 1 ht (by omega) (by omega)) (by simp) (by simp [tInts, tBools, oInts, oBools]) (by (conv => lhs; simp [tInts, tBools, oInts, oBools]) <;> rfl) (by (conv => lhs; simp [tInts, tBools, oInts, oBools]) <;> rfl) ?_
    refine Wo.ev (by conv => lhs; simp) (Wo.nil ?_)
    refine Wc.seq (Wc.seq (Wc.ev (by conv => lhs; simp [hneg2]) (Wo.nil ?_)))
    refine Wc.cond (by conv => lhs; simp) (fun hc => by simp at hc) (fun hc => ?_)
    refine Wc.seq (Wc.kil (by conv => lhs; simp) (Wc.skip ?_))
    refine Wc.seq (Wc.seq (Wc.ev (by conv => lhs; simp [hneg2]) (Wo.nil ?_)))
    refine Wc.cond (by conv => lhs; simp) (fun hc => by simp at hc) (fun hc => ?_)
    refine Wc.seq (Wc.kil (by conv => lhs; simp) (Wc.skip ?_))
    refine Wc.seq (Wc.ev (by conv => lhs; simp) ?_)
    refine Wo.call rfl rfl (by (conv => lhs; simp [cx, ioTab, tInts, tBools, oInts, oBools]) <;> rfl) (spec22 .nils xs (.inr ⟨rfl, hxs⟩) hx) (by simp) (by simp [tInts, tBools, oInts, oBools]) (by (conv => lhs; simp [tInts, tBools, oInts, oBools]) <;> rfl) (by (conv => lhs; simp [tInts, tBools, oInts, oBools]) <;> rfl) ?_
    refine Wo.ev (by conv => lhs; simp) ?_
    refine Wo.call rfl rfl (by (conv => lhs; simp [cx, ioTab, tInts, tBools, oInts, oBools]) <;> rfl) (spec23 xs hx) (by simp) (by simp [tInts, tBools, oInts, oBools]) (by (conv => lhs; simp [tInts, tBools, oInts, oBools]) <;> rfl) (by (conv => lhs; simp [tInts, tBools, oInts, oBools]) <;> rfl) ?_
    refine Wo.ev (by conv => lhs; simp) (Wo.nil ?_)
    refine Wc.seq (Wc.seq (Wc.ev (by conv => lhs; simp) ?_))
    refine Wo.call rfl rfl (by (conv => lhs; simp [cx, ioTab, tInts, tBools, oInts, oBools]) <;> rfl) (spec18 (trueAt 0 xs) (trueAt 0 xs) ht ht) (by simp) (by simp [tInts, tBools, oInts, oBools]) (by (conv => lhs; simp [tInts, tBools, oInts, oBools]) <;> rfl) (by (conv => lhs; simp [tInts, tBools, oInts, oBools]) <;> rfl) ?_
    refine Wo.ev (by conv => lhs; simp) (Wo.nil ?_)
    refine Wc.cond (by conv => lhs; simp) (fun hc => by simp at hc) (fun hc => ?_)
    refine Wc.seq (Wc.kil (by conv => lhs; simp) (Wc.skip ?_))
    refine Wc.seq (Wc.ev (by conv => lhs; simp) (Wo.nil ?_))
    refine Wc.seq (Wc.ev (by conv => lhs; simp) ?_)
    refine Wo.call rfl rfl (by (conv => lhs; simp [cx, ioTab, tInts, tBools, oInts, oBools]) <;> rfl) (spec20 (trueAt 0 xs).length 1 ht (by omega) (by omega)) (by simp) (by simp [tInts, tBools, oInts, oBools]) (by (conv => lhs; simp [tInts, tBools, oInts, oBools]) <;> rfl) (by (conv => lhs; simp [tInts, tBools, oInts, oBools]) <;> rfl) ?_
    refine Wo.ev (by conv => lhs; simp) (Wo.nil ?_)
    refine Wc.seq (Wc.seq (Wc.ev (by conv => lhs; simp [hneg2]) (Wo.nil ?_)))
    refine Wc.cond (by conv => lhs; simp) (fun hc => by simp at hc) (fun hc => ?_)
    refine Wc.seq (Wc.kil (by conv => lhs; simp) (Wc.skip ?_))
    refine Wc.seq (Wc.seq (Wc.ev (by conv => lhs; simp [hneg2]) (Wo.nil ?_)))
    refine Wc.cond (by conv => lhs; simp) (fun hc => by simp at hc) (fun hc => ?_)
    refine Wc.seq (Wc.kil (by conv => lhs; simp) (Wc.skip ?_))
    refine Wc.seq (Wc.ev (by conv => lhs; simp) (Wo.nil (Wc.ret (res_of (.inr rfl) ?_))))
    exact ⟨_, _, _, by conv => lhs; simp, rfl, by simp⟩
end Go.Proofs.YthfbkecnnllpkaaH
