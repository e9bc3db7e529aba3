/- Plain laws: loops, indices, appending. -/
import Derived.Test.YtabmomjfdondnaaHn1
set_option linter.unusedVariables false
set_option linter.unusedSimpArgs false
namespace Go.Proofs.YtabmomjfdondnaaH
open Go

variable {α β σ ρ : Type}
theorem ix_nat {l : List α} {i : Nat} (h : i < l.length) : ix l (i : Int) = some l[i] := by
  unfold ix
  rw [if_pos (by omega), Int.toNat_natCast, List.getElem?_eq_getElem h]
theorem ix_cast {l : List α} {i : Nat} : ix l (i : Int) = l[i]? := by
  unfold ix
  rw [if_pos (by omega), Int.toNat_natCast]
theorem ix_of {l : List α} {j : Int} (h0 : 0 ≤ j) : ix l j = l[j.toNat]? := by
  unfold ix; rw [if_pos h0]
theorem app_fits {bs : Nat} {l l' : List α} (h : (l.length + l'.length) * bs ≤ 140737488355328) : app bs l l' = some (l ++ l') := by
  unfold app; rw [if_pos (.inr h)]
theorem app_nil {bs : Nat} {l : List α} : app bs l [] = some l := by simp [app]
theorem mkl_ok {bs n : Int} {a : α} (h0 : 0 ≤ n) (h : bs * n ≤ 281474976710656) (hn : n ≤ 9223372036854775807) : mkl bs n a = some (List.replicate n.toNat a) := by
  unfold mkl; rw [if_pos ⟨h0, h, hn⟩]
theorem w64_of {n : Int} (h : -9223372036854775808 ≤ n ∧ n ≤ 9223372036854775807) : w64 n = n := by
  unfold w64; rw [IntKind.wrap_i64]; omega
theorem w64_succ {i : Nat} (h : i < 9223372036854775807) : w64 ((i : Int) + 1) = ((i + 1 : Nat) : Int) := by
  rw [w64_of (by omega)]; omega
theorem cutL_ok {l : List α} {lo hi : Int} (h0 : 0 ≤ lo) (h1 : lo ≤ hi) (h2 : hi ≤ l.length) : cutL l lo hi = some ((l.take hi.toNat).drop lo.toNat) := by
  unfold cutL; rw [if_pos ⟨h0, h1, h2⟩]
theorem cat_ok {a b : List UInt8} (h : a.length + b.length ≤ 9223372036854775807) : cat a b = some (a ++ b) := by
  unfold cat
  rw [if_pos]
  have : IntKind.i64.max = 9223372036854775807 := by decide
  rw [this]; omega

/-- A walk along a list: with a state, or to an end of its own. -/
def foldX (g : Nat → β → α → Option (β ⊕ ρ)) (fin : β → ρ) : Nat → List α → β → Option ρ
  | _, [], b => some (fin b)
  | i, a :: l, b => match g i b a with
    | none => none
    | some (.inl b') => foldX g fin (i + 1) l b'
    | some (.inr r) => some r
theorem foldX_iter {f : σ → Option (σ ⊕ ρ)} {g : Nat → β → α → Option (β ⊕ ρ)} {fin : β → ρ} (mk : β → Int → σ) (L : List α)
    (hs : ∀ (i : Nat) (h : i < L.length) b, f (mk b i) = (g i b L[i]).map (Sum.map (fun b' => mk b' ((i + 1 : Nat) : Int)) id)) (he : ∀ b, f (mk b L.length) = some (.inr (fin b))) :
    ∀ (n i : Nat) (b : β), n = L.length - i → i ≤ L.length → iter f (mk b i) = foldX g fin i (L.drop i) b := by
  intro n
  induction n with
  | zero =>
    intro i b hn hi
    have : i = L.length := by omega
    subst this
    rw [iter_eq, he, List.drop_eq_nil_of_le (Nat.le_refl _)]; rfl
  | succ n ih =>
    intro i b hn hi
    have hlt : i < L.length := by omega
    rw [iter_eq, hs i hlt, List.drop_eq_getElem_cons hlt]
    simp only [foldX]
    cases hg : g i b L[i] with
    | none => rfl
    | some o => cases o with
      | inl b' => simp only [Option.map_some, Sum.map_inl]; exact ih (i + 1) b' (by omega) (by omega)
      | inr r => rfl
theorem iter_fold {f : σ → Option (σ ⊕ ρ)} {g : Nat → β → α → Option (β ⊕ ρ)} {fin : β → ρ} (mk : β → Int → σ) (L : List α) (b : β)
    (hs : ∀ (i : Nat) (h : i < L.length) b, f (mk b i) = (g i b L[i]).map (Sum.map (fun b' => mk b' ((i + 1 : Nat) : Int)) id)) (he : ∀ b, f (mk b L.length) = some (.inr (fin b))) :
    iter f (mk b 0) = foldX g fin 0 L b := by
  have := foldX_iter mk L hs he L.length 0 b (by omega) (by omega)
  simpa using this
/-- Steps that are known, up to an exit. -/
theorem iter_steps {f : σ → Option (σ ⊕ ρ)} (st : Nat → σ) (n : Nat) (r : ρ) (hs : ∀ i, i < n → f (st i) = some (.inl (st (i + 1)))) (he : f (st n) = some (.inr r)) : iter f (st 0) = some r := by
  have : ∀ k i, k = n - i → i ≤ n → iter f (st i) = some r := by
    intro k
    induction k with
    | zero =>
      intro i hk hi
      have : i = n := by omega
      subst this
      rw [iter_eq, he]
    | succ k ih =>
      intro i hk hi
      rw [iter_eq, hs i (by omega)]
      exact ih (i + 1) (by omega) (by omega)
  exact this n 0 (by omega) (by omega)
/-- Walks that keep a state that is known. -/
theorem foldX_keep {g : Nat → β → α → Option (β ⊕ ρ)} {fin : β → ρ} {l : List α} {b : β} {i : Nat} (h : ∀ j (hj : j < l.length), g (i + j) b l[j] = some (.inl b)) : foldX g fin i l b = some (fin b) := by
  induction l generalizing i with
  | nil => rfl
  | cons a l ih =>
    simp only [foldX]
    have h0 := h 0 (by simp)
    simp only [Nat.add_zero, List.getElem_cons_zero] at h0
    rw [h0]
    refine ih fun j hj => ?_
    have := h (j + 1) (by simp; omega)
    rwa [show i + 1 + j = i + (j + 1) by omega]
end Go.Proofs.YtabmomjfdondnaaH
