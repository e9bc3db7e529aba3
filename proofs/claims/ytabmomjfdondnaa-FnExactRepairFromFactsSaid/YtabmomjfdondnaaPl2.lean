/- Plain laws: kinds of loops. -/
import Derived.Test.YtabmomjfdondnaaPl1
import Derived.Test.YtabmomjfdondnaaHn2
set_option linter.unusedVariables false
set_option linter.unusedSimpArgs false
namespace Go.Proofs.YtabmomjfdondnaaH
open Go

variable {α β σ ρ : Type}
theorem iter_up {f : σ → Option (σ ⊕ ρ)} (n : Nat) (I : Nat → σ → Prop) (Q : ρ → Prop)
    (hs : ∀ i s, i < n → I i s → ∃ o, f s = some o ∧ (match o with | .inl s' => I (i + 1) s' | .inr r => Q r)) (he : ∀ s, I n s → ∃ r, f s = some (.inr r) ∧ Q r) :
    ∀ (s : σ), I 0 s → ∃ r, iter f s = some r ∧ Q r := by
  have : ∀ k i s, k = n - i → i ≤ n → I i s → ∃ r, iter f s = some r ∧ Q r := by
    intro k
    induction k with
    | zero =>
      intro i s hk hi h
      have : i = n := by omega
      subst this
      obtain ⟨r, h1, h2⟩ := he s h
      exact ⟨r, by rw [iter_eq, h1], h2⟩
    | succ k ih =>
      intro i s hk hi h
      obtain ⟨o, h1, h2⟩ := hs i s (by omega) h
      rw [iter_eq, h1]
      cases o with
      | inl s' => exact ih (i + 1) s' (by omega) (by omega) h2
      | inr r => exact ⟨r, rfl, h2⟩
  exact fun s h => this n 0 s (by omega) (by omega) h
theorem take_succ' {l : List α} {i : Nat} (h : i < l.length) : l.take (i + 1) = l.take i ++ [l[i]] := by
  rw [List.take_add_one, List.getElem?_eq_getElem h]; rfl
theorem set_copy {a L : List α} {i : Nat} (h : i < a.length) (hl : L.length = a.length) : (a.take i ++ L.drop i).set i a[i] = a.take (i + 1) ++ L.drop (i + 1) := by
  apply List.ext_getElem?
  intro j
  rw [List.getElem?_set]
  have e1 : (a.take i).length = i := by simp; omega
  have e2 : (a.take (i + 1)).length = i + 1 := by simp; omega
  by_cases hj : i = j
  · subst hj
    rw [if_pos rfl, if_pos (by simp; omega), List.getElem?_append_left (by omega), List.getElem?_take, if_pos (by omega), List.getElem?_eq_getElem h]
  · rw [if_neg hj]
    by_cases hlt : j < i
    · rw [List.getElem?_append_left (by omega), List.getElem?_append_left (by omega), List.getElem?_take, List.getElem?_take, if_pos hlt, if_pos (by omega)]
    · rw [List.getElem?_append_right (by omega), List.getElem?_append_right (by omega), e1, e2, List.getElem?_drop, List.getElem?_drop]
      congr 1; omega
/-- A list is copied into another of its length. -/
theorem iter_copy {f : List α × Int → Option ((List α × Int) ⊕ List α)} {a L : List α} (hl : L.length = a.length)
    (hs : ∀ (i : Nat) (h : i < a.length) out, i < out.length → f (out, (i : Int)) = some (.inl (out.set i a[i], ((i + 1 : Nat) : Int)))) (he : ∀ out, f (out, (a.length : Int)) = some (.inr out)) :
    iter f (L, 0) = some a := by
  have := iter_steps (f := f) (fun i => (a.take i ++ L.drop i, (i : Int))) a.length a (fun i hi => by rw [hs i hi _ (by simp; omega), set_copy hi hl]) (by
    rw [he, List.take_of_length_le (Nat.le_refl _), List.drop_of_length_le (by omega), List.append_nil])
  simpa using this
/-- A search that ends with a fixed answer. -/
theorem iter_ex {f : Int → Option (Int ⊕ (Unit ⊕ ρ))} (L : List α) (p : α → Bool) (c : ρ)
    (hs : ∀ (i : Nat) (h : i < L.length), f (i : Int) = some (if p L[i] = true then .inr (.inr c) else .inl ((i + 1 : Nat) : Int))) (he : f (L.length : Int) = some (.inr (.inl ()))) :
    iter f 0 = some (if L.any p = true then .inr c else .inl ()) := by
  obtain ⟨r, h1, h2⟩ := iter_up (f := f) L.length (fun i s => s = (i : Int) ∧ (L.take i).any p = false) (fun r => r = if L.any p = true then .inr c else .inl ()) (fun i s hi ⟨h, hp⟩ => by
      subst h
      refine ⟨_, hs i hi, ?_⟩
      by_cases hc : p L[i] = true
      · rw [if_pos hc]
        dsimp only
        rw [if_pos (List.any_eq_true.2 ⟨L[i], List.getElem_mem hi, hc⟩)]
      · rw [if_neg hc]
        refine ⟨rfl, ?_⟩
        rw [take_succ' hi, List.any_append, hp]
        simpa using hc) (fun s ⟨h, hp⟩ => by
      subst h
      refine ⟨_, he, ?_⟩
      rw [List.take_of_length_le (Nat.le_refl _)] at hp
      rw [hp]; rfl) 0 ⟨rfl, by simp⟩
  rw [h1, h2]
/-- A search that ends with the place. -/
theorem iter_idx {f : Int → Option (Int ⊕ (Unit ⊕ Int))} (L : List α) (p : α → Bool)
    (hs : ∀ (i : Nat) (h : i < L.length), f (i : Int) = some (if p L[i] = true then .inr (.inr (i : Int)) else .inl ((i + 1 : Nat) : Int))) (he : f (L.length : Int) = some (.inr (.inl ()))) :
    ∃ o, iter f 0 = some o ∧ (match o with | .inl _ => L.any p = false | .inr x => 0 ≤ x ∧ L.any p = true) := by
  refine iter_up (f := f) L.length (fun i s => s = (i : Int) ∧ (L.take i).any p = false) (fun o => match o with | .inl _ => L.any p = false | .inr x => 0 ≤ x ∧ L.any p = true) (fun i s hi ⟨h, hp⟩ => ?_) (fun s ⟨h, hp⟩ => ?_) 0 ⟨rfl, by simp⟩
  · subst h
    refine ⟨_, hs i hi, ?_⟩
    by_cases hc : p L[i] = true
    · rw [if_pos hc]
      exact ⟨by omega, List.any_eq_true.2 ⟨L[i], List.getElem_mem hi, hc⟩⟩
    · rw [if_neg hc]
      refine ⟨rfl, ?_⟩
      rw [take_succ' hi, List.any_append, hp]
      simpa using hc
  · subst h
    refine ⟨_, he, ?_⟩
    rw [List.take_of_length_le (Nat.le_refl _)] at hp
    exact hp
/-- What is left of a size. -/
def lft (n : Int) (s : Nat) : Int := if (s : Int) ≤ n then n - s else -1
theorem lft_neg {n : Int} {s : Nat} : lft n s < 0 ↔ n < s := by unfold lft; split <;> omega
theorem lft_pos {n : Int} {s : Nat} (h : ¬ lft n s < 0) : lft n s = n - s ∧ (s : Int) ≤ n := by
  unfold lft at h ⊢
  by_cases hc : (s : Int) ≤ n
  · rw [if_pos hc]; exact ⟨rfl, hc⟩
  · rw [if_neg hc] at h; omega
theorem lft_bad {n : Int} {s : Nat} (h : lft n s < 0) : lft n s = -1 := by
  unfold lft at h ⊢
  by_cases hc : (s : Int) ≤ n
  · rw [if_pos hc] at h; omega
  · rw [if_neg hc]
theorem iter_sz {f : Int × Int → Option ((Int × Int) ⊕ (Int ⊕ Int))} (s : α → Nat) (L : List α) (b0 : Int) (h0 : 0 ≤ b0)
    (hs : ∀ (i : Nat) (h : i < L.length) (b : Int), 0 ≤ b → b ≤ b0 → f (b, (i : Int)) = some (if lft b (s L[i]) < 0 then .inr (.inr (-1)) else .inl (lft b (s L[i]), ((i + 1 : Nat) : Int))))
    (he : ∀ b, f (b, (L.length : Int)) = some (.inr (.inl b))) : iter f (b0, 0) = some (if lft b0 (L.map s).sum < 0 then .inr (-1) else .inl (lft b0 (L.map s).sum)) := by
  obtain ⟨r, h1, h2⟩ := iter_up (f := f) L.length (fun i x => x = (b0 - ((L.take i).map s).sum, (i : Int)) ∧ (((L.take i).map s).sum : Int) ≤ b0) (fun r => r = (if lft b0 (L.map s).sum < 0 then .inr (-1) else .inl (lft b0 (L.map s).sum))) (fun i x hi ⟨h, hp⟩ => by
      subst h
      refine ⟨_, hs i hi _ (by omega) (by omega), ?_⟩
      have e1 : ((L.take (i + 1)).map s).sum = ((L.take i).map s).sum + s L[i] := by
        rw [take_succ' hi, List.map_append, List.sum_append]; simp
      have e2 : ((L.take (i + 1)).map s).sum ≤ (L.map s).sum := by
        conv => rhs; rw [← List.take_append_drop (i + 1) L, List.map_append, List.sum_append]
        omega
      by_cases hc : lft (b0 - ((L.take i).map s).sum) (s L[i]) < 0
      · rw [if_pos hc]
        dsimp only
        rw [if_pos]
        rw [lft_neg] at hc ⊢
        omega
      · rw [if_neg hc]
        obtain ⟨g1, g2⟩ := lft_pos hc
        refine ⟨?_, by omega⟩
        rw [g1, e1]
        congr 1; omega) (fun x ⟨h, hp⟩ => by
      subst h
      refine ⟨_, he _, ?_⟩
      rw [List.take_of_length_le (Nat.le_refl _)] at hp ⊢
      have e3 : lft b0 (L.map s).sum = b0 - (L.map s).sum := by unfold lft; rw [if_pos hp]
      rw [e3, if_neg (by omega)]) (b0, 0) ⟨by simp, by simpa using h0⟩
  rw [h1, h2]
theorem mem_le_sum {s : α → Nat} {l : List α} {a : α} (h : a ∈ l) : s a ≤ (l.map s).sum := by
  induction l with
  | nil => simp at h
  | cons b l ih =>
    rw [List.map_cons, List.sum_cons]
    rcases List.mem_cons.1 h with rfl | h
    · omega
    · have := ih h; omega
end Go.Proofs.YtabmomjfdondnaaH
