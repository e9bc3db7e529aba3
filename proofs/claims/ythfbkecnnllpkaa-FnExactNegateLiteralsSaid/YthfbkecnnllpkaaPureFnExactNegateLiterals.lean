/- Negating literals, the plain part: the law's printed function answers 'true' for every list of whole numbers that fits in memory. -/
import Derived.Test.YthfbkecnnllpkaaPFnExactNegateLiteralsx2
namespace Go.Proofs.Ythfbkecnnllpkaa.Pure
open Go.RowKit Go.Proofs.Ythfbkecnnllpkaa.PFnExactNegateLiterals Go.Proofs.YthfbkecnnllpkaaW.PrintWords Go.Proofs.YthfbkecnnllpkaaW.PrintLast
set_option linter.unusedVariables false
set_option linter.unusedSimpArgs false

theorem wrap64_in (n : Int) (h : -9223372036854775808 ≤ n ∧ n ≤ 9223372036854775807) : wrap64 n = n := by unfold wrap64; omega
theorem rd_nat (l : List Int) (i : Nat) : rd l (i : Int) = l.getD i 0 := by
  simp [rd]

theorem toInt_loop (l : List Int) (hl : l.length ≤ 1048576) : ∀ (n i : Nat) (acc : List Int), n = l.length - i → i ≤ l.length → acc.length = l.length → acc.take i = l.take i →
    ∀ k, n < k → laws_toIntS.l0 k l acc i = some l := by
  intro n
  induction n with
  | zero =>
    intro i acc hn hi ha ht k hk
    obtain ⟨k, rfl⟩ : ∃ k', k = k' + 1 := ⟨k - 1, by omega⟩
    have hi' : i = l.length := by omega
    subst hi'
    rw [laws_toIntS.l0, if_neg (by omega)]
    rw [List.take_of_length_le (by omega), List.take_of_length_le (by omega)] at ht
    rw [ht]
  | succ n ih =>
    intro i acc hn hi ha ht k hk
    obtain ⟨k, rfl⟩ : ∃ k', k = k' + 1 := ⟨k - 1, by omega⟩
    rw [laws_toIntS.l0, if_pos (by omega), if_pos (by omega), if_pos (by omega), wrap64_in _ (by omega), Int.toNat_natCast, rd_nat]
    have := ih (i + 1) (acc.set i (l.getD i 0)) (by omega) (by omega) (by simpa using ha) ?_ k (by omega)
    · simpa using this
    · rw [List.take_add_one, List.take_add_one]
      have e1 : (acc.set i (l.getD i 0)).take i = l.take i := by rw [List.take_set_of_le (Nat.le_refl _), ht]
      rw [e1]
      congr 1
      rw [List.getElem?_set_self (by omega), List.getD_eq_getElem?_getD, List.getElem?_eq_getElem (by omega)]
      rfl
theorem toInt_f (l : List Int) (hl : l.length ≤ 1048576) (k : Nat) (hk : l.length < k) : laws_toIntS.f k l = some l := by
  rw [laws_toIntS.f, if_pos (by omega), if_pos (by simpa using (by omega : l.length ≤ 35184372088832))]
  exact toInt_loop l hl l.length 0 _ (by omega) (by omega) (by simp) (by simp) k hk

def negs (l : List Int) : List Int := l.map fun x => wrap64 (-x)
theorem spec_loop (l : List Int) (hl : l.length ≤ 1048576) : ∀ (n i : Nat) (acc : List Int), n = l.length - i → i ≤ l.length → acc = negs (l.take i) → ∀ k, n < k → spec_NegateLiterals.l0 k l acc i = some (negs l) := by
  intro n
  induction n with
  | zero =>
    intro i acc hn hi ha k hk
    obtain ⟨k, rfl⟩ : ∃ k', k = k' + 1 := ⟨k - 1, by omega⟩
    rw [spec_NegateLiterals.l0, if_neg (by omega), ha, List.take_of_length_le (by omega)]
  | succ n ih =>
    intro i acc hn hi ha k hk
    obtain ⟨k, rfl⟩ : ∃ k', k = k' + 1 := ⟨k - 1, by omega⟩
    have hal : acc.length ≤ l.length := by rw [ha]; simp [negs]; omega
    rw [spec_NegateLiterals.l0, if_pos (by omega), if_pos (by omega), if_pos (by omega), wrap64_in ((i : Int) + 1) (by omega), rd_nat]
    have := ih (i + 1) (acc ++ [wrap64 (-(l.getD i 0))]) (by omega) (by omega) ?_ k (by omega)
    · simpa using this
    · rw [List.take_add_one, List.getElem?_eq_getElem (by omega), List.getD_eq_getElem?_getD, List.getElem?_eq_getElem (by omega), ha]
      simp only [negs, List.map_append, Option.getD_some, Option.toList_some, List.map_cons, List.map_nil]
theorem impl_loop (l : List Int) (hl : l.length ≤ 1048576) : ∀ (n i : Nat) (acc : List Int), n = l.length - i → i ≤ l.length → acc = negs (l.take i) → ∀ k, n < k → impl_NegateLiterals.l0 k acc l (l.length : Int) i = some (negs l) := by
  intro n
  induction n with
  | zero =>
    intro i acc hn hi ha k hk
    obtain ⟨k, rfl⟩ : ∃ k', k = k' + 1 := ⟨k - 1, by omega⟩
    rw [impl_NegateLiterals.l0, if_neg (by omega), ha, List.take_of_length_le (by omega)]
  | succ n ih =>
    intro i acc hn hi ha k hk
    obtain ⟨k, rfl⟩ : ∃ k', k = k' + 1 := ⟨k - 1, by omega⟩
    have hal : acc.length ≤ l.length := by rw [ha]; simp [negs]; omega
    rw [impl_NegateLiterals.l0, if_pos (by omega), if_pos (by omega), if_pos (by omega), if_pos (by omega), wrap64_in ((i : Int) + 1) (by omega), rd_nat]
    have := ih (i + 1) (acc ++ [wrap64 (-(l.getD i 0))]) (by omega) (by omega) ?_ k (by omega)
    · simpa using this
    · rw [List.take_add_one, List.getElem?_eq_getElem (by omega), List.getD_eq_getElem?_getD, List.getElem?_eq_getElem (by omega), ha]
      simp only [negs, List.map_append, Option.getD_some, Option.toList_some, List.map_cons, List.map_nil]
theorem eq_loop (l : List Int) (hl : l.length ≤ 1048576) : ∀ (n i : Nat), n = l.length - i → i ≤ l.length → ∀ k, n < k → laws_eqIntS.l0 k l l i = some true := by
  intro n
  induction n with
  | zero =>
    intro i hn hi k hk
    obtain ⟨k, rfl⟩ : ∃ k', k = k' + 1 := ⟨k - 1, by omega⟩
    rw [laws_eqIntS.l0, if_neg (by omega)]
  | succ n ih =>
    intro i hn hi k hk
    obtain ⟨k, rfl⟩ : ∃ k', k = k' + 1 := ⟨k - 1, by omega⟩
    rw [laws_eqIntS.l0, if_pos (by omega), if_pos (by omega), if_pos (by omega), if_pos rfl, wrap64_in ((i : Int) + 1) (by omega)]
    simpa using ih (i + 1) (by omega) (by omega) k (by omega)
theorem eq_f (l : List Int) (hl : l.length ≤ 1048576) (k : Nat) (hk : l.length < k) : laws_eqIntS.f k l l = some true := by
  rw [laws_eqIntS.f, if_pos rfl]
  exact eq_loop l hl l.length 0 (by omega) (by omega) k hk
/-- A list's elements from i on are m + i, m + i + 1, .. -/
def Marked (l : List Int) (m : Int) (i : Nat) : Prop := ∀ j, i ≤ j → j < l.length → l.getD j 0 = m + j
theorem mark_loop : ∀ (n i : Nat) (l : List Int), l.length ≤ 1048576 → n = l.length - i → i ≤ l.length → (∀ j, j < i → l.getD j 0 = 1 + (j : Int)) → ∀ k, n < k →
    ∃ l', laws_markIntS.l0 k l (1 + (i : Int)) i = some (1 + (l.length : Int), l') ∧ l'.length = l.length ∧ ∀ j, j < l.length → l'.getD j 0 = 1 + (j : Int) := by
  intro n
  induction n with
  | zero =>
    intro i l hl hn hi ha k hk
    obtain ⟨k, rfl⟩ : ∃ k', k = k' + 1 := ⟨k - 1, by omega⟩
    have hi' : i = l.length := by omega
    subst hi'
    exact ⟨l, by rw [laws_markIntS.l0, if_neg (by omega)], rfl, ha⟩
  | succ n ih =>
    intro i l hl hn hi ha k hk
    obtain ⟨k, rfl⟩ : ∃ k', k = k' + 1 := ⟨k - 1, by omega⟩
    rw [laws_markIntS.l0, if_pos (by omega), if_pos (by omega), wrap64_in ((1 : Int) + i + 1) (by omega), wrap64_in ((i : Int) + 1) (by omega), Int.toNat_natCast]
    have hset : ∀ j, j < i + 1 → (l.set i (1 + (i : Int))).getD j 0 = 1 + (j : Int) := by
      intro j hj
      by_cases hji : j = i
      · subst hji
        rw [List.getD_eq_getElem?_getD, List.getElem?_set_self (by omega)]; rfl
      · rw [List.getD_eq_getElem?_getD, List.getElem?_set_ne (Ne.symm hji), ← List.getD_eq_getElem?_getD]
        exact ha j (by omega)
    obtain ⟨l', h1, h2, h3⟩ := ih (i + 1) (l.set i (1 + (i : Int))) (by simpa using hl) (by rw [List.length_set]; omega) (by rw [List.length_set]; omega) hset k (by omega)
    refine ⟨l', ?_, by simpa using h2, by simpa using h3⟩
    have : (1 : Int) + i + 1 = 1 + ((i + 1 : Nat) : Int) := by omega
    rw [this]
    simpa using h1
theorem mark_f (l : List Int) (hl : l.length ≤ 1048576) (k : Nat) (hk : l.length < k) :
    ∃ l', laws_markIntS.f k l 1 = some (1 + (l.length : Int), l') ∧ l'.length = l.length ∧ ∀ j, j < l.length → l'.getD j 0 = 1 + (j : Int) := by
  have := mark_loop l.length 0 l hl (by omega) (by omega) (by intro j hj; omega) k hk
  simpa [laws_markIntS.f] using this
theorem held_loop (l : List Int) (hl : l.length ≤ 1048576) (hm : ∀ j, j < l.length → l.getD j 0 = 1 + (j : Int)) : ∀ (n i : Nat), n = l.length - i → i ≤ l.length → ∀ k, n < k → laws_heldIntS.l0 k l (1 + (i : Int)) i = some (1 + (l.length : Int)) := by
  intro n
  induction n with
  | zero =>
    intro i hn hi k hk
    obtain ⟨k, rfl⟩ : ∃ k', k = k' + 1 := ⟨k - 1, by omega⟩
    have hi' : i = l.length := by omega
    subst hi'
    rw [laws_heldIntS.l0, if_neg (by omega)]
  | succ n ih =>
    intro i hn hi k hk
    obtain ⟨k, rfl⟩ : ∃ k', k = k' + 1 := ⟨k - 1, by omega⟩
    rw [laws_heldIntS.l0, if_pos (by omega), if_pos (by omega), rd_nat, if_pos (hm i (by omega)), wrap64_in ((1 : Int) + i + 1) (by omega), wrap64_in ((i : Int) + 1) (by omega)]
    have := ih (i + 1) (by omega) (by omega) k (by omega)
    have e : (1 : Int) + i + 1 = 1 + ((i + 1 : Nat) : Int) := by omega
    rw [e]
    simpa using this
theorem held_f (l : List Int) (hl : l.length ≤ 1048576) (hm : ∀ j, j < l.length → l.getD j 0 = 1 + (j : Int)) (k : Nat) (hk : l.length < k) : laws_heldIntS.f k l 1 = some (1 + (l.length : Int)) := by
  have := held_loop l hl hm l.length 0 (by omega) (by omega) k hk
  simpa [laws_heldIntS.f] using this

/-- The law's printed function answers 'true'. -/
theorem FnExactNegateLiterals : laws_FnExactNegateLiterals.Pure := by
  intro l0 _ _ _
  by_cases hb : (l0.length : Int) > 1048576
  · exact ⟨0, by rw [laws_FnExactNegateLiterals.f, if_pos hb]⟩
  have hl : l0.length ≤ 1048576 := by omega
  refine ⟨l0.length + 2, ?_⟩
  have hn : (negs l0).length = l0.length := by simp [negs]
  have e1 := toInt_f l0 hl (l0.length + 2) (by omega)
  have e1' := toInt_f l0 hl (l0.length + 1) (by omega)
  have e2 : ∀ k, l0.length < k → spec_NegateLiterals.f k l0 = some (negs l0) := fun k hk => by
    rw [spec_NegateLiterals.f]; exact spec_loop l0 hl l0.length 0 [] (by omega) (by omega) (by simp [negs]) k hk
  have e3 : ∀ k, l0.length < k → impl_NegateLiterals.f k l0 = some (negs l0) := fun k hk => by
    rw [impl_NegateLiterals.f]; exact impl_loop l0 hl l0.length 0 [] (by omega) (by omega) (by simp [negs]) k hk
  have e4 : ∀ k, l0.length < k → laws_eqIntS.f k (negs l0) (negs l0) = some true := fun k hk => eq_f _ (by omega) k (by omega)
  have e5 := eq_f l0 hl (l0.length + 2) (by omega)
  obtain ⟨l1, e6, _, _⟩ := mark_f l0 hl (l0.length + 2) (by omega)
  obtain ⟨l2, e7, h7, h7'⟩ := mark_f (negs l0) (by omega) (l0.length + 1) (by omega)
  have e8 : ∀ k, l0.length < k → laws_heldIntS.f k l2 1 = some (1 + (l2.length : Int)) := fun k hk => held_f l2 (by omega) (by rw [h7]; exact h7') k (by omega)
  have hneg : ¬ (1 + (l0.length : Int)) < 0 := by omega
  have hneg2 : ¬ (1 + (l2.length : Int)) < 0 := by omega
  have heq : (1 + (l2.length : Int)) = 1 + ((negs l0).length : Int) := by rw [h7]
  have ej : laws_FnExactNegateLiterals.j0 (l0.length + 2) l0 (negs l0) (negs l0) false = some true := by
    rw [laws_FnExactNegateLiterals.j0, if_neg (by simp)]
    simp only [e7, Option.bind_some, e8 _ (Nat.lt_succ_self _), if_neg hneg2, if_pos heq, e1', e3 _ (Nat.lt_succ_self _), e4 _ (Nat.lt_succ_self _), if_true]
  rw [laws_FnExactNegateLiterals.f, if_neg hb]
  simp only [e1, Option.bind_some, e2 _ (by omega : l0.length < l0.length + 2), e3 _ (by omega : l0.length < l0.length + 2), e4 _ (by omega : l0.length < l0.length + 2), e5, e6, if_true, if_neg hneg, Bool.not_true]
  exact ej

end Go.Proofs.Ythfbkecnnllpkaa.Pure
