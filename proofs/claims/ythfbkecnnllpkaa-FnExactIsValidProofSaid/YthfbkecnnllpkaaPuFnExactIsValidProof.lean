/- The plain law of FnExactIsValidProof. -/
import Derived.Test.YthfbkecnnllpkaaTd1
import Derived.Test.YthfbkecnnllpkaaPb6
set_option linter.unusedVariables false
set_option linter.unusedSimpArgs false
namespace Go.Proofs.YthfbkecnnllpkaaH
open Go
/-- Each clause of a proof follows. -/
def follows : List (List Int) → List (List Int) → Bool
  | known, [] => true
  | known, c :: ps => (prop known 15 (negs c)).2 && follows (known ++ [c]) ps
def lastNil (p : List (List Int)) : Bool := decide ((p.getD (p.length - 1) []).length = 0)
def proofOk (n : Int) (l p : List (List Int)) : Bool := valid n l && (decide (p.length ≠ 0) && lastNil p) && (p.all (clS n) && follows l p)
theorem unitsOk {n : Int} {known : List (List Int)} {c : List Int} (hn : n ≤ 14) (hk : known.length ≤ 1048576) (hg : ∀ d ∈ known, Good n d) (hc : Good n c) : ∃ r, f65 known (negs c) = some r ∧ r.2 = (prop known 15 (negs c)).2 := by
  have hz := negs_good hn hc
  have hl := hz.le14 hn
  unfold f65
  rw [app_fits (by simp only [List.length_nil]; omega), List.nil_append, Option.bind_some]
  obtain ⟨r, e1, e2⟩ := propSpec hn hk (fun d hd => by have := (hg d hd).le14 hn; omega) (fun d hd => (hg d hd).1) 15 (negs c) hz (by omega)
  rw [e1, Option.bind_some]
  cases r with
  | inl o => simp only at e2; exact ⟨_, rfl, by rw [e2]⟩
  | inr x => simp only at e2; exact ⟨_, rfl, by rw [e2]⟩
theorem propOk {n : Int} {known : List (List Int)} {c : List Int} (hn : n ≤ 14) (hk : known.length ≤ 1048576) (hg : ∀ d ∈ known, Good n d) (hc : Good n c) : f64 known (negs c) = some (prop known 15 (negs c)) := by
  have hz := negs_good hn hc
  have hl := hz.le14 hn
  unfold f64
  rw [app_fits (by simp only [List.length_nil]; omega), List.nil_append, Option.bind_some]
  rw [propImp hn hk (fun d hd => by have := (hg d hd).le14 hn; omega) (fun d hd => (hg d hd).1) 15 (negs c) hz (by omega)]
  rfl
theorem last_ix {p : List (List Int)} (h : p.length ≠ 0) (hb : Big p.length) : ix p (w64 ((p.length : Int) - 1)) = some (p.getD (p.length - 1) []) := by
  rw [w64_of (by omega), show (p.length : Int) - 1 = ((p.length - 1 : Nat) : Int) by omega, ix_nat (by omega), List.getD_eq_getElem?_getD, List.getElem?_eq_getElem (by omega)]; rfl
theorem specProof {n : Int} {l p : List (List Int)} (h : l.length + p.length ≤ 1048576) (h' : ∀ x ∈ l, x.length ≤ 1048576) (h'' : ∀ x ∈ p, x.length ≤ 1048576) : f45 n l p = some (proofOk n l p) := by
  unfold f45 proofOk
  rw [specValid (by omega) (fun x hx => by have := h' x hx; omega), Option.bind_some]
  by_cases hv : valid n l = true
  · obtain ⟨h0, h1, h2, h3⟩ := valid_lits hv
    rw [if_neg (by simp [hv]), hv]
    by_cases hp : p.length = 0
    · rw [if_pos (by omega)]; simp [hp]
    · rw [if_neg (by omega), last_ix hp (by omega)]
      simp only [Option.bind_some]
      by_cases hl : lastNil p = true
      · have hl' : (p.getD (p.length - 1) []).length = 0 := of_decide_eq_true hl
        rw [if_neg (by simp only [hl', decide_eq_true_eq]; omega), app_fits (by simp only [List.length_nil]; omega), List.nil_append, Option.bind_some, hl]
        obtain ⟨r, e1, e2⟩ := iter_up (f := f45_0 n p) p.length (fun i s => s = (l ++ p.take i, (i : Int)) ∧ (∀ d ∈ l ++ p.take i, Good n d) ∧ ((p.drop i).all (clS n) && follows (l ++ p.take i) (p.drop i)) = (p.all (clS n) && follows l p))
            (fun r => match r with | .inl _ => (p.all (clS n) && follows l p) = true | .inr b => b = (p.all (clS n) && follows l p)) (fun i s hi ⟨hs, hg, hf⟩ => by
          subst hs
          have hb := h'' _ (List.getElem_mem hi)
          simp only [f45_0]
          rw [if_pos (by omega), ix_nat hi, Option.bind_some, specClause (by omega), Option.bind_some]
          rw [List.drop_eq_getElem_cons hi, List.all_cons, follows] at hf
          by_cases hc : clS n p[i] = true
          · have hgc := (clS_good h0 h1).1 hc
            have hk : (l ++ p.take i).length ≤ 1048576 := by simp; omega
            obtain ⟨r, g1, g2⟩ := unitsOk h1 hk hg hgc
            rw [if_neg (by simp [hc]), negSpec hb, Option.bind_some, g1, Option.bind_some]
            rw [hc] at hf
            cases hr : (prop (l ++ p.take i) 15 (negs p[i])).2
            · rw [hr] at hf g2
              rw [if_pos (by simp [g2])]
              refine ⟨_, rfl, ?_⟩
              simp only; rw [← hf]; simp
            · rw [hr] at hf g2
              rw [if_neg (by simp [g2]), app_fits (by simp at hk ⊢; omega), Option.bind_some, w64_succ (by omega)]
              have et : l ++ p.take i ++ [p[i]] = l ++ p.take (i + 1) := by rw [take_succ' hi, List.append_assoc]
              rw [et] at hf ⊢
              refine ⟨_, rfl, rfl, fun d hd => ?_, ?_⟩
              · rw [← et, List.mem_append, List.mem_singleton] at hd
                rcases hd with hd | hd
                · exact hg d hd
                · rw [hd]; exact hgc
              · rw [← hf]; simp
          · simp only [Bool.not_eq_true] at hc
            rw [if_pos (by simp [hc])]
            rw [hc] at hf
            refine ⟨_, rfl, ?_⟩
            simp only; rw [← hf]; simp) (fun s ⟨hs, hg, hf⟩ => by
          subst hs
          simp only [f45_0]
          rw [if_neg (by omega)]
          refine ⟨_, rfl, ?_⟩
          rw [List.drop_of_length_le (Nat.le_refl _), follows] at hf
          simp only; rw [← hf]; rfl) (l, 0) ⟨by simp, by simpa using h3, by simp⟩
        rw [e1, Option.bind_some]
        cases r with
        | inl u => simp only at e2; simp only [e2]; simp [hp]
        | inr b => simp only at e2; simp only [e2]; simp [hp]
      · have hl' : ¬ (p.getD (p.length - 1) []).length = 0 := fun e => hl (decide_eq_true e)
        simp only [Bool.not_eq_true] at hl
        rw [if_pos (by simp only [decide_eq_true_eq]; omega), hl]; simp
  · simp only [Bool.not_eq_true] at hv
    rw [hv]; rfl
theorem implProof {n : Int} {l p : List (List Int)} (h : l.length + p.length ≤ 1048576) (h' : ∀ x ∈ l, x.length ≤ 1048576) (h'' : ∀ x ∈ p, x.length ≤ 1048576) : f46 n l p = some (proofOk n l p) := by
  unfold f46 proofOk
  rw [implValid (by omega) (fun x hx => by have := h' x hx; omega), Option.bind_some]
  by_cases hv : valid n l = true
  · obtain ⟨h0, h1, h2, h3⟩ := valid_lits hv
    rw [if_neg (by simp [hv]), hv]
    by_cases hp : p.length = 0
    · rw [if_pos (by omega)]; simp [hp]
    · rw [if_neg (by omega)]
      have ea : f62 n p = some (p.all (clS n)) := by
        unfold f62
        rw [implIn, Option.bind_some, if_pos (by simp [h0, h1])]
        rw [indexII (p := fun c => !clS n c) (show Big p.length by omega) (fun c hc => by
          unfold f76
          rw [implClause (by have := h'' c hc; omega), clS_clI h0 h1]; simp), any_not]
        simp
      rw [ea]
      simp only [Option.bind_some]
      by_cases hall : p.all (clS n) = true
      · rw [if_neg (by simp [hall]), hall]
        unfold f66
        rw [app_fits (by simp only [List.length_nil]; omega), List.nil_append]
        simp only [Option.bind_some]
        obtain ⟨r, e1, e2⟩ := iter_up (f := f46_0 p) p.length (fun i s => s = (l ++ p.take i, (i : Int)) ∧ (∀ d ∈ l ++ p.take i, Good n d) ∧ follows (l ++ p.take i) (p.drop i) = follows l p)
            (fun r => match r with | .inl _ => follows l p = true | .inr b => b = false ∧ follows l p = false) (fun i s hi ⟨hs, hg, hf⟩ => by
          subst hs
          have hb := h'' _ (List.getElem_mem hi)
          have hgc := (clS_good h0 h1).1 (List.all_eq_true.1 hall _ (List.getElem_mem hi))
          have hk : (l ++ p.take i).length ≤ 1048576 := by simp; omega
          simp only [f46_0]
          rw [if_pos (by omega), ix_nat hi, Option.bind_some, negImp hb, Option.bind_some, propOk h1 hk hg hgc, Option.bind_some]
          rw [List.drop_eq_getElem_cons hi, follows] at hf
          cases hr : (prop (l ++ p.take i) 15 (negs p[i])).2
          · rw [hr] at hf
            rw [if_pos (by simp)]
            refine ⟨_, rfl, rfl, ?_⟩
            rw [← hf]; rfl
          · rw [hr] at hf
            rw [if_neg (by simp), app_fits (by simp at hk ⊢; omega), Option.bind_some, w64_succ (by omega)]
            have et : l ++ p.take i ++ [p[i]] = l ++ p.take (i + 1) := by rw [take_succ' hi, List.append_assoc]
            rw [et] at hf ⊢
            refine ⟨_, rfl, rfl, fun d hd => ?_, ?_⟩
            · rw [← et, List.mem_append, List.mem_singleton] at hd
              rcases hd with hd | hd
              · exact hg d hd
              · rw [hd]; exact hgc
            · rw [← hf]; rfl) (fun s ⟨hs, hg, hf⟩ => by
          subst hs
          simp only [f46_0]
          rw [if_neg (by omega)]
          refine ⟨_, rfl, ?_⟩
          rw [List.drop_of_length_le (Nat.le_refl _), follows] at hf
          exact hf.symm) (l, 0) ⟨by simp, by simpa using h3, by simp⟩
        rw [e1, Option.bind_some]
        cases r with
        | inl u =>
          simp only at e2
          simp only
          rw [last_ix hp (by omega), Option.bind_some, e2]
          simp [hp, lastNil]
        | inr b => simp only at e2; simp only [e2.1, e2.2]; simp
      · simp only [Bool.not_eq_true] at hall
        rw [hall, if_pos (by simp)]; simp
  · simp only [Bool.not_eq_true] at hv
    rw [hv]; rfl
theorem lawFnExactIsValidProof (n : Int) (hn : ok n) (a : List (List Int)) (ha : ok a) (b : List (List Int)) (hb : ok b) : f12 n a b = some true := by
  unfold f12
  rw [szII ha (by omega) (by omega), Option.bind_some]
  by_cases h1 : lft 1048576 (a.length + (a.map List.length).sum) < 0
  · rw [if_pos h1]
  rw [if_neg h1]
  obtain ⟨h2, h3⟩ := szII_ok h1 (by omega)
  obtain ⟨h4, h5⟩ := lft_pos h1
  rw [szII hb (by omega) (by omega), Option.bind_some]
  by_cases g1 : lft (lft 1048576 (a.length + (a.map List.length).sum)) (b.length + (b.map List.length).sum) < 0
  · rw [if_pos g1]
  rw [if_neg g1]
  obtain ⟨g2, g3⟩ := szII_ok g1 (by omega)
  obtain ⟨g4, g5⟩ := lft_pos g1
  simp only [toII h2 h3, toII g2 g3, Option.bind_some, specProof (n := n) (l := a) (p := b) (by omega) h3 g3, implProof (n := n) (l := a) (p := b) (by omega) h3 g3]
  simp only [eqII (show a.length ≤ 9223372036854775807 by omega) (fun x hx => by have := h3 x hx; omega), eqII (show b.length ≤ 9223372036854775807 by omega) (fun x hx => by have := g3 x hx; omega), Option.bind_some]
  simp
end Go.Proofs.YthfbkecnnllpkaaH

