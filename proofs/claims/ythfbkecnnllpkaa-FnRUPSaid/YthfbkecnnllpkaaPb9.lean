/- Plain laws: unit propagation keeps every model. -/
import Derived.Test.YthfbkecnnllpkaaTd1
import Derived.Test.YthfbkecnnllpkaaPb7
import Derived.Test.YthfbkecnnllpkaaPb5
set_option linter.unusedVariables false
set_option linter.unusedSimpArgs false
namespace Go.Proofs.YthfbkecnnllpkaaH
open Go
theorem lit_neg {m : List Bool} {v : Int} (h : v ≠ 0 ∧ -(m.length : Int) ≤ v ∧ v ≤ m.length) : lit m (-v) = !lit m v := by
  unfold lit
  by_cases hp : v > 0
  · rw [if_neg (by omega), if_pos (by omega), if_pos (by omega), if_pos hp, if_pos (by omega), Int.neg_neg]
  · rw [if_pos (by omega), if_pos (by omega), if_neg hp, if_pos (by omega), if_pos (by omega), Bool.not_not]
def allLit (m : List Bool) (out : List Int) : Bool := out.all (lit m)
/-- What is left of a true clause. -/
theorem left_true {n : Int} {m : List Bool} {out c : List Int} (hm : (m.length : Int) = n) (hn : n ≤ 14) (hc : Lits n c) (ho : allLit m out = true) (hs : c.any (lit m) = true) : ∃ v ∈ left out c, lit m v = true := by
  obtain ⟨v, hv, hl⟩ := List.any_eq_true.1 hs
  refine ⟨v, ?_, hl⟩
  unfold left
  rw [List.mem_filter]
  refine ⟨hv, ?_⟩
  have h1 := hc v hv
  rw [neg_neg hn h1]
  simp only [Bool.not_eq_true', List.contains_eq_mem, decide_eq_false_iff_not]
  intro hmem
  have := List.all_eq_true.1 ho _ hmem
  rw [lit_neg (by omega), hl] at this
  cases this
theorem scan_true {n : Int} {m : List Bool} {out : List Int} (hm : (m.length : Int) = n) (hn : n ≤ 14) (ho : allLit m out = true) : ∀ {l : List (List Int)}, (∀ c ∈ l, Lits n c) → sat l m = true → scan out l ≠ some none ∧ ∀ v, scan out l = some (some v) → lit m v = true
  | [], _, _ => by simp [scan]
  | c :: l, hl, hs => by
    unfold sat at hs
    rw [List.all_cons, Bool.and_eq_true] at hs
    have ih := scan_true hm hn ho (l := l) (fun d hd => hl d (by simp [hd])) hs.2
    rw [scan]
    by_cases hc : hit out c = true
    · rw [if_pos hc]; exact ih
    · rw [if_neg hc]
      obtain ⟨v, hv, hv'⟩ := left_true hm hn (hl c (by simp)) ho hs.1
      cases he : left out c with
      | nil => rw [he] at hv; simp at hv
      | cons w t =>
        cases t with
        | nil =>
          rw [he] at hv
          simp only [List.mem_singleton] at hv
          subst hv
          refine ⟨by simp, fun x hx => ?_⟩
          simp only [Option.some.injEq] at hx
          rw [← hx]; exact hv'
        | cons x t => exact ih
theorem prop_true {n : Int} {m : List Bool} {l : List (List Int)} (hm : (m.length : Int) = n) (hn : n ≤ 14) (hl : ∀ c ∈ l, Lits n c) (hs : sat l m = true) : ∀ (k : Nat) (out : List Int), allLit m out = true → (prop l k out).2 = false ∧ allLit m (prop l k out).1 = true := by
  intro k
  induction k with
  | zero => intro out ho; exact ⟨rfl, ho⟩
  | succ k ih =>
    intro out ho
    have h1 := scan_true hm hn ho hl hs
    rw [prop]
    unfold round
    cases he : scan out l with
    | none => exact ⟨rfl, ho⟩
    | some x => cases x with
      | none => exact absurd he h1.1
      | some v =>
        refine ih (out ++ [v]) ?_
        unfold allLit at ho ⊢
        rw [List.all_append, ho]
        simp [h1.2 v he]
theorem rup_true {n : Int} {l : List (List Int)} {c : List Int} {m : List Bool} (hr : rup n l c = true) (hm : (m.length : Int) = n) (hs : sat l m = true) : sat [c] m = true := by
  unfold rup at hr
  split at hr
  · rename_i h
    obtain ⟨h0, h1, h2, h3⟩ := valid_lits h.1
    have hg := (clS_good h0 h1).1 h.2
    cases hc : sat [c] m
    · exfalso
      have hall : allLit m (negs c) = true := by
        unfold allLit negs
        rw [List.all_map, List.all_eq_true]
        intro v hv
        have h4 := hg.1 v hv
        have h5 : lit m v = false := by
          simp only [sat, List.all_cons, List.all_nil, Bool.and_true] at hc
          rw [List.any_eq_false] at hc
          simpa using hc v hv
        simp only [Function.comp]
        rw [neg_neg h1 h4, lit_neg (by omega), h5]; rfl
      have := (prop_true hm h1 (fun c hc => (h3 c hc).1) hs 15 (negs c) hall).1
      rw [this] at hr; cases hr
    · rfl
  · cases hr
end Go.Proofs.YthfbkecnnllpkaaH

