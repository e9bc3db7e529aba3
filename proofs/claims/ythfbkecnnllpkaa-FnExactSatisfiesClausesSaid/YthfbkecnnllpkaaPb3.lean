/- Plain laws: literals under a model, clauses, valid clauses. -/
import Derived.Test.YthfbkecnnllpkaaTd1
import Derived.Test.YthfbkecnnllpkaaPb2
set_option linter.unusedVariables false
set_option linter.unusedSimpArgs false
namespace Go.Proofs.YthfbkecnnllpkaaH
open Go

theorem ix_getD {α : Type} {l : List α} {j : Int} {d : α} (h0 : 0 ≤ j) (h : j < l.length) : ix l j = some (l[j.toNat]?.getD d) := by
  rw [ix_of h0, List.getElem?_eq_getElem (by omega)]; rfl
/-- A literal under a model. -/
def lit (m : List Bool) (x : Int) : Bool :=
  if x > 0 then (if x ≤ (m.length : Int) then m[(x - 1).toNat]?.getD false else false)
  else if x < 0 then (if x ≥ -(m.length : Int) then !(m[(-x - 1).toNat]?.getD false) else false) else false
def sat (l : List (List Int)) (m : List Bool) : Bool := l.all fun c => c.any (lit m)
theorem isTrue {m : List Bool} {x : Int} (h : m.length ≤ 1048576) : f59 m x = some (lit m x) := by
  unfold f59 lit
  by_cases h1 : x > 0
  · simp only [if_pos h1]
    by_cases h2 : x ≤ (m.length : Int)
    · simp only [if_pos h2]
      rw [w64_of (by omega), ix_getD (d := false) (by omega) (by omega)]; rfl
    · simp only [if_neg h2]; rfl
  · simp only [if_neg h1]
    by_cases h2 : x < 0
    · simp only [if_pos h2]
      rw [w64_of (n := -(m.length : Int)) (by omega)]
      by_cases h3 : x ≥ -(m.length : Int)
      · simp only [if_pos h3]
        rw [w64_of (n := -x) (by omega), w64_of (by omega), ix_getD (d := false) (by omega) (by omega)]
        simp
      · simp only [if_neg h3]; rfl
    · simp only [if_neg h2]; rfl
theorem satImp {l : List (List Int)} {m : List Bool} (h : Big l.length) (h' : ∀ x ∈ l, Big x.length) (hm : m.length ≤ 1048576) : f32 l m = some (sat l m) := by
  unfold f32
  rw [indexII (p := fun c => !c.any (lit m)) h (fun c hc => by
    unfold f56
    rw [indexI (p := lit m) (h' _ hc) (fun x _ => by
      unfold f58
      rw [isTrue hm]; rfl)]
    simp)]
  rw [any_not]
  simp [sat]
theorem satSpec {l : List (List Int)} {m : List Bool} (h : Big l.length) (h' : ∀ x ∈ l, Big x.length) (hm : m.length ≤ 1048576) : f31 l m = some (sat l m) := by
  unfold f31
  rw [iter_ex l (fun c => !c.any (lit m)) false (fun i hi => by
    simp only [f31_0]
    rw [if_pos (by omega), w64_succ (by omega)]
    rw [iter_foldl l[i] (fun b a => b || lit m a) id (fun k hk b => by
      simp only [f31_1]
      have hk' := h' _ (List.getElem_mem hi)
      rw [ix_nat hi, Option.bind_some, if_pos (by omega), ix_nat hk, w64_succ (by omega), Option.bind_some]
      generalize l[i][k] = v
      cases b
      · rw [if_neg (by simp)]
        have e1 : w64 (-(m.length : Int)) = -(m.length : Int) := w64_of (by omega)
        unfold lit
        by_cases h1 : v > 0
        · simp only [if_pos h1]
          by_cases h2 : v ≤ (m.length : Int)
          · simp only [if_pos h2]
            rw [w64_of (n := v - 1) (by omega), ix_getD (d := false) (by omega) (by omega)]
            simp only [Option.bind_some, if_neg (show ¬ v < 0 by omega)]
            cases m[(v - 1).toNat]?.getD false <;> rfl
          · simp only [if_neg h2, if_neg (show ¬ v < 0 by omega)]; rfl
        · simp only [if_neg h1]
          by_cases h2 : v < 0
          · simp only [if_pos h2, e1]
            by_cases h3 : v ≥ -(m.length : Int)
            · simp only [if_pos h3]
              rw [w64_of (n := -v) (by omega), w64_of (by omega), ix_getD (d := false) (by omega) (by omega)]
              simp
            · simp only [if_neg h3]; rfl
          · simp only [if_neg h2]; rfl
      · rfl) (fun b => by
      simp only [f31_1]
      rw [ix_nat hi, Option.bind_some, if_neg (by omega)]; rfl)]
    simp only [Option.bind_some, foldl_any, Bool.false_or, id]
    cases l[i].any (lit m) <;> rfl) (by
    simp only [f31_0]
    rw [if_neg (by omega)])]
  rw [any_not]
  unfold sat
  cases (l.all fun c => c.any (lit m)) <;> rfl

/-- What each side says of one literal. -/
def slit (n v : Int) : Bool := let y := if v < 0 ∧ v ≥ w64 (-n) then w64 (-v) else (if 0 > v then 0 else v); decide (1 ≤ y) && decide (y ≤ n)
def bef (c : List Int) (i : Nat) : Bool := (c.take i).any fun a => a == c.getD i 0 || a == w64 (-(c.getD i 0))
def clS (n : Int) (c : List Int) : Bool := !(List.range c.length).any fun i => !slit n (c.getD i 0) || bef c i
def valid (n : Int) (l : List (List Int)) : Bool := l.all (clS n) && ((decide (0 ≤ n) && decide (n ≤ 14)) && decide ((l.length : Int) ≤ 400))
end Go.Proofs.YthfbkecnnllpkaaH

