/- Plain laws: literals under a model, clauses, valid clauses. -/
import Derived.Test.YthfbkecnnllpkaaTd1
import Derived.Test.YthfbkecnnllpkaaPb2
import Derived.Test.YthfbkecnnllpkaaPl4
set_option linter.unusedVariables false
set_option linter.unusedSimpArgs false
namespace Go.Proofs.YthfbkecnnllpkaaH
open Go

/-- A literal under a model. -/
def lit (m : List Bool) (x : Int) : Bool :=
  if x > 0 then (if x ≤ (m.length : Int) then m[(x - 1).toNat]?.getD false else false)
  else if x < 0 then (if x ≥ -(m.length : Int) then !(m[(-x - 1).toNat]?.getD false) else false) else false
def sat (l : List (List Int)) (m : List Bool) : Bool := l.all fun c => c.any (lit m)
theorem satSpec {l : List (List Int)} {m : List Bool} (h : Big l.length) (h' : ∀ x ∈ l, Big x.length) (hm : m.length ≤ 1048576) : f31 l m = some (sat l m) := by
  unfold f31
  rw [iter_ex l (fun c => !c.any (lit m)) false (fun i hi => by
    simp only [f31_0]
    rw [if_pos (by omega), w64_succ (by omega)]
    rw [iter_foldl l[i] (fun b a => b || lit m a) id (fun k hk b => by
      simp only [f31_1]
      have hk' := h' _ (List.getElem_mem hi)
      rw [ix_nat hi, Option.bind_some, if_pos (by omega), ix_nat hk, w64_succ (by omega), Option.bind_some]
      generalize l[i][k] = v
      cases b
      · rw [if_neg (by simp)]
        have e1 : w64 (-(m.length : Int)) = -(m.length : Int) := w64_of (by omega)
        unfold lit
        by_cases h1 : v > 0
        · simp only [if_pos h1]
          by_cases h2 : v ≤ (m.length : Int)
          · simp only [if_pos h2]
            rw [w64_of (n := v - 1) (by omega), ix_getD (d := false) (by omega) (by omega)]
            simp only [Option.bind_some, if_neg (show ¬ v < 0 by omega)]
            cases m[(v - 1).toNat]?.getD false <;> rfl
          · simp only [if_neg h2, if_neg (show ¬ v < 0 by omega)]; rfl
        · simp only [if_neg h1]
          by_cases h2 : v < 0
          · simp only [if_pos h2, e1]
            by_cases h3 : v ≥ -(m.length : Int)
            · simp only [if_pos h3]
              rw [w64_of (n := -v) (by omega), w64_of (by omega), ix_getD (d := false) (by omega) (by omega)]
              simp
            · simp only [if_neg h3]; rfl
          · simp only [if_neg h2]; rfl
      · rfl) (fun b => by
      simp only [f31_1]
      rw [ix_nat hi, Option.bind_some, if_neg (by omega)]; rfl)]
    simp only [Option.bind_some, foldl_any, Bool.false_or, id]
    cases l[i].any (lit m) <;> rfl) (by
    simp only [f31_0]
    rw [if_neg (by omega)])]
  rw [any_not]
  unfold sat
  cases (l.all fun c => c.any (lit m)) <;> rfl

/-- What each side says of one literal. -/
def slit (n v : Int) : Bool := let y := if v < 0 ∧ v ≥ w64 (-n) then w64 (-v) else (if 0 > v then 0 else v); decide (1 ≤ y) && decide (y ≤ n)
def ilit (n v : Int) : Bool := !(v == 0) && (decide (w64 (-n) ≤ v) && decide (v ≤ n))
def bef (c : List Int) (i : Nat) : Bool := (c.take i).any fun a => a == c.getD i 0 || a == w64 (-(c.getD i 0))
def clS (n : Int) (c : List Int) : Bool := !(List.range c.length).any fun i => !slit n (c.getD i 0) || bef c i
def clI (n : Int) (c : List Int) : Bool := !(List.range c.length).any fun i => !ilit n (c.getD i 0) || bef c i
theorem slit_ilit {n v : Int} (h0 : 0 ≤ n) (h1 : n ≤ 14) : slit n v = ilit n v := by
  unfold slit ilit
  have e1 : w64 (-n) = -n := w64_of (by omega)
  rw [e1]
  by_cases h2 : v < 0 ∧ v ≥ -n
  · have e2 : w64 (-v) = -v := w64_of (by omega)
    rw [if_pos h2, e2]
    rw [Bool.eq_iff_iff]
    simp
    omega
  · rw [if_neg h2]
    rw [Bool.eq_iff_iff]
    by_cases h3 : 0 > v
    · rw [if_pos h3]; simp; omega
    · rw [if_neg h3]; simp; omega
theorem clS_clI {n : Int} {c : List Int} (h0 : 0 ≤ n) (h1 : n ≤ 14) : clI n c = clS n c := by
  unfold clS clI
  simp only [slit_ilit h0 h1]
theorem specIn {x lo hi : Int} : f61 x lo hi = some (decide (lo ≤ x) && decide (x ≤ hi)) := by
  unfold f61
  by_cases h : x ≥ lo
  · rw [if_pos h]; simp [h]
  · rw [if_neg h]; simp [show ¬ lo ≤ x from h]
theorem implIn {x lo hi : Int} : f75 x lo hi = some (decide (lo ≤ x) && decide (x ≤ hi)) := by
  unfold f75
  by_cases h : lo ≤ x
  · rw [if_pos h]; simp [h]
  · rw [if_neg h]; simp [h]
theorem specClause {n : Int} {c : List Int} (h : Big c.length) : f60 n c = some (clS n c) := by
  unfold f60
  rw [iter_ex (List.range c.length) (fun i => !slit n (c.getD i 0) || bef c i) false (fun i hi => by
    simp only [f60_0]
    simp only [List.length_range] at hi
    simp only [List.getElem_range]
    have eg : c.getD i 0 = c[i] := by rw [List.getD_eq_getElem?_getD, List.getElem?_eq_getElem hi]; rfl
    rw [if_pos (by omega), ix_nat hi, w64_succ (by omega), Option.bind_some]
    have es : ((((if c[i] < 0 then some (decide (c[i] ≥ (w64 (-n)))) else some false) : Option Bool).bind fun x_5 => ((if x_5 = true then some (w64 (-c[i])) else some (if 0 > c[i] then 0 else c[i])) : Option Int).bind fun v_11 => f61 v_11 1 n) : Option Bool) = some (slit n c[i]) := by
      unfold slit
      by_cases h1 : c[i] < 0
      · by_cases h2 : c[i] ≥ w64 (-n)
        · simp only [if_pos h1, h2, decide_true, Option.bind_some, if_true, specIn, and_true]
        · simp only [if_pos h1, h2, decide_false, Option.bind_some, specIn, and_false, if_false, Bool.false_eq_true]
      · rw [if_neg (show ¬ (c[i] < 0 ∧ c[i] ≥ w64 (-n)) from fun h => h1 h.1)]
        simp only [if_neg h1, Option.bind_some, specIn, if_false, Bool.false_eq_true]
    rw [← Option.bind_assoc] at es
    rw [← Option.bind_assoc, ← Option.bind_assoc, es, Option.bind_some]
    rw [eg]
    by_cases hc : slit n c[i] = true
    · rw [hc, if_neg (by simp)]
      rw [iter_ex (c.take i) (fun a => a == c.getD i 0 || a == w64 (-(c.getD i 0))) false (fun k hk => by
        simp only [f60_1]
        simp only [List.length_take] at hk
        rw [if_pos (by omega), ix_nat (l := c) (i := k) (by omega), w64_succ (by omega), ix_nat hi, eg]
        simp only [Option.bind_some, List.getElem_take]
        by_cases h1 : c[k] = c[i]
        · rw [if_pos h1]; simp [h1]
        · rw [if_neg h1]
          by_cases h2 : c[k] = w64 (-c[i]) <;> simp [h1, h2]) (by
        simp only [f60_1]
        rw [if_neg (by simp; omega)])]
      unfold bef
      cases ((c.take i).any fun a => a == c.getD i 0 || a == w64 (-(c.getD i 0))) <;> rfl
    · simp only [Bool.not_eq_true] at hc
      rw [hc]; rfl) (by
    simp only [f60_0]
    rw [if_neg (by simp)])]
  unfold clS
  cases ((List.range c.length).any fun i => !slit n (c.getD i 0) || bef c i) <;> rfl
theorem implClause {n : Int} {c : List Int} (h : Big c.length) : f63 n c = some (clI n c) := by
  unfold f63
  rw [iter_ex (List.range c.length) (fun i => !ilit n (c.getD i 0) || bef c i) false (fun i hi => by
    simp only [f63_0]
    simp only [List.length_range] at hi
    simp only [List.getElem_range]
    have eg : c.getD i 0 = c[i] := by rw [List.getD_eq_getElem?_getD, List.getElem?_eq_getElem hi]; rfl
    rw [if_pos (by omega), ix_nat hi, w64_succ (by omega), Option.bind_some, eg]
    unfold ilit
    by_cases h1 : c[i] = 0
    · rw [if_pos h1]; simp [h1]
    · rw [if_neg h1, implIn]
      simp only [Option.bind_some]
      by_cases h2 : (decide (w64 (-n) ≤ c[i]) && decide (c[i] ≤ n)) = true
      · rw [if_neg (by rw [h2]; simp), cutL_ok (by omega) (by omega) (by omega), Option.bind_some]
        rw [show (List.take (i : Int).toNat c).drop (0 : Int).toNat = c.take i by simp]
        have hb : Big (c.take i).length := by simp; omega
        rw [containsI hb, containsI hb, h2]
        unfold bef
        rw [eg]
        have e3 : ((c.take i).any fun a => a == c[i] || a == w64 (-c[i])) = ((c.take i).contains c[i] || (c.take i).contains (w64 (-c[i]))) := by
          rw [Bool.eq_iff_iff]; simp only [List.any_eq_true, Bool.or_eq_true, List.contains_iff_mem, beq_iff_eq]
          constructor
          · rintro ⟨a, ha, h | h⟩
            · exact .inl (h ▸ ha)
            · exact .inr (h ▸ ha)
          · rintro (h | h)
            · exact ⟨_, h, .inl rfl⟩
            · exact ⟨_, h, .inr rfl⟩
        rw [e3]
        have h1' : (c[i] == 0) = false := by simpa using h1
        rw [h1']
        cases (c.take i).contains c[i] <;> cases (c.take i).contains (w64 (-c[i])) <;> rfl
      · rw [if_pos h2]
        simp only [Bool.not_eq_true] at h2
        rw [h2]; simp) (by
    simp only [f63_0]
    rw [if_neg (by simp)])]
  unfold clI
  cases ((List.range c.length).any fun i => !ilit n (c.getD i 0) || bef c i) <;> rfl
def valid (n : Int) (l : List (List Int)) : Bool := l.all (clS n) && ((decide (0 ≤ n) && decide (n ≤ 14)) && decide ((l.length : Int) ≤ 400))
theorem specValid {n : Int} {l : List (List Int)} (h : Big l.length) (h' : ∀ x ∈ l, Big x.length) : f33 n l = some (valid n l) := by
  unfold f33
  rw [iter_ex l (fun c => !clS n c) false (fun i hi => by
    simp only [f33_0]
    rw [if_pos (by omega), ix_nat hi, w64_succ (by omega)]
    simp only [Option.bind_some, specClause (h' _ (List.getElem_mem hi))]
    cases clS n l[i] <;> rfl) (by
    simp only [f33_0]
    rw [if_neg (by omega)])]
  rw [any_not]
  unfold valid
  cases l.all (clS n)
  · rfl
  · rw [if_neg (by simp), Option.bind_some]
    dsimp only
    rw [specIn, Option.bind_some]
    cases (decide (0 ≤ n) && decide (n ≤ 14)) <;> simp
theorem implValid {n : Int} {l : List (List Int)} (h : Big l.length) (h' : ∀ x ∈ l, Big x.length) : f34 n l = some (valid n l) := by
  unfold f34 f62 valid
  by_cases h0 : (l.length : Int) ≤ 400
  · rw [if_pos h0, implIn, Option.bind_some]
    by_cases h1 : (decide (0 ≤ n) && decide (n ≤ 14)) = true
    · rw [if_pos h1, h1]
      simp only [Bool.and_eq_true, decide_eq_true_eq] at h1
      rw [indexII (p := fun c => !clS n c) h (fun c hc => by
        unfold f76
        rw [implClause (h' _ hc), clS_clI h1.1 h1.2]; simp), any_not]
      simp [h0]
    · rw [if_neg h1]
      simp only [Bool.not_eq_true] at h1
      rw [h1]; simp
  · rw [if_neg h0]; simp [h0]
end Go.Proofs.YthfbkecnnllpkaaH

