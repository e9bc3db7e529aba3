/- Plain laws: copies, equality, sizes and marks of databases. -/
import Derived.Test.YtabmomjfdondnaaTd1
import Derived.Test.YtabmomjfdondnaaPb4
import Derived.Test.YtabmomjfdondnaaPl4
import Derived.Test.YtabmomjfdondnaaRd1
set_option linter.unusedVariables false
set_option linter.unusedSimpArgs false
namespace Go.Proofs.YtabmomjfdondnaaH
open Go

theorem toRs {a : List Relation} (h : a.length ≤ 1048576) : f50 a = some a := by
  unfold f50
  rw [mkl_ok (by omega) (by omega) (by omega)]
  have : iter (f50_0 a) (List.replicate (a.length : Int).toNat ({ Name := [], Arity := 0, KeyLength := 0 } : Relation), 0) = some a := iter_copy (by simp) (fun i hi out ho => by
    simp only [f50_0]
    rw [if_pos (by omega), ix_nat hi, ix_nat ho, Int.toNat_natCast, w64_succ (by omega)]; rfl) (fun out => by
    simp only [f50_0]
    rw [if_neg (by omega)])
  simp only [Option.bind_some, this]
theorem toFt {a : Fact} (h : a.Values.length ≤ 1048576) : f157 a = some a := by
  unfold f157
  rw [toI h]; rfl
theorem toFs {a : List Fact} (h : a.length ≤ 1048576) (h' : ∀ x ∈ a, x.Values.length ≤ 1048576) : f100 a = some a := by
  unfold f100
  rw [mkl_ok (by omega) (by omega) (by omega)]
  have : iter (f100_0 a) (List.replicate (a.length : Int).toNat ({ Relation := 0, Values := [] } : Fact), 0) = some a := iter_copy (by simp) (fun i hi out ho => by
    simp only [f100_0]
    rw [if_pos (by omega), ix_nat hi, ix_nat ho, Int.toNat_natCast, w64_succ (by omega)]
    simp only [Option.bind_some, toFt (h' _ (List.getElem_mem hi))]) (fun out => by
    simp only [f100_0]
    rw [if_neg (by omega)])
  simp only [Option.bind_some, this]
/-- A database that is not too large to copy. -/
def Fits (d : Database) : Prop := d.Relations.length ≤ 1048576 ∧ d.Facts.length ≤ 1048576 ∧ ∀ x ∈ d.Facts, x.Values.length ≤ 1048576
theorem toDb {a : Database} (h : Fits a) : f39 a = some a := by
  unfold f39
  rw [toRs h.1, Option.bind_some, toFs h.2.1 h.2.2]; rfl

theorem eqRl {a : Relation} : f121 a a = some true := by unfold f121; simp
theorem eqRs {a : List Relation} (h : a.length ≤ 9223372036854775807) : f53 a a = some true := by
  unfold f53
  rw [if_neg (by simp)]
  rw [iter_ex (List.range a.length) (fun _ => false) false (fun i hi => by
    simp only [f53_0]
    simp only [List.length_range] at hi
    rw [if_pos (by omega), ix_nat hi, w64_succ (by omega)]
    simp only [Option.bind_some, eqRl]
    simp) (by
    simp only [f53_0]
    rw [if_neg (by simp)])]
  simp
theorem eqFt {a : Fact} (h : a.Values.length ≤ 9223372036854775807) : f159 a a = some true := by
  unfold f159
  rw [if_neg (by simp), eqI h]; simp
theorem eqFs {a : List Fact} (h : a.length ≤ 9223372036854775807) (h' : ∀ x ∈ a, x.Values.length ≤ 9223372036854775807) : f106 a a = some true := by
  unfold f106
  rw [if_neg (by simp)]
  rw [iter_ex (List.range a.length) (fun _ => false) false (fun i hi => by
    simp only [f106_0]
    simp only [List.length_range] at hi
    rw [if_pos (by omega), ix_nat hi, w64_succ (by omega)]
    simp only [Option.bind_some, eqFt (h' _ (List.getElem_mem hi))]
    simp) (by
    simp only [f106_0]
    rw [if_neg (by simp)])]
  simp
theorem eqDb {a : Database} (h : Fits a) : f43 a a = some true := by
  unfold f43
  rw [eqRs (by have := h.1; omega), Option.bind_some, if_neg (by simp), eqFs (by have := h.2.1; omega) (fun x hx => by have := h.2.2 x hx; omega)]
  simp

theorem szRl {a : Relation} {n : Int} (h : ok a) (h0 : 0 ≤ n) (h1 : n ≤ 1048576) : f109 a n = some (lft n a.Name.length) := by
  have h := h.1.1
  unfold f109
  rw [w64_of (by omega)]
  unfold lft
  by_cases hc : n < (a.Name.length : Int)
  · rw [if_pos (by omega), if_neg (by omega)]
  · rw [if_neg (by omega), if_pos (by omega)]
theorem szFt {a : Fact} {n : Int} (h : ok a) (h0 : 0 ≤ n) (h1 : n ≤ 1048576) : f155 a n = some (lft n a.Values.length) := by
  unfold f155
  rw [szI h.2.1 h0 h1, Option.bind_some]
  split
  · rename_i hlt; rw [lft_bad hlt]
  · rfl
theorem lft_sub {n : Int} {a b : Nat} (h : ¬ n < a) : lft (n - a) b = lft n (a + b) := by
  unfold lft
  by_cases hc2 : ((b : Nat) : Int) ≤ n - a
  · rw [if_pos hc2, if_pos (by omega)]; omega
  · rw [if_neg hc2, if_neg (by omega)]
theorem szRs {a : List Relation} {n : Int} (h : ok a) (h0 : 0 ≤ n) (h1 : n ≤ 1048576) : f47 a n = some (lft n (a.length + (a.map (·.Name.length)).sum)) := by
  obtain ⟨h, h'⟩ := h
  unfold f47
  rw [w64_of (by omega)]
  by_cases hc : n < (a.length : Int)
  · rw [if_pos (by omega)]
    unfold lft
    rw [if_neg (by omega)]
  · rw [if_neg (by omega)]
    rw [iter_sz (fun x : Relation => x.Name.length) a _ (by omega) (fun i hi b hb hb' => by
      simp only [f47_0]
      rw [if_pos (by omega), ix_nat hi, w64_succ (by omega)]
      simp only [Option.bind_some, szRl (h' _ (List.getElem_mem hi)) hb (by omega)]
      split <;> rfl) (fun b => by
      simp only [f47_0]
      rw [if_neg (by omega)]), lft_sub hc]
    split
    · rename_i hlt
      rw [lft_bad hlt]; rfl
    · rfl
theorem szFs {a : List Fact} {n : Int} (h : ok a) (h0 : 0 ≤ n) (h1 : n ≤ 1048576) : f95 a n = some (lft n (a.length + (a.map (·.Values.length)).sum)) := by
  obtain ⟨h, h'⟩ := h
  unfold f95
  rw [w64_of (by omega)]
  by_cases hc : n < (a.length : Int)
  · rw [if_pos (by omega)]
    unfold lft
    rw [if_neg (by omega)]
  · rw [if_neg (by omega)]
    rw [iter_sz (fun x : Fact => x.Values.length) a _ (by omega) (fun i hi b hb hb' => by
      simp only [f95_0]
      rw [if_pos (by omega), ix_nat hi, w64_succ (by omega)]
      simp only [Option.bind_some, szFt (h' _ (List.getElem_mem hi)) hb (by omega)]
      split <;> rfl) (fun b => by
      simp only [f95_0]
      rw [if_neg (by omega)]), lft_sub hc]
    split
    · rename_i hlt
      rw [lft_bad hlt]; rfl
    · rfl
def relSize (l : List Relation) : Nat := l.length + (l.map (·.Name.length)).sum
def factSize (l : List Fact) : Nat := l.length + (l.map (·.Values.length)).sum
def dbSize (d : Database) : Nat := relSize d.Relations + factSize d.Facts
theorem szDb {a : Database} {n : Int} (h : ok a) (h0 : 0 ≤ n) (h1 : n ≤ 1048576) : f37 a n = some (lft n (dbSize a)) := by
  unfold f37
  rw [szRs h.1 h0 h1, Option.bind_some]
  change (if lft n (relSize a.Relations) < 0 then _ else _) = _
  by_cases hc : lft n (relSize a.Relations) < 0
  · rw [if_pos hc]
    have := lft_neg.1 hc
    unfold lft dbSize; rw [if_neg (by omega)]
  · rw [if_neg hc]
    obtain ⟨e1, e2⟩ := lft_pos hc
    change (f95 a.Facts (lft n (relSize a.Relations))).bind _ = _
    rw [e1, szFs h.2 (by omega) (by omega), Option.bind_some]
    change (if lft (n - relSize a.Relations) (factSize a.Facts) < 0 then _ else _) = _
    change (if lft (n - relSize a.Relations) (factSize a.Facts) < 0 then _ else some (lft (n - relSize a.Relations) (factSize a.Facts))) = _
    rw [lft_sub (by omega)]
    split
    · rename_i hlt; unfold dbSize; rw [lft_bad hlt]
    · rfl
theorem db_fits {a : Database} (h : dbSize a ≤ 1048576) : Fits a := by
  unfold dbSize relSize factSize at h
  refine ⟨by omega, by omega, fun x hx => ?_⟩
  have := mem_le_sum (s := fun x : Fact => x.Values.length) hx
  omega

/-- Marks: their text is short. -/
theorem markText {k : Int} (h0 : 0 ≤ k) (h : k ≤ 4611686018427387904) : Ens (f160 k) fun t => t.length ≤ 64 := by
  unfold f160
  refine Ens.ite (fun _ => Ens.of (by simp)) fun hk => ?_
  refine Ens.bind (Q := fun t => t.length ≤ 20) ?_ fun t ht => ?_
  · refine iter_up (f := f160_0) 20 (fun j s => (0 ≤ s.1 ∧ s.1 ≤ 4611686018427387904) ∧ s.1 < 10 ^ (20 - j) ∧ s.2.length ≤ j) (fun t => t.length ≤ 20) (fun j s hj hI => ?_) (fun s hI => ?_) (k, []) ⟨⟨h0, h⟩, by simp; omega, by simp⟩
    · obtain ⟨k, out⟩ := s
      obtain ⟨i0, i1, i2⟩ := hI
      simp only at i0 i1 i2
      simp only [f160_0]
      by_cases hp : k > 0
      · rw [if_pos hp, cat_ok (by simp; omega), Option.bind_some]
        refine ⟨_, rfl, ?_⟩
        have e : (10 : Int) ^ (20 - j) = 10 ^ (20 - (j + 1)) * 10 := by rw [← Int.pow_succ]; congr 1; omega
        have q : k.tdiv 10 = k / 10 := Int.tdiv_eq_ediv_of_nonneg i0.1
        have r : w64 (k.tdiv 10) = k / 10 := by
          rw [q, w64_of (by omega)]
        refine ⟨?_, ?_, by simp; omega⟩
        · simp only [r]; omega
        · simp only [r]; rw [e] at i1; omega
      · rw [if_neg hp]
        exact ⟨_, rfl, by simp only; omega⟩
    · obtain ⟨k, out⟩ := s
      obtain ⟨i0, i1, i2⟩ := hI
      simp only at i0 i1 i2
      simp only [f160_0]
      rw [if_neg (by simp at i1; omega)]
      exact ⟨_, rfl, i2⟩
  · rw [cat_ok (by simp; omega)]
    exact Ens.of (by simp; omega)
theorem markRs {a : List Relation} {k : Int} (h0 : 0 ≤ k) (h : k + 3 * a.length ≤ 4611686018427387904) (ha : Big a.length) : Ens (f107 a k) fun o => o.1 = k + 3 * a.length := by
  unfold f107
  refine Ens.bind (Q := fun o => o.2 = k + 3 * a.length) ?_ fun o ho => Ens.of ho
  refine iter_up (f := f107_0) a.length (fun i s => s.1.length = a.length ∧ s.2.1 = k + 3 * i ∧ s.2.2 = i) _ (fun i s hi hI => ?_) (fun s hI => ?_) (a, k, 0) ⟨rfl, by simp, rfl⟩
  · obtain ⟨b, m, x⟩ := s
    obtain ⟨e1, e2, e3⟩ := hI
    simp only at e1 e2 e3
    subst e2; subst e3
    simp only [f107_0]
    rw [if_pos (by omega)]
    obtain ⟨t, ht, _⟩ := markText (k := k + 3 * i) (by omega) (by omega)
    rw [ht, Option.bind_some, ix_nat (by omega), Option.bind_some, ix_nat (by simp; omega), Option.bind_some, ix_nat (by simp; omega), Option.bind_some]
    refine ⟨_, rfl, ?_⟩
    have w1 : w64 (k + 3 * (i : Int) + 1) = k + 3 * (i : Int) + 1 := w64_of (by omega)
    have w2 : w64 (k + 3 * (i : Int) + 1 + 1) = k + 3 * (i : Int) + 1 + 1 := w64_of (by omega)
    have w3 : w64 (k + 3 * (i : Int) + 1 + 1 + 1) = k + 3 * (i : Int) + 1 + 1 + 1 := w64_of (by omega)
    refine ⟨by simp only [List.length_set]; exact e1, ?_, w64_succ (by omega)⟩
    dsimp only
    rw [w1, w2, w3]; omega
  · obtain ⟨b, m, x⟩ := s
    obtain ⟨e1, e2, e3⟩ := hI
    simp only at e1 e2 e3
    subst e2; subst e3
    simp only [f107_0]
    rw [if_neg (by omega)]
    exact ⟨_, rfl, rfl⟩
theorem factSize_take {a : List Fact} {i : Nat} (h : i < a.length) : factSize (a.take (i + 1)) = factSize (a.take i) + 1 + a[i].Values.length := by
  unfold factSize
  rw [take_succ' h, List.map_append, List.sum_append, List.length_append]; simp; omega
theorem factSize_le {a : List Fact} {i : Nat} : factSize (a.take i) ≤ factSize a := by
  unfold factSize
  conv => rhs; rw [← List.take_append_drop i a, List.map_append, List.sum_append, List.length_append]
  omega
theorem markFs {a : List Fact} {k : Int} (h0 : 0 ≤ k) (h : k + factSize a ≤ 4611686018427387904) (ha : Big a.length) : Ens (f108 a k) fun o => o.1 = k + factSize a := by
  unfold f108
  refine Ens.bind (Q := fun o => o.2 = k + factSize a) ?_ fun o ho => Ens.of ho
  refine iter_up (f := f108_0) a.length (fun i s => s.1.length = a.length ∧ s.1.drop i = a.drop i ∧ s.2.1 = k + factSize (a.take i) ∧ s.2.2 = i) _ (fun i s hi hI => ?_) (fun s hI => ?_) (a, k, 0) ⟨rfl, rfl, by simp [factSize], rfl⟩
  · obtain ⟨b, m, x⟩ := s
    obtain ⟨e1, e4, e2, e3⟩ := hI
    dsimp only at e1 e2 e3 e4
    subst e2; subst e3
    have hb : b[i]'(by omega) = a[i] := by
      have := congrArg (fun l => l[0]?) e4
      simp only [List.getElem?_drop, Nat.add_zero] at this
      rw [List.getElem?_eq_getElem (by omega), List.getElem?_eq_getElem hi] at this
      exact Option.some.inj this
    have s1 := factSize_take hi
    have s2 := factSize_le (a := a) (i := i + 1)
    simp only [f108_0]
    rw [if_pos (by omega), ix_nat (by omega), Option.bind_some, hb, ix_nat (by simp; omega), Option.bind_some]
    simp only [Int.toNat_natCast, List.getElem_set_self]
    rw [w64_of (by omega), markI (by omega) (by omega), Option.bind_some]
    refine ⟨_, rfl, ?_⟩
    rw [w64_succ (by omega)]
    refine ⟨by simp; omega, ?_, by simp only; omega, rfl⟩
    rw [List.drop_set_of_lt (by omega), List.drop_set_of_lt (by omega)]
    rw [← List.drop_drop, e4, List.drop_drop]
  · obtain ⟨b, m, x⟩ := s
    obtain ⟨e1, e4, e2, e3⟩ := hI
    dsimp only at e1 e2 e3
    subst e2; subst e3
    simp only [f108_0]
    rw [if_neg (by omega)]
    exact ⟨_, rfl, by simp⟩
theorem markDb {a : Database} (h : dbSize a ≤ 1048576) : Ens (f44 a 1) fun k => 1 ≤ k ∧ k ≤ 4194304 := by
  unfold f44
  unfold dbSize at h
  have h1 : a.Relations.length ≤ relSize a.Relations := by unfold relSize; omega
  have h2 : a.Facts.length ≤ factSize a.Facts := by unfold factSize; omega
  refine Ens.bind (markRs (by omega) (by omega) (by omega)) fun o ho => ?_
  refine Ens.bind (markFs (by omega) (by omega) (by omega)) fun o' ho' => Ens.of ?_
  omega
end Go.Proofs.YtabmomjfdondnaaH

