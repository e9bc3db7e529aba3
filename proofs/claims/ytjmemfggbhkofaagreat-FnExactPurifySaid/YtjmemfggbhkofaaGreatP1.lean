import Derived.Test.YtjmemfggbhkofaaGreatTd1
import Derived.Test.YtjmemfggbhkofaaGreatX4
import Derived.Test.YtjmemfggbhkofaaGreatRd1
set_option linter.unusedVariables false
set_option linter.unusedSimpArgs false
set_option linter.defProp false
set_option linter.unusedSectionVars false
namespace Go.Proofs.YtjmemfggbhkofaaGreatH
open Go
section
theorem bS {α β : Type} {a : α} {f : α → Option β} : (some a).bind f = f a := rfl
end
section
theorem toI {a : List Int} (h : a.length ≤ 1048576) : f72 a = some a := by
 unfold f72
 rw [mkl_ok (by omega) (by omega) (by omega)]
 have : iter (f72_0 a) (List.replicate (a.length : Int).toNat 0, 0) = some a := iter_copy (by simp) (fun i hi out ho => by
  simp only [f72_0]
  rw [if_pos (by omega), ix_nat hi, ix_nat ho, Int.toNat_natCast, w64_succ (by omega)]; rfl) (fun out => by
  simp only [f72_0]
  rw [if_neg (by omega)])
 simp only [bS, this]
theorem eqI {a : List Int} (h : a.length ≤ 9223372036854775807) : f76 a a = some true := by
 unfold f76
 rw [if_neg (by simp)]
 rw [iter_ex (List.range a.length) (fun _ => false) false (fun i hi => by
  simp only [f76_0]
  simp only [List.length_range] at hi
  rw [if_pos (by omega), ix_nat hi, w64_succ (by omega)]
  simp) (by
  simp only [f76_0]
  rw [if_neg (by simp)])]
 simp
theorem szI {a : List Int} {n : Int} (h : a.length ≤ 9223372036854775807) (h0 : 0 ≤ n) (h1 : n ≤ 1048576) : f68 a n = some (lft n a.length) := by
 unfold f68
 rw [w64_of (by omega)]
 unfold lft
 by_cases hc : n < (a.length : Int)
 ·rw [if_pos (by omega), if_neg (by omega)]
 ·rw [if_neg (by omega), if_pos (by omega)]
end
section
abbrev Big (n : Nat) : Prop := n ≤ 9223372036854775806
theorem hasI {l : List Int} {x : Int} (h : Big l.length) : f42 l x = some (l.contains x) := by
 unfold f42
 rw [iter_ex l (fun a => x == a) true (fun i hi => by
  simp only [f42_0]
  rw [if_pos (by omega), ix_nat hi, w64_succ (by omega)]
  simp only [bS]
  by_cases hc : l[i] = x
  ·rw [if_pos hc, if_pos (by simp [hc])]
  ·rw [if_neg hc, if_neg (by simp; exact fun h => hc h.symm)]) (by
  simp only [f42_0]
  rw [if_neg (by omega)])]
 rw [show l.contains x = l.any (fun a => x == a) from List.any_beq.symm]
 by_cases hc : l.any (fun a => x == a) = true
 ·rw [if_pos hc, hc]; rfl
 ·rw [if_neg hc]; simp only [Bool.not_eq_true] at hc; rw [hc]; rfl
theorem indexI {s : List Int} {f : Int → Option Bool} {p : Int → Bool} (h : Big s.length) (hf : ∀ a ∈ s, f a = some (p a)) : f146 s f = some (s.any p) := by
 unfold f146 f180
 obtain ⟨o, h1, h2⟩ := iter_idx (f := f180_0 s f) s p (fun i hi => by
  simp only [f180_0]
  rw [if_pos (by omega), ix_nat hi, w64_succ (by omega)]
  simp only [bS, hf _ (List.getElem_mem hi)]
  split <;> rfl) (by
  simp only [f180_0]
  rw [if_neg (by omega)])
 rw [h1]
 cases o with
 | inl _ => dsimp only at h2; rw [h2]; rfl
 | inr x => dsimp only at h2; rw [h2.2]; simp; omega
theorem containsI {s : List Int} {v : Int} (h : Big s.length) : f47 s v = some (s.contains v) := by
 unfold f47 f93
 obtain ⟨o, h1, h2⟩ := iter_idx (f := f93_0 s v) s (fun a => v == a) (fun i hi => by
  simp only [f93_0]
  rw [if_pos (by omega), ix_nat hi, w64_succ (by omega)]
  simp only [bS, beq_iff_eq]
  split <;> rfl) (by
  simp only [f93_0]
  rw [if_neg (by omega)])
 rw [h1]
 rw [show s.contains v = s.any (fun a => v == a) from List.any_beq.symm]
 cases o with
 | inl _ => dsimp only at h2; rw [h2]; rfl
 | inr x => dsimp only at h2; rw [h2.2]; simp; omega
end
section
def mk (k : Int) (n : Nat) : List Int := (List.range n).map fun i => k + (i : Nat)
theorem mk_len {k : Int} {n : Nat} : (mk k n).length = n := by simp [mk]
theorem mk_get {k : Int} {n i : Nat} (h : i < (mk k n).length) : (mk k n)[i] = k + i := by simp [mk]
theorem markI {a : List Int} {k : Int} (h0 : 0 ≤ k) (h : k + a.length ≤ 4611686018427387904) : f80 a k = some (k + a.length, mk k a.length) := by
 unfold f80
 have := iter_steps (f := f80_0) (fun i => ((mk k a.length).take i ++ a.drop i, k + (i : Nat), (i : Int))) a.length (mk k a.length, k + a.length) (fun i hi => by
  have e1 : ((mk k a.length).take i ++ a.drop i).length = a.length := by simp [mk_len]; omega
  have e2 := set_copy (a := mk k a.length) (L := a) (i := i) (by rw [mk_len]; exact hi) (by rw [mk_len])
  rw [mk_get] at e2
  simp only [f80_0]
  rw [if_pos (by rw [e1]; omega), ix_nat (by rw [e1]; exact hi), w64_succ (by omega), w64_of (by omega), bS, Int.toNat_natCast, e2]
  rw [show k + (i : Int) + 1 = k + ((i + 1 : Nat) : Int) by omega]) (by
  have e1 : ((mk k a.length).take a.length ++ a.drop a.length) = mk k a.length := by
   rw [List.take_of_length_le (by rw [mk_len]; omega), List.drop_of_length_le (by omega), List.append_nil]
  simp only [f80_0]
  rw [e1, if_neg (by rw [mk_len]; omega)])
 simp only [Int.natCast_zero, List.take_zero, List.drop_zero, List.nil_append, Int.add_zero, Int.ofNat_zero] at this
 erw [this]
 rfl
theorem heldI {k : Int} {n : Nat} (h0 : 0 ≤ k) (h : k + n ≤ 4611686018427387904) : f126 (mk k n) k = some (k + n) := by
 unfold f126
 have := iter_steps (f := f126_0 (mk k n)) (fun i => (k + (i : Nat), (i : Int))) n (.inl (k + n)) (fun i hi => by
  simp only [f126_0]
  rw [if_pos (by rw [mk_len]; omega), ix_nat (by rw [mk_len]; exact hi), w64_succ (by omega), w64_of (by omega), bS, mk_get, if_neg (by simp)]
  rw [show k + (i : Int) + 1 = k + ((i + 1 : Nat) : Int) by omega]) (by
  simp only [f126_0]
  rw [if_neg (by rw [mk_len]; omega)])
 simp only [Int.natCast_zero, Int.add_zero, Int.ofNat_zero] at this
 erw [this]
 rfl
end
section
theorem toRs {a : List Relation} (h : a.length ≤ 1048576) : f69 a = some a := by
 unfold f69
 rw [mkl_ok (by omega) (by omega) (by omega)]
 have : iter (f69_0 a) (List.replicate (a.length : Int).toNat ({ Name := [], Arity := 0, KeyLength := 0 } : Relation), 0) = some a := iter_copy (by simp) (fun i hi out ho => by
  simp only [f69_0]
  rw [if_pos (by omega), ix_nat hi, ix_nat ho, Int.toNat_natCast, w64_succ (by omega)]; rfl) (fun out => by
  simp only [f69_0]
  rw [if_neg (by omega)])
 simp only [bS, this]
theorem toFt {a : Fact} (h : a.Values.length ≤ 1048576) : f120 a = some a := by
 unfold f120
 rw [toI h]; rfl
theorem toFs {a : List Fact} (h : a.length ≤ 1048576) (h' : ∀ x ∈ a, x.Values.length ≤ 1048576) : f70 a = some a := by
 unfold f70
 rw [mkl_ok (by omega) (by omega) (by omega)]
 have : iter (f70_0 a) (List.replicate (a.length : Int).toNat ({ Relation := 0, Values := [] } : Fact), 0) = some a := iter_copy (by simp) (fun i hi out ho => by
  simp only [f70_0]
  rw [if_pos (by omega), ix_nat hi, ix_nat ho, Int.toNat_natCast, w64_succ (by omega)]
  simp only [bS, toFt (h' _ (List.getElem_mem hi))]) (fun out => by
  simp only [f70_0]
  rw [if_neg (by omega)])
 simp only [bS, this]
def Fits (d : Database) : Prop := d.Relations.length ≤ 1048576 ∧ d.Facts.length ≤ 1048576 ∧ ∀ x ∈ d.Facts, x.Values.length ≤ 1048576
theorem toDb {a : Database} (h : Fits a) : f28 a = some a := by
 unfold f28
 rw [toRs h.1, bS, toFs h.2.1 h.2.2]; rfl
theorem eqRl {a : Relation} : f122 a a = some true := by unfold f122; simp
theorem eqRs {a : List Relation} (h : a.length ≤ 9223372036854775807) : f73 a a = some true := by
 unfold f73
 rw [if_neg (by simp)]
 rw [iter_ex (List.range a.length) (fun _ => false) false (fun i hi => by
  simp only [f73_0]
  simp only [List.length_range] at hi
  rw [if_pos (by omega), ix_nat hi, w64_succ (by omega)]
  simp only [bS, eqRl]
  simp) (by
  simp only [f73_0]
  rw [if_neg (by simp)])]
 simp
theorem eqFt {a : Fact} (h : a.Values.length ≤ 9223372036854775807) : f123 a a = some true := by
 unfold f123
 rw [if_neg (by simp), eqI h]; simp
theorem eqFs {a : List Fact} (h : a.length ≤ 9223372036854775807) (h' : ∀ x ∈ a, x.Values.length ≤ 9223372036854775807) : f74 a a = some true := by
 unfold f74
 rw [if_neg (by simp)]
 rw [iter_ex (List.range a.length) (fun _ => false) false (fun i hi => by
  simp only [f74_0]
  simp only [List.length_range] at hi
  rw [if_pos (by omega), ix_nat hi, w64_succ (by omega)]
  simp only [bS, eqFt (h' _ (List.getElem_mem hi))]
  simp) (by
  simp only [f74_0]
  rw [if_neg (by simp)])]
 simp
theorem eqDb {a : Database} (h : Fits a) : f30 a a = some true := by
 unfold f30
 rw [eqRs (by have := h.1; omega), bS, if_neg (by simp), eqFs (by have := h.2.1; omega) (fun x hx => by have := h.2.2 x hx; omega)]
 simp
theorem szRl {a : Relation} {n : Int} (h : ok a) (h0 : 0 ≤ n) (h1 : n ≤ 1048576) : f116 a n = some (lft n a.Name.length) := by
 have h := h.1.1
 unfold f116
 rw [w64_of (by omega)]
 unfold lft
 by_cases hc : n < (a.Name.length : Int)
 ·rw [if_pos (by omega), if_neg (by omega)]
 ·rw [if_neg (by omega), if_pos (by omega)]
theorem szFt {a : Fact} {n : Int} (h : ok a) (h0 : 0 ≤ n) (h1 : n ≤ 1048576) : f117 a n = some (lft n a.Values.length) := by
 unfold f117
 rw [szI h.2.1 h0 h1, bS]
 split
 ·rename_i hlt; rw [lft_bad hlt]
 ·rfl
theorem lft_sub {n : Int} {a b : Nat} (h : ¬ n < a) : lft (n - a) b = lft n (a + b) := by
 unfold lft
 by_cases hc2 : ((b : Nat) : Int) ≤ n - a
 ·rw [if_pos hc2, if_pos (by omega)]; omega
 ·rw [if_neg hc2, if_neg (by omega)]
theorem szRs {a : List Relation} {n : Int} (h : ok a) (h0 : 0 ≤ n) (h1 : n ≤ 1048576) : f65 a n = some (lft n (a.length + (a.map (·.Name.length)).sum)) := by
 obtain ⟨h, h'⟩ := h
 unfold f65
 rw [w64_of (by omega)]
 by_cases hc : n < (a.length : Int)
 ·rw [if_pos (by omega)]
  unfold lft
  rw [if_neg (by omega)]
 ·rw [if_neg (by omega)]
  rw [iter_sz (fun x : Relation => x.Name.length) a _ (by omega) (fun i hi b hb hb' => by
   simp only [f65_0]
   rw [if_pos (by omega), ix_nat hi, w64_succ (by omega)]
   simp only [bS, szRl (h' _ (List.getElem_mem hi)) hb (by omega)]
   split <;> rfl) (fun b => by
   simp only [f65_0]
   rw [if_neg (by omega)]), lft_sub hc]
  split
  ·rename_i hlt
   rw [lft_bad hlt]; rfl
  ·rfl
theorem szFs {a : List Fact} {n : Int} (h : ok a) (h0 : 0 ≤ n) (h1 : n ≤ 1048576) : f66 a n = some (lft n (a.length + (a.map (·.Values.length)).sum)) := by
 obtain ⟨h, h'⟩ := h
 unfold f66
 rw [w64_of (by omega)]
 by_cases hc : n < (a.length : Int)
 ·rw [if_pos (by omega)]
  unfold lft
  rw [if_neg (by omega)]
 ·rw [if_neg (by omega)]
  rw [iter_sz (fun x : Fact => x.Values.length) a _ (by omega) (fun i hi b hb hb' => by
   simp only [f66_0]
   rw [if_pos (by omega), ix_nat hi, w64_succ (by omega)]
   simp only [bS, szFt (h' _ (List.getElem_mem hi)) hb (by omega)]
   split <;> rfl) (fun b => by
   simp only [f66_0]
   rw [if_neg (by omega)]), lft_sub hc]
  split
  ·rename_i hlt
   rw [lft_bad hlt]; rfl
  ·rfl
def relSize (l : List Relation) : Nat := l.length + (l.map (·.Name.length)).sum
def factSize (l : List Fact) : Nat := l.length + (l.map (·.Values.length)).sum
def dbSize (d : Database) : Nat := relSize d.Relations + factSize d.Facts
theorem szDb {a : Database} {n : Int} (h : ok a) (h0 : 0 ≤ n) (h1 : n ≤ 1048576) : f26 a n = some (lft n (dbSize a)) := by
 unfold f26
 rw [szRs h.1 h0 h1, bS]
 change (if lft n (relSize a.Relations) < 0 then _ else _) = _
 by_cases hc : lft n (relSize a.Relations) < 0
 ·rw [if_pos hc]
  have := lft_neg.1 hc
  unfold lft dbSize; rw [if_neg (by omega)]
 ·rw [if_neg hc]
  obtain ⟨e1, e2⟩ := lft_pos hc
  change (f66 a.Facts (lft n (relSize a.Relations))).bind _ = _
  rw [e1, szFs h.2 (by omega) (by omega), bS]
  change (if lft (n - relSize a.Relations) (factSize a.Facts) < 0 then _ else _) = _
  change (if lft (n - relSize a.Relations) (factSize a.Facts) < 0 then _ else some (lft (n - relSize a.Relations) (factSize a.Facts))) = _
  rw [lft_sub (by omega)]
  split
  ·rename_i hlt; unfold dbSize; rw [lft_bad hlt]
  ·rfl
theorem db_fits {a : Database} (h : dbSize a ≤ 1048576) : Fits a := by
 unfold dbSize relSize factSize at h
 refine ⟨by omega, by omega, fun x hx => ?_⟩
 have := mem_le_sum (s := fun x : Fact => x.Values.length) hx
 omega
theorem markText {k : Int} (h0 : 0 ≤ k) (h : k ≤ 4611686018427387904) : Ens (f125 k) fun t => t.length ≤ 64 := by
 unfold f125
 refine Ens.ite (fun _ => Ens.of (by simp)) fun hk => ?_
 refine Ens.bind (Q := fun t => t.length ≤ 20) ?_ fun t ht => ?_
 ·refine iter_up (f := f125_0) 20 (fun j s => (0 ≤ s.1 ∧ s.1 ≤ 4611686018427387904) ∧ s.1 < 10 ^ (20 - j) ∧ s.2.length ≤ j) (fun t => t.length ≤ 20) (fun j s hj hI => ?_) (fun s hI => ?_) (k, []) ⟨⟨h0, h⟩, by simp; omega, by simp⟩
  ·obtain ⟨k, out⟩ := s
   obtain ⟨i0, i1, i2⟩ := hI
   simp only at i0 i1 i2
   simp only [f125_0]
   by_cases hp : k > 0
   ·rw [if_pos hp, cat_ok (by simp; omega), bS]
    refine ⟨_, rfl, ?_⟩
    have e : (10 : Int) ^ (20 - j) = 10 ^ (20 - (j + 1)) * 10 := by rw [← Int.pow_succ]; congr 1; omega
    have q : k.tdiv 10 = k / 10 := Int.tdiv_eq_ediv_of_nonneg i0.1
    have r : w64 (k.tdiv 10) = k / 10 := by
     rw [q, w64_of (by omega)]
    refine ⟨?_, ?_, by simp; omega⟩
    ·simp only [r]; omega
    ·simp only [r]; rw [e] at i1; omega
   ·rw [if_neg hp]
    exact ⟨_, rfl, by simp only; omega⟩
  ·obtain ⟨k, out⟩ := s
   obtain ⟨i0, i1, i2⟩ := hI
   simp only at i0 i1 i2
   simp only [f125_0]
   rw [if_neg (by simp at i1; omega)]
   exact ⟨_, rfl, i2⟩
 ·rw [cat_ok (by simp; omega)]
  exact Ens.of (by simp; omega)
theorem factSize_take {a : List Fact} {i : Nat} (h : i < a.length) : factSize (a.take (i + 1)) = factSize (a.take i) + 1 + a[i].Values.length := by
 unfold factSize
 rw [take_succ' h, List.map_append, List.sum_append, List.length_append]; simp; omega
theorem factSize_le {a : List Fact} {i : Nat} : factSize (a.take i) ≤ factSize a := by
 unfold factSize
 conv => rhs; rw [← List.take_append_drop i a, List.map_append, List.sum_append, List.length_append]
 omega
end
section
variable {α ρ : Type}
def good (q : α → Bool) (r : α → α → Bool) (l : List α) : Bool := decide (∀ i (h : i < l.length), (q l[i] && (decide (i = 0) || r (l[i - 1]'(by omega)) l[i])) = true)
theorem good_of {q : α → Bool} {r : α → α → Bool} {l : List α} (h : good q r l = true) {i : Nat} (hi : i < l.length) : q l[i] = true ∧ (0 < i → r (l[i - 1]'(by omega)) l[i] = true) := by
 have := of_decide_eq_true h i hi
 simp only [Bool.and_eq_true, Bool.or_eq_true, decide_eq_true_eq] at this
 exact ⟨this.1, fun hp => this.2.resolve_left (by omega)⟩
theorem iter_adj {f : Int → Option (Int ⊕ (Unit ⊕ ρ))} (q : α → Bool) (r : α → α → Bool) (L : List α) (c : ρ)
  (hs : ∀ (i : Nat) (h : i < L.length), f (i : Int) = some (if (q L[i] && (decide (i = 0) || r (L[i - 1]'(by omega)) L[i])) = true then .inl ((i + 1 : Nat) : Int) else .inr (.inr c)))
  (he : f (L.length : Int) = some (.inr (.inl ()))) : iter f 0 = some (if good q r L = true then .inl () else .inr c) := by
 obtain ⟨o, h1, h2⟩ := iter_up (f := f) L.length (fun i s => s = (i : Int) ∧ ∀ j (h : j < L.length), j < i → (q L[j] && (decide (j = 0) || r (L[j - 1]'(by omega)) L[j])) = true)
  (fun o => o = if good q r L = true then .inl () else .inr c) (fun i s hi ⟨h, hp⟩ => by
   subst h
   refine ⟨_, hs i hi, ?_⟩
   by_cases hc : (q L[i] && (decide (i = 0) || r (L[i - 1]'(by omega)) L[i])) = true
   ·rw [if_pos hc]
    refine ⟨rfl, fun j hj hlt => ?_⟩
    by_cases e : j = i
    ·subst e; exact hc
    ·exact hp j hj (by omega)
   ·rw [if_neg hc]
    dsimp only
    rw [if_neg]
    intro hg
    exact hc (of_decide_eq_true hg i hi)) (fun s ⟨h, hp⟩ => by
   subst h
   refine ⟨_, he, ?_⟩
   rw [if_pos]
   exact decide_eq_true fun i hi => hp i hi hi) 0 ⟨rfl, fun j _ h => by omega⟩
 rw [h1, h2]
def btw (x low high : Int) : Bool := decide (low ≤ x) && decide (x ≤ high)
theorem specIn {x a b : Int} : f87 x a b = some (btw x a b) := by
 unfold f87 btw
 by_cases h : a ≤ x
 ·rw [if_pos (show x ≥ a from h)]; simp [h]
 ·rw [if_neg (show ¬ x ≥ a from h)]; simp [h]
theorem impIn {x a b : Int} : f59 x a b = some (btw x a b) := by
 unfold f59 btw
 by_cases h : a ≤ x
 ·rw [if_pos h]; simp [h]
 ·rw [if_neg h]; simp [h]
def vRel (r : Relation) : Bool := decide (r.Name.length = 1) && (decide (97 ≤ (r.Name.getD 0 0).toNat) && (decide ((r.Name.getD 0 0).toNat ≤ 122) && (btw r.Arity 1 3 && btw r.KeyLength 0 r.Arity)))
theorem specRel {r : Relation} : f141 r = some (vRel r) := by
 unfold f141 vRel
 by_cases h1 : r.Name.length = 1
 ·rw [if_pos (by omega)]
  have e : ix r.Name 0 = some (r.Name.getD 0 0) := by rw [ix_of (by omega)]; simp [zE (show 0 < r.Name.length by omega)]
  rw [e, bS]
  generalize r.Name.getD 0 0 = c
  by_cases h2 : 97 ≤ c.toNat
  ·rw [if_pos (by omega)]
   by_cases h3 : c.toNat ≤ 122
   ·rw [if_pos (by omega), specIn, bS]
    cases hb : btw r.Arity 1 3
    ·simp
    ·simp [specIn, h1, h2, h3]
   ·rw [if_neg (by omega)]; simp [h3]
  ·rw [if_neg (by omega)]; simp [h2]
 ·rw [if_neg (by omega)]; simp [h1]
theorem impRel {r : Relation} : f173 r = some (vRel r) := by
 unfold f173 vRel
 by_cases h1 : r.Name.length = 1
 ·rw [if_pos (by omega)]
  have e : ix r.Name 0 = some (r.Name.getD 0 0) := by rw [ix_of (by omega)]; simp [zE (show 0 < r.Name.length by omega)]
  rw [e, bS]
  generalize r.Name.getD 0 0 = c
  by_cases h2 : 97 ≤ c.toNat
  ·rw [if_pos (by omega)]
   by_cases h3 : c.toNat ≤ 122
   ·rw [if_pos (by omega), impIn, bS]
    cases hb : btw r.Arity 1 3
    ·simp
    ·simp [impIn, h1, h2, h3]
   ·rw [if_neg (by omega)]; simp [h3]
  ·rw [if_neg (by omega)]; simp [h2]
 ·rw [if_neg (by omega)]; simp [h1]
def vRels (l : List Relation) : Bool := good vRel (fun a b => Op.bytesLess a.Name b.Name) l && decide (l.length ≤ 4)
theorem specRels {l : List Relation} (h : Big l.length) : f95 l = some (vRels l) := by
 unfold f95 vRels
 rw [iter_adj vRel (fun a b => Op.bytesLess a.Name b.Name) l false (fun i hi => by
  simp only [f95_0]
  rw [if_pos (by omega), ix_nat hi, w64_succ (by omega)]
  simp only [bS, specRel]
  cases vRel l[i]
  ·simp
  ·by_cases h0 : i = 0
   ·subst h0; simp
   ·have e : ix l (w64 ((i : Int) - 1)) = some (l[i - 1]'(by omega)) := by rw [w64_of (by omega), show (i : Int) - 1 = ((i - 1 : Nat) : Int) by omega, ix_nat (by omega)]
    simp only [e]
    have : 0 < i := by omega
    cases hb : Op.bytesLess (l[i - 1]'(by omega)).Name l[i].Name <;> simp [h0, this, hb]) (by
  simp only [f95_0]
  rw [if_neg (by omega)])]
 cases good vRel (fun a b => Op.bytesLess a.Name b.Name) l
 ·simp
 ·simp; omega
theorem impRels {l : List Relation} (h : Big l.length) : f132 l = some (vRels l) := by
 unfold f132 vRels
 rw [iter_adj vRel (fun a b => Op.bytesLess a.Name b.Name) l false (fun i hi => by
  simp only [f132_0]
  rw [if_pos (by omega), ix_nat hi, w64_succ (by omega)]
  simp only [bS, impRel]
  cases vRel l[i]
  ·simp
  ·by_cases h0 : i = 0
   ·subst h0; simp
   ·have e : ix l (w64 ((i : Int) - 1)) = some (l[i - 1]'(by omega)) := by rw [w64_of (by omega), show (i : Int) - 1 = ((i - 1 : Nat) : Int) by omega, ix_nat (by omega)]
    simp only [e]
    have : 0 < i := by omega
    cases hb : Op.bytesLess (l[i - 1]'(by omega)).Name l[i].Name <;> simp [h0, this, hb]) (by
  simp only [f132_0]
  rw [if_neg (by omega)])]
 cases good vRel (fun a b => Op.bytesLess a.Name b.Name) l
 ·simp
 ·simp; omega
theorem vRels_len {l : List Relation} (h : vRels l = true) : l.length ≤ 4 := by
 unfold vRels at h; simp only [Bool.and_eq_true, decide_eq_true_eq] at h; exact h.2
def arity (l : List Relation) (r : Int) : Int := (l[r.toNat]?.map (·.Arity)).getD 0
def keyLen (l : List Relation) (r : Int) : Int := (l[r.toNat]?.map (·.KeyLength)).getD 0
def vVals (l : List Int) : Bool := l.all fun v => btw v 0 9
def vFact (l : List Relation) (f : Fact) : Bool := btw f.Relation 0 (l.length - 1) && (decide ((f.Values.length : Int) = arity l f.Relation) && vVals f.Values)
theorem ix_rel {l : List Relation} {r : Int} (h : btw r 0 (l.length - 1) = true) : ∃ x, ix l r = some x ∧ x ∈ l ∧ x.Arity = arity l r ∧ x.KeyLength = keyLen l r := by
 unfold btw at h; simp only [Bool.and_eq_true, decide_eq_true_eq] at h
 have e : l[r.toNat]? = some (l[r.toNat]'(by omega)) := zE _
 refine ⟨l[r.toNat]'(by omega), ?_, List.getElem_mem _, ?_, ?_⟩
 ·rw [ix_of h.1, e]
 ·unfold arity; rw [e]; rfl
 ·unfold keyLen; rw [e]; rfl
theorem specFact {l : List Relation} {f : Fact} (h : Big l.length) (hf : Big f.Values.length) : f94 l f = some (vRels l && vFact l f) := by
 unfold f94 vFact
 rw [specRels h, bS]
 cases vRels l
 ·simp
 ·rw [w64_of (by omega), specIn]
  cases hb : btw f.Relation 0 (l.length - 1)
  ·simp
  ·obtain ⟨x, h1, _, h2, _⟩ := ix_rel hb
   rw [h1]
   by_cases ha : (f.Values.length : Int) = arity l f.Relation
   ·rw [iter_ex f.Values (fun v => !btw v 0 9) false (fun i hi => by
     simp only [f94_0]
     rw [if_pos (by omega), ix_nat hi, w64_succ (by omega)]
     simp only [bS, specIn]
     cases btw f.Values[i] 0 9 <;> simp) (by
     simp only [f94_0]
     rw [if_neg (by omega)])]
    unfold vVals
    rw [any_not]
    cases f.Values.all (fun v => btw v 0 9) <;> simp [h2, ha]
   ·simp [h2, ha]
theorem impVals {l : List Int} (h : Big l.length) : f174 l = some (vVals l) := by
 unfold f174
 rw [indexI (p := fun v => !btw v 0 9) h (fun v _ => by
  unfold f202
  rw [impIn]; cases btw v 0 9 <;> simp)]
 unfold vVals
 rw [any_not]
 cases l.all (fun v => btw v 0 9) <;> simp
theorem impFact {l : List Relation} {f : Fact} (h : Big l.length) (hf : Big f.Values.length) : f133 l f = some (vFact l f) := by
 unfold f133 vFact
 rw [w64_of (by omega), impIn]
 cases hb : btw f.Relation 0 (l.length - 1)
 ·simp
 ·obtain ⟨x, h1, _, h2, _⟩ := ix_rel hb
  rw [h1]
  by_cases ha : (f.Values.length : Int) = arity l f.Relation
  ·simp [h2, ha, impVals hf]
  ·simp [h2, ha]
def cmpL : List Int → List Int → Int
 | [], [] => 0
 | [], _ :: _ => -1
 | _ :: _, [] => 1
 | a :: s, b :: t => if a < b then -1 else if a > b then 1 else cmpL s t
theorem cmpL_step {a b : List Int} {i : Nat} (ha : i < a.length) (hb : i < b.length) : cmpL (a.drop i) (b.drop i) = if a[i] < b[i] then -1 else if a[i] > b[i] then 1 else cmpL (a.drop (i + 1)) (b.drop (i + 1)) := by
 rw [List.drop_eq_getElem_cons ha, List.drop_eq_getElem_cons hb, cmpL]
theorem cmpL_end {a b : List Int} {i : Nat} (h : a.length ≤ i ∨ b.length ≤ i) (hi : i ≤ a.length ∧ i ≤ b.length) : cmpL (a.drop i) (b.drop i) = if a.length < b.length then -1 else if a.length > b.length then 1 else 0 := by
 rcases h with h | h
 ·rw [List.drop_of_length_le h]
  by_cases e : b.length ≤ i
  ·rw [List.drop_of_length_le e, cmpL, if_neg (by omega), if_neg (by omega)]
  ·rw [List.drop_eq_getElem_cons (by omega : i < b.length), cmpL, if_pos (by omega)]
 ·rw [List.drop_of_length_le h]
  by_cases e : a.length ≤ i
  ·rw [List.drop_of_length_le e, cmpL, if_neg (by omega), if_neg (by omega)]
  ·rw [List.drop_eq_getElem_cons (by omega : i < a.length), cmpL, if_neg (by omega), if_pos (by omega)]
theorem specInts {a b : List Int} (ha : Big a.length) (hb : Big b.length) : f90 a b = some (cmpL a b) := by
 unfold f90
 refine Ens.eq (Q := fun r => r = cmpL a b) (Ens.bind (Q := fun o => match o with | .inl _ => (if a.length < b.length then -1 else if a.length > b.length then 1 else 0) = cmpL a b | .inr x => x = cmpL a b) ?_ fun o ho => ?_) _ (fun _ h => h)
 ·refine iter_up (f := f90_0 a b) (min a.length b.length) (fun i s => s = (i : Int) ∧ cmpL (a.drop i) (b.drop i) = cmpL a b) _ (fun i s hi ⟨h, hp⟩ => ?_) (fun s ⟨h, hp⟩ => ?_) 0 ⟨rfl, rfl⟩
  ·subst h
   have h1 : i < a.length := by omega
   have h2 : i < b.length := by omega
   simp only [f90_0]
   rw [if_pos (by omega), ix_nat h1, ix_nat h2, w64_succ (by omega)]
   rw [cmpL_step h1 h2] at hp
   simp only [bS, show (i : Int) < b.length by omega, decide_true, if_true]
   by_cases c1 : a[i] < b[i]
   ·rw [if_pos c1] at hp ⊢
    exact ⟨_, rfl, hp⟩
   ·rw [if_neg c1] at hp ⊢
    by_cases c2 : a[i] > b[i]
    ·rw [if_pos c2] at hp ⊢; exact ⟨_, rfl, hp⟩
    ·rw [if_neg c2] at hp ⊢; exact ⟨_, rfl, rfl, hp⟩
  ·subst h
   rw [cmpL_end (by omega) (by omega)] at hp
   simp only [f90_0]
   by_cases c : ((min a.length b.length : Nat) : Int) < a.length
   ·rw [if_pos c]
    simp only [bS, show ¬ ((min a.length b.length : Nat) : Int) < b.length by omega, decide_false]
    exact ⟨_, rfl, hp⟩
   ·rw [if_neg c]; exact ⟨_, rfl, hp⟩
 ·cases o with
  | inl _ =>
   dsimp only at ho ⊢
   by_cases c1 : a.length < b.length
   ·rw [if_pos c1] at ho; rw [if_pos (by omega)]; exact Ens.of ho
   ·rw [if_neg c1] at ho; rw [if_neg (by omega)]
    by_cases c2 : a.length > b.length
    ·rw [if_pos c2] at ho; rw [if_pos (by omega)]; exact Ens.of ho
    ·rw [if_neg c2] at ho; rw [if_neg (by omega)]; exact Ens.of ho
  | inr x => exact Ens.of ho
theorem cmpInt {a b : Int} : f203 a b = some (if a < b then -1 else if a > b then 1 else 0) := by
 unfold f203 f210
 simp only [ne_eq, not_true_eq_false, decide_false, bS, Bool.false_eq_true, if_false]
 split
 ·rfl
 ·split <;> rfl
theorem impInts {a b : List Int} (ha : Big a.length) (hb : Big b.length) : f176 a b = some (cmpL a b) := by
 unfold f176
 refine Ens.eq (Q := fun r => r = cmpL a b) (Ens.bind (Q := fun o => match o with | .inl _ => (if a.length < b.length then -1 else 0) = cmpL a b | .inr x => x = cmpL a b) ?_ fun o ho => ?_) _ (fun _ h => h)
 ·refine iter_up (f := f176_0 a b) a.length (fun i s => s = (i : Int) ∧ i ≤ b.length ∧ cmpL (a.drop i) (b.drop i) = cmpL a b) _ (fun i s hi ⟨h, hl, hp⟩ => ?_) (fun s ⟨h, hl, hp⟩ => ?_) 0 ⟨rfl, by omega, rfl⟩
  ·subst h
   simp only [f176_0]
   rw [if_pos (by omega), ix_nat hi, w64_succ (by omega)]
   by_cases h2 : i < b.length
   ·rw [bS, if_neg (by omega), ix_nat h2]
    rw [cmpL_step hi h2] at hp
    simp only [bS, cmpInt]
    by_cases c1 : a[i] < b[i]
    ·rw [if_pos c1] at hp ⊢
     rw [if_pos (by omega)]; exact ⟨_, rfl, hp⟩
    ·rw [if_neg c1] at hp ⊢
     by_cases c2 : a[i] > b[i]
     ·rw [if_pos c2] at hp ⊢; rw [if_pos (by omega)]; exact ⟨_, rfl, hp⟩
     ·rw [if_neg c2] at hp ⊢; rw [if_neg (by omega)]; exact ⟨_, rfl, rfl, by omega, hp⟩
   ·rw [bS, if_pos (by omega)]
    rw [cmpL_end (by omega) (by omega), if_neg (by omega), if_pos (by omega)] at hp
    exact ⟨_, rfl, hp⟩
  ·subst h
   simp only [f176_0]
   rw [if_neg (by omega)]
   rw [cmpL_end (by omega) (by omega)] at hp
   refine ⟨_, rfl, ?_⟩
   dsimp only
   rw [← hp]
   by_cases c1 : a.length < b.length
   ·rw [if_pos c1, if_pos c1]
   ·rw [if_neg c1, if_neg c1, if_neg (by omega)]
 ·cases o with
  | inl _ =>
   dsimp only at ho ⊢
   by_cases c1 : a.length < b.length
   ·rw [if_pos c1] at ho; rw [if_pos (by omega)]; exact Ens.of ho
   ·rw [if_neg c1] at ho; rw [if_neg (by omega)]; exact Ens.of ho
  | inr x => exact Ens.of ho
def cmpF (a b : Fact) : Int := if a.Relation < b.Relation then -1 else if a.Relation > b.Relation then 1 else cmpL a.Values b.Values
theorem specCmp {a b : Fact} (ha : Big a.Values.length) (hb : Big b.Values.length) : f44 a b = some (cmpF a b) := by
 unfold f44 cmpF
 rw [specInts ha hb]
 split
 ·rfl
 ·split <;> rfl
theorem impCmp {a b : Fact} (ha : Big a.Values.length) (hb : Big b.Values.length) : f134 a b = some (cmpF a b) := by
 unfold f134 f175 cmpF
 rw [impInts ha hb]
 by_cases c1 : a.Relation < b.Relation
 ·rw [if_pos (by omega), if_pos c1, if_pos c1]; rfl
 ·rw [if_neg c1, if_neg c1]
  by_cases c2 : a.Relation > b.Relation
  ·rw [if_pos (by omega), if_pos c2, if_pos c2]; rfl
  ·rw [if_neg (by omega), if_neg c2]; rfl
def Room (d : Database) : Prop := Big d.Relations.length ∧ Big d.Facts.length ∧ ∀ x ∈ d.Facts, Big x.Values.length
theorem fits_room {d : Database} (h : Fits d) : Room d := ⟨by have := h.1; omega, by have := h.2.1; omega, fun x hx => by have := h.2.2 x hx; omega⟩
def gFacts (d : Database) : Bool := good (vFact d.Relations) (fun a b => decide (cmpF a b < 0)) d.Facts
def vDb (d : Database) : Bool := vRels d.Relations && (decide (d.Facts.length ≤ 14) && gFacts d)
theorem good_congr {q q' : α → Bool} {r : α → α → Bool} {l : List α} (h : ∀ a ∈ l, q a = q' a) : good q r l = good q' r l := by
 unfold good
 congr 1
 apply propext
 constructor
 ·intro g i hi; rw [← h _ (List.getElem_mem hi)]; exact g i hi
 ·intro g i hi; rw [h _ (List.getElem_mem hi)]; exact g i hi
theorem specDb {d : Database} (h : Room d) : f49 d = some (vDb d) := by
 obtain ⟨h1, h2, h3⟩ := h
 unfold f49
 rw [iter_adj (fun f => vRels d.Relations && vFact d.Relations f) (fun a b => decide (cmpF a b < 0)) d.Facts false (fun i hi => by
  simp only [f49_0]
  rw [if_pos (by omega), ix_nat hi, w64_succ (by omega)]
  simp only [bS, specFact h1 (h3 _ (List.getElem_mem hi))]
  cases (vRels d.Relations && vFact d.Relations d.Facts[i])
  ·simp
  ·by_cases h0 : i = 0
   ·subst h0; simp
   ·have e : ix d.Facts (w64 ((i : Int) - 1)) = some (d.Facts[i - 1]'(by omega)) := by rw [w64_of (by omega), show (i : Int) - 1 = ((i - 1 : Nat) : Int) by omega, ix_nat (by omega)]
    simp only [e, bS, specCmp (h3 _ (List.getElem_mem (show i - 1 < d.Facts.length by omega))) (h3 _ (List.getElem_mem hi))]
    have : 0 < i := by omega
    by_cases hb : cmpF (d.Facts[i - 1]'(by omega)) d.Facts[i] < 0
    ·simp [h0, this, hb, Int.not_le.2 hb]
    ·simp [h0, this, hb, show 0 ≤ cmpF (d.Facts[i - 1]'(by omega)) d.Facts[i] by omega]) (by
  simp only [f49_0]
  rw [if_neg (by omega)])]
 unfold vDb
 rw [specRels h1]
 cases hv : vRels d.Relations
 ·split <;> simp
 ·have e : good (fun f => true && vFact d.Relations f) (fun a b => decide (cmpF a b < 0)) d.Facts = gFacts d := good_congr fun a _ => Bool.true_and _
  rw [e]
  cases gFacts d
  ·simp
  ·simp; omega
theorem impDb {d : Database} (h : Room d) : f84 d = some (vDb d) := by
 obtain ⟨h1, h2, h3⟩ := h
 unfold f84 vDb
 rw [impRels h1, bS]
 cases vRels d.Relations
 ·simp
 ·by_cases hn : d.Facts.length ≤ 14
  ·rw [iter_adj (vFact d.Relations) (fun a b => decide (cmpF a b < 0)) d.Facts false (fun i hi => by
    simp only [f84_0]
    rw [if_pos (by omega), ix_nat hi, w64_succ (by omega)]
    simp only [bS, impFact h1 (h3 _ (List.getElem_mem hi))]
    cases vFact d.Relations d.Facts[i]
    ·simp
    ·by_cases h0 : i = 0
     ·subst h0; simp
     ·have e : ix d.Facts (w64 ((i : Int) - 1)) = some (d.Facts[i - 1]'(by omega)) := by rw [w64_of (by omega), show (i : Int) - 1 = ((i - 1 : Nat) : Int) by omega, ix_nat (by omega)]
      simp only [e, bS, impCmp (h3 _ (List.getElem_mem (show i - 1 < d.Facts.length by omega))) (h3 _ (List.getElem_mem hi))]
      have : 0 < i := by omega
      by_cases hb : cmpF (d.Facts[i - 1]'(by omega)) d.Facts[i] < 0
      ·simp [h0, this, hb, Int.not_le.2 hb]
      ·simp [h0, this, hb, show 0 ≤ cmpF (d.Facts[i - 1]'(by omega)) d.Facts[i] by omega]) (by
    simp only [f84_0]
    rw [if_neg (by omega)])]
   change _ = some (true && (decide (d.Facts.length ≤ 14) && good (vFact d.Relations) (fun a b => decide (cmpF a b < 0)) d.Facts))
   cases good (vFact d.Relations) (fun a b => decide (cmpF a b < 0)) d.Facts
   ·simp
   ·simp [hn]; omega
  ·simp [hn]; omega
def asc (n : Int) (l : List Int) : Bool := good (fun v => btw v 0 (n - 1)) (fun a b => decide (a < b)) l
theorem specSet {d : Database} {l : List Int} (hd : Big d.Facts.length) (h : Big l.length) : f89 d l = some (asc d.Facts.length l) := by
 unfold f89
 rw [iter_adj (fun v => btw v 0 ((d.Facts.length : Int) - 1)) (fun a b => decide (a < b)) l false (fun i hi => by
  simp only [f89_0]
  rw [if_pos (by omega), ix_nat hi, w64_succ (by omega), w64_of (n := (d.Facts.length : Int) - 1) (by omega)]
  simp only [bS, specIn]
  cases btw l[i] 0 ((d.Facts.length : Int) - 1)
  ·simp
  ·by_cases h0 : i = 0
   ·subst h0; simp
   ·have e : ix l (w64 ((i : Int) - 1)) = some (l[i - 1]'(by omega)) := by rw [w64_of (by omega), show (i : Int) - 1 = ((i - 1 : Nat) : Int) by omega, ix_nat (by omega)]
    simp only [e]
    have : 0 < i := by omega
    by_cases hb : l[i - 1]'(by omega) < l[i]
    ·simp [h0, this, hb, Int.not_le.2 hb]
    ·simp [h0, this, hb, Int.not_lt.1 hb]) (by
  simp only [f89_0]
  rw [if_neg (by omega)])]
 unfold asc
 cases good (fun v => btw v 0 ((d.Facts.length : Int) - 1)) (fun a b => decide (a < b)) l <;> simp
theorem impSet {l : List Int} {n : Nat} (hd : Big n) (h : Big l.length) : f85 l n = some (asc n l) := by
 unfold f85
 rw [iter_adj (fun v => btw v 0 ((n : Int) - 1)) (fun a b => decide (a < b)) l false (fun i hi => by
  simp only [f85_0]
  rw [if_pos (by omega), ix_nat hi, w64_succ (by omega), w64_of (n := (n : Int) - 1) (by omega)]
  simp only [bS, impIn]
  cases btw l[i] 0 ((n : Int) - 1)
  ·simp
  ·by_cases h0 : i = 0
   ·subst h0; simp
   ·have e : ix l (w64 ((i : Int) - 1)) = some (l[i - 1]'(by omega)) := by rw [w64_of (by omega), show (i : Int) - 1 = ((i - 1 : Nat) : Int) by omega, ix_nat (by omega)]
    simp only [e]
    have : 0 < i := by omega
    by_cases hb : l[i - 1]'(by omega) < l[i]
    ·simp [h0, this, hb, Int.not_le.2 hb]
    ·simp [h0, this, hb, Int.not_lt.1 hb]) (by
  simp only [f85_0]
  rw [if_neg (by omega)])]
 unfold asc
 cases good (fun v => btw v 0 ((n : Int) - 1)) (fun a b => decide (a < b)) l <;> simp
end
section
variable {α ρ : Type}
theorem nodup_le : ∀ {n : Nat} {H : List Int}, H.Nodup → (∀ v ∈ H, 0 ≤ v ∧ v < n) → H.length ≤ n
 | 0, [], _, _ => by simp
 | 0, a :: H, _, h => by have := h a (by simp); omega
 | n + 1, H, hd, h => by
  have h1 : (H.erase ((n : Nat) : Int)).length ≤ n := nodup_le (hd.erase _) fun v hv => by
   have h2 := h v (List.mem_of_mem_erase hv)
   have h3 := (List.Nodup.mem_erase_iff hd).1 hv
   have := h3.1
   omega
  have h2 := List.length_erase (l := H) (a := ((n : Nat) : Int))
  split at h2 <;> omega
theorem cmpL_trans : ∀ {a b c : List Int}, cmpL a b < 0 → cmpL b c < 0 → cmpL a c < 0
 | [], _, [], h1, h2 => by
  rename_i b
  cases b with
  | nil => simp [cmpL] at h1
  | cons y b => simp [cmpL] at h2
 | [], _, _ :: _, h1, h2 => by simp [cmpL]
 | _ :: _, [], _, h1, h2 => by simp [cmpL] at h1
 | _ :: _, _ :: _, [], h1, h2 => by simp [cmpL] at h2
 | x :: a, y :: b, z :: c, h1, h2 => by
  rw [cmpL] at h1 h2 ⊢
  by_cases c1 : x < y
  ·by_cases c2 : y < z
   ·rw [if_pos (by omega)]; omega
   ·rw [if_neg c2] at h2
    by_cases c3 : y > z
    ·rw [if_pos c3] at h2; omega
    ·rw [if_pos (by omega)]; omega
  ·rw [if_neg c1] at h1
   by_cases c3 : x > y
   ·rw [if_pos c3] at h1; omega
   ·rw [if_neg c3] at h1
    by_cases c2 : y < z
    ·rw [if_pos (by omega)]; omega
    ·rw [if_neg c2] at h2
     by_cases c4 : y > z
     ·rw [if_pos c4] at h2; omega
     ·rw [if_neg c4] at h2
      rw [if_neg (by omega), if_neg (by omega)]
      exact cmpL_trans h1 h2
theorem cmpL_conv : ∀ {m : Nat} {a b c : List Int}, cmpL a b < 0 → cmpL b c < 0 → m ≤ a.length → m ≤ b.length → m ≤ c.length → a.take m = c.take m → a.take m = b.take m
 | 0, _, _, _, _, _, _, _, _, _ => by simp
 | m + 1, [], _, _, _, _, h, _, _, _ => by simp at h
 | m + 1, _ :: _, [], _, _, _, _, h, _, _ => by simp at h
 | m + 1, _ :: _, _ :: _, [], _, _, _, _, h, _ => by simp at h
 | m + 1, x :: a, y :: b, z :: c, h1, h2, l1, l2, l3, h => by
  simp only [List.take_succ_cons, List.cons.injEq] at h ⊢
  obtain ⟨rfl, h⟩ := h
  simp only [List.length_cons] at l1 l2 l3
  rw [cmpL] at h1 h2
  have e : x = y := by
   by_cases c1 : x < y
   ·rw [if_neg (by omega), if_pos (by omega)] at h2; omega
   ·rw [if_neg c1] at h1
    by_cases c2 : x > y
    ·rw [if_pos c2] at h1; omega
    ·omega
  subst e
  rw [if_neg (by omega), if_neg (by omega)] at h1 h2
  exact ⟨rfl, cmpL_conv h1 h2 (by omega) (by omega) (by omega) h⟩
theorem cmpL_eq : ∀ {a b : List Int}, cmpL a b = 0 ↔ a = b
 | [], [] => by simp [cmpL]
 | [], _ :: _ => by simp [cmpL]
 | _ :: _, [] => by simp [cmpL]
 | x :: a, y :: b => by
  rw [cmpL]
  by_cases c1 : x < y
  ·rw [if_pos c1]; simp; intro h; omega
  ·rw [if_neg c1]
   by_cases c2 : x > y
   ·rw [if_pos c2]; simp; intro h; omega
   ·rw [if_neg c2, cmpL_eq]
    simp only [List.cons.injEq]
    exact ⟨fun h => ⟨by omega, h⟩, fun h => h.2⟩
theorem cmpF_trans {a b c : Fact} (h1 : cmpF a b < 0) (h2 : cmpF b c < 0) : cmpF a c < 0 := by
 unfold cmpF at h1 h2 ⊢
 by_cases c1 : a.Relation < b.Relation
 ·by_cases c2 : b.Relation > c.Relation
  ·rw [if_neg (by omega), if_pos c2] at h2; omega
  ·rw [if_pos (by omega)]; omega
 ·rw [if_neg c1] at h1
  by_cases c3 : a.Relation > b.Relation
  ·rw [if_pos c3] at h1; omega
  ·rw [if_neg c3] at h1
   by_cases c2 : b.Relation < c.Relation
   ·rw [if_pos (by omega)]; omega
   ·rw [if_neg c2] at h2
    by_cases c4 : b.Relation > c.Relation
    ·rw [if_pos c4] at h2; omega
    ·rw [if_neg c4] at h2
     rw [if_neg (by omega), if_neg (by omega)]
     exact cmpL_trans h1 h2
def keyOf (l : List Relation) (a : Fact) : List Int := a.Values.take (keyLen l a.Relation).toNat
def same (l : List Relation) (a b : Fact) : Bool := decide (a.Relation = b.Relation) && decide (keyOf l a = keyOf l b)
theorem vRel_mem {l : List Relation} (h : vRels l = true) {r : Relation} (hr : r ∈ l) : vRel r = true := by
 unfold vRels at h; simp only [Bool.and_eq_true] at h
 obtain ⟨i, hi, rfl⟩ := List.mem_iff_getElem.1 hr
 exact (good_of h.1 hi).1
theorem key_le {l : List Relation} {f : Fact} (h : vRels l = true) (hf : vFact l f = true) : ∃ x, ix l f.Relation = some x ∧ x.KeyLength = keyLen l f.Relation ∧ 0 ≤ keyLen l f.Relation ∧ keyLen l f.Relation ≤ f.Values.length := by
 unfold vFact at hf; simp only [Bool.and_eq_true, decide_eq_true_eq] at hf
 obtain ⟨x, h1, h2, h3, h4⟩ := ix_rel hf.1
 have := vRel_mem h h2
 unfold vRel btw at this
 simp only [Bool.and_eq_true, decide_eq_true_eq] at this
 exact ⟨x, h1, h4, by omega, by omega⟩
theorem specKey {l : List Relation} {f : Fact} (hl : Big l.length) (hv : f.Values.length ≤ 1048576) (h : vRels l = true) (hf : vFact l f = true) : f135 l f = some (keyOf l f) := by
 unfold f135
 rw [specFact hl (by omega), h, hf]
 obtain ⟨x, h1, h2, h3, h4⟩ := key_le h hf
 simp only [Bool.and_self, bS, not_true_eq_false, if_false, h1]
 rw [h2, cutL_ok (by omega) h3 h4, bS, app_fits (by simp; omega)]
 simp [keyOf]
theorem specSame {l : List Relation} {a b : Fact} (hl : Big l.length) (ha : a.Values.length ≤ 1048576) (hb : b.Values.length ≤ 1048576) (h : vRels l = true) (va : vFact l a = true) (vb : vFact l b = true) : f88 l a b = some (same l a b) := by
 unfold f88 same
 rw [specFact hl (by omega), specFact hl (by omega), h, va, vb, specKey hl ha h va, specKey hl hb h vb]
 have k1 : Big (keyOf l a).length := by unfold keyOf; simp; omega
 have k2 : Big (keyOf l b).length := by unfold keyOf; simp; omega
 by_cases c : a.Relation = b.Relation
 ·simp only [Bool.and_self, bS, if_true, c, specInts k1 k2, decide_true, Bool.true_and]
  by_cases e : keyOf l a = keyOf l b
  ·rw [cmpL_eq.2 e]; simp [e]
  ·have : ¬ cmpL (keyOf l a) (keyOf l b) = 0 := fun h => e (cmpL_eq.1 h)
   simp [this, e]
 ·simp [c]
theorem eqSl {a b : List Int} (ha : Big a.length) : f161 a b = some (decide (a = b)) := by
 unfold f161
 by_cases hl : a.length = b.length
 ·rw [if_neg (by omega)]
  rw [iter_ex (List.range a.length) (fun i => decide (a[i]? ≠ b[i]?)) false (fun i hi => by
   simp only [List.length_range] at hi
   simp only [f161_0, List.getElem_range]
   rw [if_pos (by omega), ix_nat hi, ix_nat (by omega : i < b.length), w64_succ (by omega), zE hi, zE (by omega : i < b.length)]
   by_cases c : a[i] = b[i]'(by omega)
   ·simp [c]
   ·simp [c]) (by
   simp only [f161_0]
   rw [if_neg (by simp)])]
  by_cases e : a = b
  ·subst e; simp
  ·have : ((List.range a.length).any fun i => decide (a[i]? ≠ b[i]?)) = true := by
    apply Classical.byContradiction
    intro hn
    apply e
    apply List.ext_getElem hl
    intro i h1 h2
    apply Classical.byContradiction
    intro hne
    exact hn (List.any_eq_true.2 ⟨i, List.mem_range.2 h1, by simp [zE h1, zE h2, hne]⟩)
   rw [if_pos this]; simp [e]
 ·rw [if_pos (by omega)]
  have : a ≠ b := fun h => hl (by rw [h])
  simp [this]
theorem impSame {l : List Relation} {a b : Fact} (ha : a.Values.length ≤ 1048576) (hb : b.Values.length ≤ 1048576) (h : vRels l = true) (va : vFact l a = true) (vb : vFact l b = true) : f108 l a b = some (same l a b) := by
 unfold f108 same
 obtain ⟨x, h1, h2, h3, h4⟩ := key_le h va
 obtain ⟨x', h1', h2', h3', h4'⟩ := key_le h vb
 by_cases c : a.Relation = b.Relation
 ·rw [if_neg (by simp [c]), h1, bS, h2, cutL_ok (by omega) h3 h4, bS, cutL_ok (by omega) h3 (by rw [c]; exact h4'), bS, eqSl (by simp; omega)]
  simp [keyOf, c]
 ·rw [if_pos c]; simp [c]
structure Kin (n : Nat) (sk : Nat → Nat → Bool) : Prop where
 refl : ∀ i, i < n → sk i i = true
 symm : ∀ i k, i < n → k < n → sk i k = sk k i
 trans : ∀ i j k, i < n → j < n → k < n → sk i j = true → sk j k = true → sk i k = true
 conv : ∀ i j k, i ≤ j → j ≤ k → k < n → sk i k = true → sk i j = true
variable {n : Nat} {sk : Nat → Nat → Bool}
def blk (sk : Nat → Nat → Bool) (i x : Nat) : List Int := (List.range x).flatMap fun k => if sk i k = true then [((k : Nat) : Int)] else []
def start (sk : Nat → Nat → Bool) (i : Nat) : Bool := (List.range i).all fun k => !sk k i
def blks (sk : Nat → Nat → Bool) (y x : Nat) : List (List Int) := (List.range y).flatMap fun i => if start sk i = true then [blk sk i x] else []
theorem blk_succ {i x : Nat} : blk sk i (x + 1) = blk sk i x ++ if sk i x = true then [((x : Nat) : Int)] else [] := by simp [blk, List.range_succ]
theorem blks_succ {y x : Nat} : blks sk (y + 1) x = blks sk y x ++ if start sk y = true then [blk sk y x] else [] := by simp [blks, List.range_succ]
theorem blk_len {i x : Nat} : (blk sk i x).length ≤ x := by
 induction x with
 | zero => simp [blk]
 | succ x ih => rw [blk_succ, List.length_append]; split <;> simp <;> omega
theorem blks_len {y x : Nat} : (blks sk y x).length ≤ y := by
 induction y with
 | zero => simp [blks]
 | succ y ih => rw [blks_succ, List.length_append]; split <;> simp <;> omega
theorem blk_none {i s : Nat} (h : ∀ k, k < s → sk i k = false) : blk sk i s = [] := by
 induction s with
 | zero => simp [blk]
 | succ s ih => rw [blk_succ, ih fun k hk => h k (by omega), h s (by omega)]; simp
theorem blk_first {i s x : Nat} (h : ∀ k, k < s → sk i k = false) (hs : sk i s = true) (hx : s < x) : ∃ t, blk sk i x = (s : Int) :: t := by
 induction x with
 | zero => omega
 | succ x ih =>
  rw [blk_succ]
  by_cases e : s = x
  ·subst e; rw [blk_none h, if_pos hs]; exact ⟨[], rfl⟩
  ·obtain ⟨t, ht⟩ := ih (by omega)
   rw [ht]; exact ⟨_, rfl⟩
theorem start_iff {i : Nat} : start sk i = true ↔ ∀ k, k < i → sk k i = false := by
 unfold start; rw [List.all_eq_true]
 simp only [List.mem_range, Bool.not_eq_true']
theorem not_start {i : Nat} (h : start sk i = false) : ∃ s, s < i ∧ sk s i = true ∧ ∀ k, k < s → sk k i = false := by
 have : ∃ s, s < i ∧ sk s i = true := by
  apply Classical.byContradiction
  intro hn
  have : start sk i = true := start_iff.2 fun k hk => by
   cases hb : sk k i
   ·rfl
   ·exact (hn ⟨k, hk, hb⟩).elim
  rw [h] at this; cases this
 obtain ⟨s, h1, h2⟩ := this
 induction s using Nat.strongRecOn with
 | _ s ih =>
  by_cases c : ∃ k, k < s ∧ sk k i = true
  ·obtain ⟨k, hk, hc⟩ := c
   exact ih k hk (by omega) hc
  ·refine ⟨s, h1, h2, fun k hk => ?_⟩
   cases hb : sk k i
   ·rfl
   ·exact (c ⟨k, hk, hb⟩).elim
theorem blk_head (K : Kin n sk) {i x : Nat} (hi : i < n) (hx : x ≤ n) (hix : i < x) : ∃ (s : Nat) (t : List Int), blk sk i x = (s : Int) :: t ∧ s ≤ i ∧ (s = i ↔ start sk i = true) := by
 cases hs : start sk i
 ·obtain ⟨s, h1, h2, h3⟩ := not_start hs
  obtain ⟨t, ht⟩ := blk_first (sk := sk) (i := i) (s := s) (x := x) (fun k hk => by rw [K.symm i k hi (by omega)]; exact h3 k hk) (by rw [K.symm i s hi (by omega)]; exact h2) (by omega)
  refine ⟨s, t, ht, by omega, ?_⟩
  simp; omega
 ·obtain ⟨t, ht⟩ := blk_first (sk := sk) (i := i) (s := i) (x := x) (fun k hk => by rw [K.symm i k hi (by omega)]; exact start_iff.1 hs k hk) (K.refl i hi) hix
  exact ⟨i, t, ht, by omega, by simp⟩
theorem blks_bnd {y x : Nat} (h : ∀ i, i < y → start sk i = true → sk i x = false) : blks sk y (x + 1) = blks sk y x := by
 induction y with
 | zero => simp [blks]
 | succ y ih =>
  rw [blks_succ, blks_succ, ih fun i hi => h i (by omega)]
  by_cases c : start sk y = true
  ·rw [if_pos c, if_pos c, blk_succ, h y (by omega) c]; simp
  ·rw [if_neg c, if_neg c]
theorem blks_nost {s y x : Nat} (hs : s ≤ y) (h : ∀ i, s ≤ i → i < y → start sk i = false) : blks sk y x = blks sk s x := by
  induction y with
  | zero => have : s = 0 := by omega
            subst this; rfl
  | succ y ih =>
    by_cases e : s = y + 1
    · subst e; rfl
    · rw [blks_succ, h y (by omega) (by omega)]
      simp [ih (by omega) fun i h1 h2 => h i h1 (by omega)]
theorem blks_start (K : Kin n sk) {x : Nat} (hx : x < n) (h : start sk x = true) : blks sk (x + 1) (x + 1) = blks sk x x ++ [[(x : Int)]] := by
 rw [blks_succ, if_pos h, blks_bnd fun i hi _ => start_iff.1 h i hi, blk_succ, K.refl x hx, if_pos rfl, blk_none fun k hk => by rw [K.symm x k hx (by omega)]; exact start_iff.1 h k hk]
 rfl
theorem blks_more (K : Kin n sk) {x : Nat} (hx : x < n) (h : start sk x = false) : ∃ P B, blks sk x x = P ++ [B] ∧ blks sk (x + 1) (x + 1) = P ++ [B ++ [(x : Int)]] ∧ B.length ≤ x ∧ ∃ s t, s < x ∧ B = ((s : Nat) : Int) :: t ∧ sk s x = true := by
 obtain ⟨s, h1, h2, h3⟩ := not_start h
 have hst : start sk s = true := start_iff.2 fun k hk => by
  cases hb : sk k s
  ·rfl
  ·have := K.trans k s x (by omega) (by omega) hx hb h2
   rw [h3 k hk] at this; cases this
 have hno : ∀ i, s + 1 ≤ i → i < x + 1 → start sk i = false := fun i a b => by
  cases hb : start sk i
  ·rfl
  ·have := start_iff.1 hb s (by omega)
   rw [K.conv s i x (by omega) (by omega) hx h2] at this; cases this
 refine ⟨blks sk s x, blk sk s x, ?_, ?_, blk_len, ?_⟩
 ·rw [blks_nost (s := s + 1) (by omega) fun i a b => hno i a (by omega), blks_succ, if_pos hst]
 ·rw [blks_nost (s := s + 1) (by omega) hno, blks_succ, if_pos hst, blks_bnd fun i hi _ => h3 i hi, blk_succ, if_pos h2]
 ·obtain ⟨s', t, e1, e2, e3⟩ := blk_head K (i := s) (x := x) (by omega) (by omega) h1
  have := e3.2 hst
  subst this
  exact ⟨s', t, h1, e1, h2⟩
theorem blks_mem (K : Kin n sk) {y x : Nat} (hy : y ≤ x) (hx : x ≤ n) {B : List Int} (h : B ∈ blks sk y x) : B.length ≤ x ∧ ∃ s t, s < y ∧ B = ((s : Nat) : Int) :: t := by
 unfold blks at h
 rw [List.mem_flatMap] at h
 obtain ⟨i, hi, h⟩ := h
 rw [List.mem_range] at hi
 by_cases c : start sk i = true
 ·rw [if_pos c, List.mem_singleton] at h
  subst h
  refine ⟨blk_len, ?_⟩
  obtain ⟨s', t, e1, e2, e3⟩ := blk_head K (i := i) (x := x) (by omega) (by omega) (by omega)
  exact ⟨s', t, by omega, e1⟩
 ·rw [if_neg c] at h; cases h
def pick (c : Int → Bool) (bs : List (List Int)) : List Int := bs.filterMap fun b => b.find? c
def picks (c : Int → Bool) (bs : List (List Int)) : List Int × Bool := if (bs.all fun b => (b.find? c).isSome) = true then (pick c bs, true) else ([], false)
end
section
variable {d : Database}
def skOf (d : Database) (i k : Nat) : Bool := same d.Relations (d.Facts.getD i default) (d.Facts.getD k default)
theorem sk_get {i k : Nat} (hi : i < d.Facts.length) (hk : k < d.Facts.length) : skOf d i k = same d.Relations d.Facts[i] d.Facts[k] := by
 unfold skOf
 rw [zD, zD, zE hi, zE hk]; rfl
theorem vDb_of (h : vDb d = true) : vRels d.Relations = true ∧ d.Facts.length ≤ 14 ∧ gFacts d = true := by
 unfold vDb at h; simp only [Bool.and_eq_true, decide_eq_true_eq] at h; exact h
theorem fact_ok (h : vDb d = true) {i : Nat} (hi : i < d.Facts.length) : vFact d.Relations d.Facts[i] = true := (good_of (vDb_of h).2.2 hi).1
theorem facts_up (h : vDb d = true) {i k : Nat} (hik : i < k) (hk : k < d.Facts.length) : cmpF (d.Facts[i]'(by omega)) d.Facts[k] < 0 := by
 induction k with
 | zero => omega
 | succ k ih =>
  have h1 := (good_of (vDb_of h).2.2 hk).2 (by omega)
  simp only [Nat.add_sub_cancel, decide_eq_true_eq] at h1
  by_cases e : i = k
  ·subst e; exact h1
  ·exact cmpF_trans (ih (by omega) (by omega)) h1
theorem kin (h : vDb d = true) : Kin d.Facts.length (skOf d) where
 refl i hi := by rw [sk_get hi hi]; simp [same]
 symm i k hi hk := by
  rw [sk_get hi hk, sk_get hk hi]; unfold same
  congr 1
  ·exact decide_eq_decide.2 ⟨fun h => h.symm, fun h => h.symm⟩
  ·exact decide_eq_decide.2 ⟨fun h => h.symm, fun h => h.symm⟩
 trans i j k hi hj hk h1 h2 := by
  rw [sk_get hi hj] at h1; rw [sk_get hj hk] at h2; rw [sk_get hi hk]
  unfold same at *
  simp only [Bool.and_eq_true, decide_eq_true_eq] at *
  exact ⟨h1.1.trans h2.1, h1.2.trans h2.2⟩
 conv i j k hij hjk hk hs := by
  by_cases e1 : i = j
  ·subst e1
   rw [sk_get (by omega) (by omega)]; simp [same]
  by_cases e2 : j = k
  ·subst e2; exact hs
  have hi : i < d.Facts.length := by omega
  have hj : j < d.Facts.length := by omega
  have c1 := facts_up h (i := i) (k := j) (by omega) hj
  have c2 := facts_up h (i := j) (k := k) (by omega) hk
  rw [sk_get hi hk] at hs; rw [sk_get hi hj]
  have b1 := key_le (vDb_of h).1 (fact_ok h hi)
  have b2 := key_le (vDb_of h).1 (fact_ok h hj)
  have b3 := key_le (vDb_of h).1 (fact_ok h hk)
  generalize d.Facts[i] = a at *
  generalize d.Facts[j] = b at *
  generalize d.Facts[k] = c at *
  obtain ⟨_, _, _, _, b1⟩ := b1
  obtain ⟨_, _, _, _, b2⟩ := b2
  obtain ⟨_, _, _, _, b3⟩ := b3
  unfold same keyOf at *
  simp only [Bool.and_eq_true, decide_eq_true_eq] at *
  obtain ⟨r, hk⟩ := hs
  unfold cmpF at c1 c2
  have r1 : a.Relation = b.Relation := by
   by_cases q1 : a.Relation < b.Relation
   ·rw [if_neg (by omega), if_pos (by omega)] at c2; omega
   ·rw [if_neg q1] at c1
    by_cases q2 : a.Relation > b.Relation
    ·rw [if_pos q2] at c1; omega
    ·omega
  rw [if_neg (by omega), if_neg (by omega)] at c1 c2
  rw [← r] at hk b3; rw [← r1] at b2
  refine ⟨r1, ?_⟩
  rw [← r1]
  exact cmpL_conv c1 c2 (by omega) (by omega) (by omega) hk
variable (h : vDb d = true) (hf : Fits d)
theorem fits_val {i : Nat} (hf : Fits d) (hi : i < d.Facts.length) : d.Facts[i].Values.length ≤ 1048576 := hf.2.2 _ (List.getElem_mem hi)
include h hf
theorem blockSpec {i : Nat} (hi : i < d.Facts.length) : f41 d i = some (blk (skOf d) i d.Facts.length) := by
 have hn := (vDb_of h).2.1
 unfold f41
 rw [iter_flat (List.range d.Facts.length) (fun k => if skOf d i k = true then [((k : Nat) : Int)] else []) id (fun k hk => by
  simp only [List.length_range] at hk
  have el : (((List.range d.Facts.length).take k).flatMap fun k => if skOf d i k = true then [((k : Nat) : Int)] else []).length ≤ k := by
   have := take_flat_le (l := List.range d.Facts.length) (i := k) (g := fun k => if skOf d i k = true then [((k : Nat) : Int)] else []) (m := 1) (fun a => by split <;> simp)
   omega
  generalize ((List.range d.Facts.length).take k).flatMap (fun k => if skOf d i k = true then [((k : Nat) : Int)] else []) = out at el ⊢
  simp only [List.getElem_range]
  simp only [f41_0]
  have eb : btw (i : Int) 0 (w64 ((d.Facts.length : Int) - 1)) = true := by rw [w64_of (by omega)]; unfold btw; simp; omega
  rw [if_pos (by omega), specDb (fits_room hf), h]
  simp only [bS, if_true, specIn, eb]
  rw [ix_nat hi, ix_nat hk, w64_succ (by omega)]
  simp only [bS, specSame (fits_room hf).1 (fits_val hf hi) (fits_val hf hk) (vDb_of h).1 (fact_ok h hi) (fact_ok h hk)]
  rw [← sk_get hi hk]
  cases skOf d i k
  ·simp
  ·simp only [if_true]
   rw [app_fits (by simp; omega)]; simp) (by
  simp only [f41_0]
  rw [if_neg (by simp)]; rfl)]
 rfl
theorem blocksSpec : f63 d = some (blks (skOf d) d.Facts.length d.Facts.length) := by
 have hn := (vDb_of h).2.1
 unfold f63
 rw [iter_flat (List.range d.Facts.length) (fun i => if start (skOf d) i = true then [blk (skOf d) i d.Facts.length] else []) id (fun i hi => by
  simp only [List.length_range] at hi
  have el : (((List.range d.Facts.length).take i).flatMap fun i => if start (skOf d) i = true then [blk (skOf d) i d.Facts.length] else []).length ≤ i := by
   have := take_flat_le (l := List.range d.Facts.length) (i := i) (g := fun i => if start (skOf d) i = true then [blk (skOf d) i d.Facts.length] else []) (m := 1) (fun a => by split <;> simp)
   omega
  generalize ((List.range d.Facts.length).take i).flatMap (fun i => if start (skOf d) i = true then [blk (skOf d) i d.Facts.length] else []) = out at el ⊢
  simp only [List.getElem_range]
  simp only [f63_0]
  obtain ⟨s, t, e1, e2, e3⟩ := blk_head (kin h) hi (Nat.le_refl _) hi
  have e0 : ix (blk (skOf d) i d.Facts.length) 0 = some ((s : Nat) : Int) := by rw [e1]; rfl
  rw [if_pos (by omega), specDb (fits_room hf), h]
  simp only [bS, if_true, blockSpec h hf hi, e0]
  rw [w64_succ (by omega)]
  by_cases c : start (skOf d) i = true
  ·rw [if_pos (by have := e3.2 c; omega), if_pos c, app_fits (by simp; omega)]; rfl
  ·rw [if_neg (by intro q; exact c (e3.1 (by omega))), if_neg c]; simp) (by
  simp only [f63_0]
  rw [if_neg (by simp)]; rfl)]
 rfl
theorem blocksImp : f56 d = some (blks (skOf d) d.Facts.length d.Facts.length) := by
 have hn := (vDb_of h).2.1
 unfold f56
 have := iter_steps (f := f56_0 d) (fun i => (blks (skOf d) i i, (i : Int))) d.Facts.length (blks (skOf d) d.Facts.length d.Facts.length) (fun x hx => by
  have hl := blks_len (sk := skOf d) (y := x) (x := x)
  simp only [f56_0]
  rw [if_pos (by omega), ix_nat hx, bS, w64_succ (by omega), w64_of (by omega)]
  cases hs : start (skOf d) x
  ·obtain ⟨P, B, e1, e2, e3, s, t, h1, e4, h2⟩ := blks_more (kin h) hx hs
   rw [e1] at hl ⊢
   rw [e2]
   simp only [List.length_append, List.length_singleton] at hl ⊢
   have q : ((P.length + 1 : Nat) : Int) - 1 = ((P.length : Nat) : Int) := by omega
   rw [q, if_pos (by omega), ix_nat (by simp)]
   have e0 : ix B 0 = some ((s : Nat) : Int) := by rw [e4]; rfl
   simp only [List.getElem_concat_length, bS, e0]
   rw [ix_nat (by omega : s < d.Facts.length), bS, impSame (fits_val hf _) (fits_val hf hx) (vDb_of h).1 (fact_ok h _) (fact_ok h hx)]
   rw [← sk_get (by omega : s < d.Facts.length) hx, h2]
   simp only [bS, if_true]
   rw [app_fits (by simp; omega)]
   simp
  ·rw [blks_start (kin h) hx hs]
   by_cases c : blks (skOf d) x x = []
   ·rw [c]
    simp only [List.length_nil]
    rw [if_neg (by omega)]
    simp only [bS, Bool.false_eq_true, if_false]
    rw [app_fits (by simp)]; simp
   ·obtain ⟨P, B, e1⟩ : ∃ P B, blks (skOf d) x x = P ++ [B] := ⟨_, _, (List.dropLast_concat_getLast c).symm⟩
    obtain ⟨_, s, t, h1, e4⟩ := blks_mem (kin h) (y := x) (x := x) (Nat.le_refl _) (by omega) (B := B) (by rw [e1]; simp)
    rw [e1] at hl ⊢
    simp only [List.length_append, List.length_singleton] at hl ⊢
    have q : ((P.length + 1 : Nat) : Int) - 1 = ((P.length : Nat) : Int) := by omega
    rw [q, if_pos (by omega), ix_nat (by simp)]
    have e0 : ix B 0 = some ((s : Nat) : Int) := by rw [e4]; rfl
    simp only [List.getElem_concat_length, bS, e0]
    rw [ix_nat (by omega : s < d.Facts.length), bS, impSame (fits_val hf _) (fits_val hf hx) (vDb_of h).1 (fact_ok h _) (fact_ok h hx)]
    rw [← sk_get (by omega : s < d.Facts.length) hx, start_iff.1 hs s h1]
    simp only [bS, Bool.false_eq_true, if_false]
    rw [app_fits (by simp; omega)]; simp) (by
  simp only [f56_0]
  rw [if_neg (by omega)])
 erw [this]
 rfl
omit h hf
end
section
variable {d : Database} {n : Nat} {sk : Nat → Nat → Bool}
theorem asc_of {s : List Int} (h : asc n s = true) : s.Pairwise (· < ·) ∧ ∀ v ∈ s, 0 ≤ v ∧ v < n := by
 have hg := fun i (hi : i < s.length) => good_of h hi
 refine ⟨?_, ?_⟩
 ·rw [List.pairwise_iff_getElem]
  intro i j hi hj hij
  induction j with
  | zero => omega
  | succ j ih =>
   have h1 := (hg (j + 1) hj).2 (by omega)
   simp only [Nat.add_sub_cancel, decide_eq_true_eq] at h1
   by_cases e : i = j
   ·subst e; exact h1
   ·have := ih (by omega) (by omega); omega
 ·intro v hv
  obtain ⟨i, hi, rfl⟩ := List.getElem_of_mem hv
  have h1 := (hg i hi).1
  simp only [btw, Bool.and_eq_true, decide_eq_true_eq] at h1
  omega
theorem asc_mk {s : List Int} (h : s.Pairwise (· < ·)) (hb : ∀ v ∈ s, 0 ≤ v ∧ v < n) : asc n s = true := by
 refine decide_eq_true fun i hi => ?_
 have h1 := hb _ (List.getElem_mem hi)
 simp only [btw, Bool.and_eq_true, Bool.or_eq_true, decide_eq_true_eq]
 refine ⟨⟨h1.1, by omega⟩, ?_⟩
 by_cases e : i = 0
 ·exact .inl e
 ·exact .inr (List.pairwise_iff_getElem.1 h (i - 1) i (by omega) hi (by omega))
theorem up_nodup {s : List Int} (h : s.Pairwise (· < ·)) : s.Nodup := h.imp fun hab e => by omega
theorem asc_len {s : List Int} (h : asc n s = true) : s.length ≤ n := nodup_le (up_nodup (asc_of h).1) (asc_of h).2
def fat (d : Database) (v : Int) : Fact := d.Facts.getD v.toNat default
def sel (d : Database) (s : List Int) : Database := ⟨d.Relations, s.map (fat d)⟩
theorem fat_get {i : Nat} (hi : i < d.Facts.length) : fat d (i : Int) = d.Facts[i] := by
 unfold fat
 rw [Int.toNat_natCast, zD, zE hi]; rfl
theorem fat_mem {v : Int} (h : 0 ≤ v ∧ v < d.Facts.length) : fat d v ∈ d.Facts := by
 have : v = ((v.toNat : Nat) : Int) := by omega
 rw [this, fat_get (by omega)]; exact List.getElem_mem _
theorem fat_up (h : vDb d = true) {a b : Int} (ha : 0 ≤ a) (hab : a < b) (hb : b < d.Facts.length) : cmpF (fat d a) (fat d b) < 0 := by
 have ea : a = ((a.toNat : Nat) : Int) := by omega
 have eb : b = ((b.toNat : Nat) : Int) := by omega
 rw [ea, eb, fat_get (by omega), fat_get (by omega)]
 exact facts_up h (by omega) (by omega)
theorem sel_len {s : List Int} : (sel d s).Facts.length = s.length := by simp [sel]
theorem sel_v (h : vDb d = true) {s : List Int} (hs : asc d.Facts.length s = true) : vDb (sel d s) = true := by
 obtain ⟨v1, v2, v3⟩ := vDb_of h
 obtain ⟨s1, s2⟩ := asc_of hs
 unfold vDb
 simp only [Bool.and_eq_true, decide_eq_true_eq]
 refine ⟨v1, by rw [sel_len]; have := asc_len hs; omega, decide_eq_true fun i hi => ?_⟩
 rw [sel_len] at hi
 simp only [Bool.and_eq_true, Bool.or_eq_true, decide_eq_true_eq]
 have hm := s2 _ (List.getElem_mem hi)
 refine ⟨?_, ?_⟩
 ·have : (sel d s).Facts[i]'(by rw [sel_len]; exact hi) = fat d s[i] := by simp [sel]
  rw [this]
  obtain ⟨k, hk, e⟩ := List.getElem_of_mem (fat_mem hm)
  rw [← e]; exact fact_ok h hk
 ·by_cases e : i = 0
  ·exact .inl e
  ·refine .inr ?_
   have e1 : (sel d s).Facts[i]'(by rw [sel_len]; exact hi) = fat d s[i] := by simp [sel]
   have e2 : (sel d s).Facts[i - 1]'(by rw [sel_len]; omega) = fat d (s[i - 1]'(by omega)) := by simp [sel]
   rw [e1, e2]
   exact fat_up h (s2 _ (List.getElem_mem (by omega))).1 (List.pairwise_iff_getElem.1 s1 (i - 1) i (by omega) hi (by omega)) hm.2
def apart (d : Database) (s : List Int) : Prop := s.Pairwise fun a b => same d.Relations (fat d a) (fat d b) = false
instance {s : List Int} : Decidable (apart d s) := by unfold apart; infer_instance
def prt (d : Database) (s : List Int) : Bool := vDb d && (asc d.Facts.length s && decide (apart d s))
theorem blks_all {y x : Nat} : (blks sk y x).length = y ↔ ∀ i, i < y → start sk i = true := by
 induction y with
 | zero => simp [blks]
 | succ y ih =>
  have hle := blks_len (sk := sk) (y := y) (x := x)
  rw [blks_succ, List.length_append]
  by_cases h : start sk y = true
  ·rw [if_pos h]
   simp only [List.length_cons, List.length_nil, Nat.zero_add, Nat.add_right_cancel_iff, ih]
   exact ⟨fun q i hi => by
    by_cases e : i = y
    ·subst e; exact h
    ·exact q i (by omega), fun q i hi => q i (by omega)⟩
  ·rw [if_neg h]
   simp only [List.length_nil]
   exact ⟨fun q => by omega, fun q => absurd (q y (by omega)) h⟩
theorem con_iff {s : List Int} : (blks (skOf (sel d s)) s.length s.length).length = s.length ↔ apart d s := by
 rw [blks_all]
 unfold apart
 rw [List.pairwise_iff_getElem]
 have key : ∀ i k (hi : i < s.length) (hk : k < s.length), skOf (sel d s) i k = same d.Relations (fat d s[i]) (fat d s[k]) := fun i k hi hk => by
  rw [sk_get (by rw [sel_len]; exact hi) (by rw [sel_len]; exact hk)]
  simp [sel]
 constructor
 ·intro h i j hi hj hij
  rw [← key i j hi hj]
  exact start_iff.1 (h j hj) i hij
 ·intro h i hi
  refine start_iff.2 fun k hk => ?_
  rw [key k i (by omega) hi]
  exact h k i (by omega) hi hk
theorem sel_fits (hf : Fits d) {s : List Int} (hs : asc d.Facts.length s = true) : Fits (sel d s) := by
 refine ⟨hf.1, by rw [sel_len]; have := asc_len hs; have := hf.2.1; omega, fun x hx => ?_⟩
 simp only [sel, List.mem_map] at hx
 obtain ⟨v, hv, rfl⟩ := hx
 exact hf.2.2 _ (fat_mem ((asc_of hs).2 v hv))
end
section
theorem flat_take {L : List (List Int)} {i : Nat} : (L.take i).flatten.length ≤ L.flatten.length := by
 conv => rhs; rw [← List.take_append_drop i L, List.flatten_append, List.length_append]
 omega
theorem concatN {L : List (List Int)} (hL : L.length ≤ 1048576) (h : L.flatten.length ≤ 1048576) : f139 L = some L.flatten := by
 unfold f139
 have q : ∀ i (hi : i < L.length), (L.take (i + 1)).flatten = (L.take i).flatten ++ L[i] := fun i hi => by rw [take_succ' hi, List.flatten_append]; simp
 have h1 := iter_steps (f := f139_0 L) (fun i => (((L.take i).flatten.length : Int), (i : Int))) L.length (L.flatten.length : Int) (fun i hi => by
  have e := congrArg List.length (q i hi)
  rw [List.length_append] at e
  have b := flat_take (L := L) (i := i + 1)
  simp only [f139_0]
  rw [if_pos (by omega), ix_nat hi, bS, w64_succ (by omega), w64_of (by omega), if_neg (by omega), bS, e]
  rw [Int.natCast_add (List.take i L).flatten.length]) (by
  simp only [f139_0]
  rw [if_neg (by omega), List.take_of_length_le (Nat.le_refl _)])
 simp only [List.take_zero, List.flatten_nil, List.length_nil, Int.natCast_zero, Int.ofNat_zero] at h1
 erw [h1]
 rw [bS]
 unfold f178 growN
 rw [if_pos ⟨by omega, by unfold room; omega⟩, bS]
 have h2 := iter_steps (f := f139_1 L) (fun i => (L.flatten.length - (L.take i).flatten.length, (L.take i).flatten, (i : Int))) L.length (0, L.flatten) (fun i hi => by
  have e := congrArg List.length (q i hi)
  rw [List.length_append] at e
  have b := flat_take (L := L) (i := i + 1)
  simp only [f139_1]
  rw [if_pos (by omega), ix_nat hi, bS, w64_succ (by omega)]
  unfold apps
  rw [if_pos ⟨by omega, by unfold room; omega⟩, bS, q i hi]
  simp only [List.length_append]
  rw [Nat.sub_sub]) (by
  simp only [f139_1]
  rw [if_neg (by omega), List.take_of_length_le (Nat.le_refl _), Nat.sub_self])
 simp only [List.take_zero, List.flatten_nil, List.length_nil, Nat.sub_zero, Int.natCast_zero, Int.ofNat_zero] at h2
 rw [Int.toNat_natCast]
 erw [h2]
 simp [nsk]
theorem sort12 {x : List Int} (h : x.length ≤ 12) : Ens (f107 x) fun r => r.Pairwise (· ≤ ·) ∧ r.Perm x := by
 unfold f107 sortN srtL
 rw [if_pos (by omega)]
 refine Ens.of ⟨?_, List.mergeSort_perm _ _⟩
 have := List.pairwise_mergeSort (le := fun a b : Int => decide (a ≤ b)) (fun a b c h1 h2 => by simp at *; omega) (fun a b => by simp; omega) x
 exact this.imp fun h => by simpa using h
theorem compact_up : ∀ {l : List Int}, l.Pairwise (· ≤ ·) → (compactL l).Pairwise (· < ·) ∧ ∀ y, y ∈ compactL l ↔ y ∈ l
 | [], h => by simp [compactL]
 | [a], h => by simp [compactL]
 | a :: b :: r, h => by
  rw [List.pairwise_cons] at h
  obtain ⟨i1, i2⟩ := compact_up h.2
  rw [compactL]
  split
  ·rename_i e
   subst e
   exact ⟨i1, fun y => by rw [i2]; simp⟩
  ·rename_i e
   refine ⟨List.pairwise_cons.2 ⟨fun y hy => ?_, i1⟩, fun y => by simp [i2]⟩
   rw [i2] at hy
   have h1 := h.1 b (by simp)
   rcases List.mem_cons.1 hy with rfl | hy
   ·omega
   ·have := (List.pairwise_cons.1 h.2).1 y hy; omega
theorem union12 {a b : List Int} (h : a.length + b.length ≤ 12) : Ens (f92 a b) fun r => r.Pairwise (· < ·) ∧ (∀ y, y ∈ r ↔ y ∈ a ∨ y ∈ b) ∧ r.length ≤ 12 := by
 unfold f92
 have e : [a, b].flatten = a ++ b := by simp
 rw [concatN (by simp) (by rw [e]; simp; omega), e, bS]
 refine Ens.bind (sort12 (by simp; omega)) fun r hr => ?_
 have hl := hr.2.length_eq
 simp only [List.length_append] at hl
 unfold f140 compactN
 rw [if_pos (by omega)]
 obtain ⟨c1, c2⟩ := compact_up hr.1
 exact Ens.of ⟨c1, fun y => by rw [c2, hr.2.mem_iff, List.mem_append], by have := compactL_len r; omega⟩
theorem up_ext : ∀ {a b : List Int}, a.Pairwise (· < ·) → b.Pairwise (· < ·) → (∀ y, y ∈ a ↔ y ∈ b) → a = b
 | [], [], _, _, _ => rfl
 | [], y :: b, _, _, h => by have := (h y).2 (by simp); cases this
 | x :: a, [], _, _, h => by have := (h x).1 (by simp); cases this
 | x :: a, y :: b, ha, hb, h => by
  rw [List.pairwise_cons] at ha hb
  have e : x = y := by
   have h1 := (h x).1 (by simp)
   have h2 := (h y).2 (by simp)
   rcases List.mem_cons.1 h1 with e | h1
   ·exact e
   ·rcases List.mem_cons.1 h2 with e | h2
    ·exact e.symm
    ·have := ha.1 y h2; have := hb.1 x h1; omega
  subst e
  congr 1
  refine up_ext ha.2 hb.2 fun y => ?_
  have := h y
  constructor
  ·intro hy
   have q := ha.1 y hy
   rcases List.mem_cons.1 (this.1 (List.mem_cons.2 (.inr hy))) with e | e
   ·omega
   ·exact e
  ·intro hy
   have q := hb.1 y hy
   rcases List.mem_cons.1 (this.2 (List.mem_cons.2 (.inr hy))) with e | e
   ·omega
   ·exact e
end
section
def avars (t : List Int) : List Int := (List.range 4).flatMap fun v => if t.contains ((v : Nat) : Int) = true then [((v : Nat) : Int)] else []
theorem avars_up {t : List Int} : (avars t).Pairwise (· < ·) := by
 unfold avars
 simp only [List.range, List.range.loop, List.flatMap_cons, List.flatMap_nil, List.append_nil]
 generalize t.contains ((0 : Nat) : Int) = a
 generalize t.contains ((1 : Nat) : Int) = b
 generalize t.contains ((2 : Nat) : Int) = c
 generalize t.contains ((3 : Nat) : Int) = d
 cases a <;> cases b <;> cases c <;> cases d <;> simp
theorem avars_mem {t : List Int} {y : Int} : y ∈ avars t ↔ y ∈ t ∧ btw y 0 3 = true := by
 unfold avars btw
 simp only [List.mem_flatMap, List.mem_range, Bool.and_eq_true, decide_eq_true_eq]
 constructor
 ·rintro ⟨v, hv, h⟩
  by_cases c : t.contains ((v : Nat) : Int) = true
  ·rw [if_pos c, List.mem_singleton] at h
   subst h
   exact ⟨by simpa using c, by omega, by omega⟩
  ·rw [if_neg c] at h; cases h
 ·rintro ⟨h, h1, h2⟩
  refine ⟨y.toNat, by omega, ?_⟩
  rw [Int.toNat_of_nonneg h1, if_pos (by simpa using h)]
  simp
theorem impVars {a : Atom} (h : a.Terms.length ≤ 12) : f138 a = some (avars a.Terms) := by
 unfold f138
 rw [iter_flat a.Terms (fun v => if btw v 0 3 = true then [v] else []) id (fun k hk => by
  have el : ((a.Terms.take k).flatMap fun v => if btw v 0 3 = true then [v] else []).length ≤ k := by
   have := take_flat_le (l := a.Terms) (i := k) (g := fun v => if btw v 0 3 = true then [v] else []) (m := 1) (fun a => by split <;> simp)
   omega
  generalize (a.Terms.take k).flatMap (fun v => if btw v 0 3 = true then [v] else []) = out at el ⊢
  simp only [f138_0]
  rw [if_pos (by omega), ix_nat hk, bS, impIn, bS, w64_succ (by omega)]
  by_cases c : btw a.Terms[k] 0 3 = true
  ·rw [if_pos c, if_pos c, app_fits (by simp; omega)]; rfl
  ·rw [if_neg c, if_neg c]; simp) (by
  simp only [f138_0]
  rw [if_neg (by omega)]; rfl)]
 rw [bS]
 dsimp only [id]
 have el : (a.Terms.flatMap fun v => if btw v 0 3 = true then [v] else []).length ≤ a.Terms.length := by
  have := take_flat_le (l := a.Terms) (i := a.Terms.length) (g := fun v => if btw v 0 3 = true then [v] else []) (m := 1) (fun a => by split <;> simp)
  rw [List.take_of_length_le (Nat.le_refl _)] at this
  omega
 obtain ⟨r, h1, h2, h3, _⟩ := union12 (a := a.Terms.flatMap fun v => if btw v 0 3 = true then [v] else []) (b := []) (by rw [List.length_nil]; omega)
 rw [h1, bS]
 congr 1
 refine up_ext h2 avars_up fun y => ?_
 rw [h3, avars_mem, List.mem_flatMap]
 constructor
 ·rintro (⟨v, hv, h⟩ | h)
  ·by_cases c : btw v 0 3 = true
   ·rw [if_pos c, List.mem_singleton] at h; subst h; exact ⟨hv, c⟩
   ·rw [if_neg c] at h; cases h
  ·cases h
 ·rintro ⟨h, c⟩
  exact .inl ⟨y, h, by rw [if_pos c]; simp⟩
theorem vRels_arity {l : List Relation} {r : Int} (h : vRels l = true) (hb : btw r 0 (l.length - 1) = true) : arity l r ≤ 3 := by
 obtain ⟨x, h1, h2, h3, _⟩ := ix_rel hb
 unfold vRels at h; simp only [Bool.and_eq_true] at h
 obtain ⟨i, hi, rfl⟩ := List.mem_iff_getElem.1 h2
 have := (good_of h.1 hi).1
 unfold vRel btw at this
 simp only [Bool.and_eq_true, decide_eq_true_eq] at this
 omega
end
section
def nfl (X : Int → Bool) : List Int := (List.range 4).flatMap fun v => if X ((v : Nat) : Int) = true then [((v : Nat) : Int)] else []
def In4 (X : Int → Bool) : Prop := ∀ v, X v = true → btw v 0 3 = true
def Le4 (X Y : Int → Bool) : Prop := ∀ v, X v = true → Y v = true
def cupX (X Y : Int → Bool) : Int → Bool := fun v => X v || Y v
theorem Le4.refl {X : Int → Bool} : Le4 X X := fun _ h => h
theorem Le4.trans {X Y Z : Int → Bool} (h : Le4 X Y) (g : Le4 Y Z) : Le4 X Z := fun v hv => g v (h v hv)
theorem avars_nfl {t : List Int} : avars t = nfl t.contains := rfl
theorem nfl_mem {X : Int → Bool} {y : Int} : y ∈ nfl X ↔ X y = true ∧ btw y 0 3 = true := by
 unfold nfl btw
 simp only [List.mem_flatMap, List.mem_range, Bool.and_eq_true, decide_eq_true_eq]
 constructor
 ·rintro ⟨v, hv, h⟩
  by_cases c : X ((v : Nat) : Int) = true
  ·rw [if_pos c, List.mem_singleton] at h
   subst h
   exact ⟨c, by omega, by omega⟩
  ·rw [if_neg c] at h; cases h
 ·rintro ⟨h, h1, h2⟩
  refine ⟨y.toNat, by omega, ?_⟩
  rw [Int.toNat_of_nonneg h1, if_pos h]
  simp
theorem nfl_up {X : Int → Bool} : (nfl X).Pairwise (· < ·) := by
 unfold nfl
 simp only [List.range, List.range.loop, List.flatMap_cons, List.flatMap_nil, List.append_nil]
 generalize X ((0 : Nat) : Int) = a
 generalize X ((1 : Nat) : Int) = b
 generalize X ((2 : Nat) : Int) = c
 generalize X ((3 : Nat) : Int) = d
 cases a <;> cases b <;> cases c <;> cases d <;> simp
theorem nfl_len {X : Int → Bool} : (nfl X).length ≤ 4 := by
 unfold nfl
 simp only [List.range, List.range.loop, List.flatMap_cons, List.flatMap_nil, List.append_nil, List.length_append]
 split <;> split <;> split <;> split <;> simp
theorem nfl_congr {X Y : Int → Bool} (h : ∀ v, btw v 0 3 = true → X v = Y v) : nfl X = nfl Y := by
 refine up_ext nfl_up nfl_up fun y => ?_
 rw [nfl_mem, nfl_mem]
 constructor <;> rintro ⟨a, b⟩ <;> exact ⟨by rw [← a, h y b], b⟩
theorem nfl_in {X : Int → Bool} : In4 (nfl X).contains := fun v hv => by
 rw [List.contains_iff_mem, nfl_mem] at hv; exact hv.2
theorem nfl_nil : nfl (fun _ => false) = [] := by simp [nfl]
theorem unionI {a b : List Int} (h : a.length + b.length ≤ 12) (ha : In4 a.contains) (hb : In4 b.contains) : f92 a b = some (nfl (cupX a.contains b.contains)) := by
 obtain ⟨r, h1, h2, h3, _⟩ := union12 h
 rw [h1]
 congr 1
 refine up_ext h2 nfl_up fun y => ?_
 rw [h3, nfl_mem]
 unfold cupX
 simp only [Bool.or_eq_true, List.contains_iff_mem]
 constructor
 ·intro hy
  refine ⟨hy, ?_⟩
  rcases hy with hy | hy
  ·exact ha y (by rw [List.contains_iff_mem]; exact hy)
  ·exact hb y (by rw [List.contains_iff_mem]; exact hy)
 ·exact fun h => h.1
end
section
def FitsQ (q : Query) : Prop := q.Atoms.length ≤ 1048576 ∧ (∀ a ∈ q.Atoms, a.Terms.length ≤ 1048576) ∧ q.Free.length ≤ 1048576
def vAt (l : List Relation) (n : Int) (before : List Atom) (a : Atom) : Bool :=
 btw a.Relation 0 (l.length - 1) && (decide ((a.Terms.length : Int) = arity l a.Relation) && ((a.Terms.all fun v => btw v (-10) (n - 1)) && !(before.any fun b => decide (b.Relation = a.Relation))))
def vAtom (l : List Relation) (q : Query) (i : Nat) : Bool := match q.Atoms[i]? with
 | none => true
 | some a => vAt l q.VariableCount (q.Atoms.take i) a
def occ (az : List Atom) : Int → Bool := fun v => az.any fun a => a.Terms.contains v
def vQuery (l : List Relation) (q : Query) : Bool :=
 vRels l && (btw q.VariableCount 0 4 && (btw q.Atoms.length 1 3 && (((List.range q.Atoms.length).all (vAtom l q)) && (((List.range 4).all fun v => decide (q.VariableCount ≤ ((v : Nat) : Int)) || occ q.Atoms ((v : Nat) : Int)) && asc q.VariableCount q.Free))))
theorem vAtom_get {l : List Relation} {q : Query} {i : Nat} (h : i < q.Atoms.length) : vAtom l q i = vAt l q.VariableCount (q.Atoms.take i) q.Atoms[i] := by
 unfold vAtom; rw [zE h]
theorem all_false {n i : Nat} {p : Nat → Bool} (h : i < n) (hp : p i = false) : (List.range n).all p = false := by
 rw [Bool.eq_false_iff]
 intro ha
 have := List.all_eq_true.1 ha i (List.mem_range.2 h)
 rw [hp] at this; cases this
theorem occ_succ {az : List Atom} {i : Nat} (h : i < az.length) {v : Int} : occ (az.take (i + 1)) v = (occ (az.take i) v || az[i].Terms.contains v) := by
 unfold occ; rw [take_succ' h, List.any_append]; simp
theorem has_succ {t : List Int} {k : Nat} (h : k < t.length) {v : Int} : (t.take (k + 1)).contains v = ((t.take k).contains v || decide (v = t[k])) := by
 rw [Bool.eq_iff_iff, List.contains_iff_mem, take_succ' h, List.mem_append, List.mem_singleton, Bool.or_eq_true, List.contains_iff_mem, decide_eq_true_eq]
section
variable {l : List Relation} {q : Query}
theorem specTerms {a : Atom} {mt : List Bool} {X : Int → Bool} (ht : a.Terms.length ≤ 1048576) (hn : 0 ≤ q.VariableCount ∧ q.VariableCount ≤ 4) (hm : mt.length = 4) (hx : ∀ v, v < 4 → mt[v]? = some (X ((v : Nat) : Int))) :
  Ens (iter (f50_4 q a) (mt, 0)) fun o => match o with
   | .inl m => (a.Terms.all fun v => btw v (-10) (q.VariableCount - 1)) = true ∧ m.length = 4 ∧ ∀ v, v < 4 → m[v]? = some (X ((v : Nat) : Int) || a.Terms.contains ((v : Nat) : Int))
   | .inr b => b = false ∧ (a.Terms.all fun v => btw v (-10) (q.VariableCount - 1)) = false := by
 refine iter_up (f := f50_4 q a) a.Terms.length (fun k s => s.2 = (k : Int) ∧ ((a.Terms.take k).all fun v => btw v (-10) (q.VariableCount - 1)) = true ∧ s.1.length = 4 ∧ ∀ v, v < 4 → s.1[v]? = some (X ((v : Nat) : Int) || (a.Terms.take k).contains ((v : Nat) : Int))) _ (fun k s hk hI => ?_) (fun s hI => ?_) (mt, 0) ⟨rfl, by simp, hm, fun v hv => by simp [hx v hv]⟩
 ·obtain ⟨m, x⟩ := s
  obtain ⟨e1, e2, e3, e4⟩ := hI
  dsimp only at e1 e3 e4
  subst e1
  simp only [f50_4]
  rw [if_pos (by omega), ix_nat hk, bS, w64_of (by omega), specIn, bS]
  cases hb : btw a.Terms[k] (-10) (q.VariableCount - 1)
  ·refine ⟨_, rfl, rfl, ?_⟩
   rw [Bool.eq_false_iff]
   intro ha
   have := List.all_eq_true.1 ha _ (List.getElem_mem hk)
   rw [hb] at this; cases this
  ·have hb' := hb
   unfold btw at hb'; simp only [Bool.and_eq_true, decide_eq_true_eq] at hb'
   have ha : ((a.Terms.take (k + 1)).all fun v => btw v (-10) (q.VariableCount - 1)) = true := by
    rw [take_succ' hk, List.all_append, e2]; simp [hb]
   simp only [not_true_eq_false, if_false]
   rw [w64_succ (by omega)]
   by_cases c : a.Terms[k] ≥ 0
   ·have hi : ix m a.Terms[k] = some (m[a.Terms[k].toNat]'(by omega)) := by rw [ix_of c, zE (by omega)]
    rw [if_pos c, hi]
    simp only [bS]
    refine ⟨_, rfl, rfl, ha, by simp [e3], fun v hv => ?_⟩
    dsimp only
    rw [List.getElem?_set]
    by_cases e : a.Terms[k].toNat = v
    ·rw [if_pos e, if_pos (by omega)]
     have : ((v : Nat) : Int) = a.Terms[k] := by omega
     rw [has_succ hk]
     simp [this]
    ·rw [if_neg e, e4 v hv, has_succ hk]
     have : ¬ ((v : Nat) : Int) = a.Terms[k] := by omega
     simp [this]
   ·rw [if_neg c]
    simp only [bS]
    refine ⟨_, rfl, rfl, ha, e3, fun v hv => ?_⟩
    dsimp only
    rw [e4 v hv, has_succ hk]
    have : ¬ ((v : Nat) : Int) = a.Terms[k] := by omega
    simp [this]
 ·obtain ⟨m, x⟩ := s
  obtain ⟨e1, e2, e3, e4⟩ := hI
  dsimp only at e1 e3 e4
  subst e1
  rw [List.take_of_length_le (Nat.le_refl _)] at e2 e4
  simp only [f50_4]
  rw [if_neg (by omega)]
  exact ⟨_, rfl, e2, e3, e4⟩
theorem specEarlier {a : Atom} {i : Nat} (hi : i ≤ q.Atoms.length) (hq : q.Atoms.length ≤ 1048576) : iter (f50_3 q (i : Int) a) 0 = some (if ((q.Atoms.take i).any fun b => decide (b.Relation = a.Relation)) = true then .inr false else .inl ()) := by
 have e : (q.Atoms.take i).length = i := by simp; omega
 refine iter_ex (q.Atoms.take i) (fun b => decide (b.Relation = a.Relation)) false (fun k hk => ?_) ?_
 ·rw [e] at hk
  simp only [f50_3]
  rw [if_pos (by omega), ix_nat (by omega : k < q.Atoms.length), bS, w64_succ (by omega), List.getElem_take]
  by_cases c : q.Atoms[k].Relation = a.Relation
  ·rw [if_pos c, if_pos (by simp [c])]
  ·rw [if_neg c, if_neg (by simp [c])]
 ·simp only [f50_3]
  rw [e, if_neg (by omega)]
theorem specAtoms (hl : Big l.length) (hq : FitsQ q) (hn : 0 ≤ q.VariableCount ∧ q.VariableCount ≤ 4) :
  Ens (iter (f50_0 l q) ([false, false, false, false], 0)) fun o => match o with
   | .inl m => (List.range q.Atoms.length).all (vAtom l q) = true ∧ m.length = 4 ∧ ∀ v, v < 4 → m[v]? = some (occ q.Atoms ((v : Nat) : Int))
   | .inr b => b = false ∧ (List.range q.Atoms.length).all (vAtom l q) = false := by
 obtain ⟨q1, q2, q3⟩ := hq
 refine iter_up (f := f50_0 l q) q.Atoms.length (fun i s => s.2 = (i : Int) ∧ (∀ j, j < i → vAtom l q j = true) ∧ s.1.length = 4 ∧ ∀ v, v < 4 → s.1[v]? = some (occ (q.Atoms.take i) ((v : Nat) : Int))) _ (fun i s hi hI => ?_) (fun s hI => ?_) _ ⟨rfl, fun j hj => by omega, rfl, fun v hv => ?_⟩
 ·obtain ⟨m, x⟩ := s
  obtain ⟨e1, e2, e3, e4⟩ := hI
  dsimp only at e1 e3 e4
  subst e1
  have hv := vAtom_get (l := l) hi
  simp only [f50_0]
  rw [if_pos (by omega), ix_nat hi, bS, w64_of (by omega), specIn, bS]
  have ht := q2 _ (List.getElem_mem hi)
  unfold vAt at hv
  cases hb : btw q.Atoms[i].Relation 0 (l.length - 1)
  ·rw [hb] at hv
   exact ⟨_, rfl, rfl, all_false hi (by rw [hv]; rfl)⟩
  ·obtain ⟨x, h1, _, h2, _⟩ := ix_rel hb
   rw [hb] at hv
   rw [h1]
   simp only [not_true_eq_false, if_false, bS]
   rw [h2]
   by_cases ha : (q.Atoms[i].Terms.length : Int) = arity l q.Atoms[i].Relation
   ·simp only [ha, not_true_eq_false, if_false, bS, ne_eq, decide_false, Bool.false_eq_true]
    rw [specEarlier (by omega) q1]
    cases hd : (q.Atoms.take i).any fun b => decide (b.Relation = q.Atoms[i].Relation)
    ·simp only [Bool.false_eq_true, if_false, bS]
     obtain ⟨o, ho, hQ⟩ := specTerms (q := q) (a := q.Atoms[i]) (mt := m) (X := occ (q.Atoms.take i)) ht hn e3 e4
     rw [ho]
     cases o with
     | inl m' =>
      obtain ⟨g1, g2, g3⟩ := hQ
      simp only [bS]
      rw [w64_succ (by omega)]
      refine ⟨_, rfl, rfl, fun j hj => ?_, g2, fun v hv => ?_⟩
      ·by_cases e : j = i
       ·subst e; rw [hv, ha, g1, hd]; simp
       ·exact e2 j (by omega)
      ·rw [g3 v hv, occ_succ hi]
     | inr b =>
      obtain ⟨rfl, g⟩ := hQ
      exact ⟨_, rfl, rfl, all_false hi (by rw [hv, g]; simp)⟩
    ·simp only [if_true, bS]
     exact ⟨_, rfl, rfl, all_false hi (by rw [hv, hd]; simp)⟩
   ·simp only [ha, not_true_eq_false, not_false_eq_true, if_false, bS, ne_eq, decide_true, if_true]
    exact ⟨_, rfl, rfl, all_false hi (by rw [hv]; simp [ha])⟩
 ·obtain ⟨m, x⟩ := s
  obtain ⟨e1, e2, e3, e4⟩ := hI
  dsimp only at e1 e3 e4
  subst e1
  rw [List.take_of_length_le (Nat.le_refl _)] at e4
  simp only [f50_0]
  rw [if_neg (by omega)]
  exact ⟨_, rfl, List.all_eq_true.2 fun j hj => e2 j (List.mem_range.1 hj), e3, e4⟩
 ·simp only [List.take_zero, occ, List.any_nil]
  rcases v with _ | _ | _ | _ | v
  ·rfl
  ·rfl
  ·rfl
  ·rfl
  ·omega
theorem specQ (hl : Big l.length) (hq : FitsQ q) : f50 l q = some (vQuery l q) := by
 unfold f50 vQuery
 rw [specRels hl, bS]
 cases vRels l
 ·simp
 simp only [not_true_eq_false, if_false, specIn, bS, Bool.true_and]
 cases hc : btw q.VariableCount 0 4
 ·simp
 cases hn : btw (q.Atoms.length : Int) 1 3
 ·simp
 have hc' := hc
 unfold btw at hc'; simp only [Bool.and_eq_true, decide_eq_true_eq] at hc'
 simp only [not_true_eq_false, if_false, bS, decide_false, Bool.false_eq_true, Bool.true_and]
 rw [mkl_ok (by omega) (by omega) (by omega), bS, show List.replicate (4 : Int).toNat false = [false, false, false, false] from rfl]
 obtain ⟨o, ho, hQ⟩ := specAtoms hl hq hc'
 rw [ho]
 cases o with
 | inr b => obtain ⟨rfl, g⟩ := hQ; rw [g]; simp
 | inl m =>
  obtain ⟨g1, g2, g3⟩ := hQ
  rw [g1]
  simp only [bS, Bool.true_and]
  rw [iter_ex (List.range q.VariableCount.toNat) (fun v => !occ q.Atoms ((v : Nat) : Int)) false (fun v hv => by
   simp only [List.length_range] at hv
   simp only [List.getElem_range]
   simp only [f50_1]
   rw [if_pos (by omega), ix_cast, g3 v (by omega), bS, w64_succ (by omega)]
   cases occ q.Atoms ((v : Nat) : Int) <;> simp) (by
   simp only [f50_1, List.length_range]
   rw [if_neg (by omega)])]
  have ea : ((List.range 4).all fun v => decide (q.VariableCount ≤ ((v : Nat) : Int)) || occ q.Atoms ((v : Nat) : Int)) = !((List.range q.VariableCount.toNat).any fun v => !occ q.Atoms ((v : Nat) : Int)) := by
   rw [any_not, Bool.not_not, Bool.eq_iff_iff, List.all_eq_true, List.all_eq_true]
   simp only [List.mem_range, Bool.or_eq_true, decide_eq_true_eq]
   constructor
   ·intro h v hv
    exact (h v (by omega)).resolve_left (by omega)
   ·intro h v hv
    by_cases c : q.VariableCount ≤ ((v : Nat) : Int)
    ·exact .inl c
    ·exact .inr (h v (by omega))
  rw [ea]
  cases (List.range q.VariableCount.toNat).any fun v => !occ q.Atoms ((v : Nat) : Int)
  ·simp only [Bool.false_eq_true, if_false, bS, Bool.not_false, Bool.true_and]
   have hF := hq.2.2
   rw [iter_adj (fun v => btw v 0 (q.VariableCount - 1)) (fun a b => decide (a < b)) q.Free false (fun i hi => by
    simp only [f50_2]
    rw [if_pos (by omega), ix_nat hi, w64_succ (by omega), w64_of (n := q.VariableCount - 1) (by omega)]
    simp only [bS, specIn]
    cases btw q.Free[i] 0 (q.VariableCount - 1)
    ·simp
    ·by_cases h0 : i = 0
     ·subst h0; simp
     ·have e : ix q.Free (w64 ((i : Int) - 1)) = some (q.Free[i - 1]'(by omega)) := by rw [w64_of (by omega), show (i : Int) - 1 = ((i - 1 : Nat) : Int) by omega, ix_nat (by omega)]
      simp only [e]
      have : 0 < i := by omega
      by_cases hb : q.Free[i - 1]'(by omega) < q.Free[i]
      ·simp [h0, this, hb, Int.not_le.2 hb]
      ·simp [h0, this, hb, Int.not_lt.1 hb]) (by
    simp only [f50_2]
    rw [if_neg (by omega)])]
   unfold asc
   cases good (fun v => btw v 0 (q.VariableCount - 1)) (fun a b => decide (a < b)) q.Free <;> simp
  ·simp
theorem containsA {s : List Atom} {f : Atom → Option Bool} {p : Atom → Bool} (h : Big s.length) (hf : ∀ a ∈ s, f a = some (p a)) : f136 s f = some (s.any p) := by
 unfold f136 f177
 obtain ⟨o, h1, h2⟩ := iter_idx (f := f177_0 s f) s p (fun i hi => by
  simp only [f177_0]
  rw [if_pos (by omega), ix_nat hi, w64_succ (by omega)]
  simp only [bS, hf _ (List.getElem_mem hi)]
  split <;> rfl) (by
  simp only [f177_0]
  rw [if_neg (by omega)])
 rw [h1]
 cases o with
 | inl _ => dsimp only at h2; rw [h2]; rfl
 | inr x => dsimp only at h2; rw [h2.2]; simp; omega
theorem impAtoms (hl : Big l.length) (hv : vRels l = true) (hq : FitsQ q) (hn : 0 ≤ q.VariableCount ∧ q.VariableCount ≤ 4) :
  Ens (iter (f91_0 l q) ([], 0)) fun o => match o with
   | .inl m => (List.range q.Atoms.length).all (vAtom l q) = true ∧ m = nfl (occ q.Atoms)
   | .inr b => b = false ∧ (List.range q.Atoms.length).all (vAtom l q) = false := by
 obtain ⟨q1, q2, q3⟩ := hq
 refine iter_up (f := f91_0 l q) q.Atoms.length (fun i s => s.2 = (i : Int) ∧ (∀ j, j < i → vAtom l q j = true) ∧ s.1 = nfl (occ (q.Atoms.take i))) _ (fun i s hi hI => ?_) (fun s hI => ?_) _ ⟨rfl, fun j hj => by omega, nfl_nil.symm⟩
 ·obtain ⟨m, x⟩ := s
  obtain ⟨e1, e2, e3⟩ := hI
  dsimp only at e1 e3
  subst e1; subst e3
  have hva := vAtom_get (l := l) hi
  simp only [f91_0]
  rw [if_pos (by omega), ix_nat hi, bS, w64_of (by omega), impIn, bS]
  have ht := q2 _ (List.getElem_mem hi)
  unfold vAt at hva
  cases hb : btw q.Atoms[i].Relation 0 (l.length - 1)
  ·rw [hb] at hva
   exact ⟨_, rfl, rfl, all_false hi (by rw [hva]; rfl)⟩
  ·obtain ⟨x, h1, _, h2, _⟩ := ix_rel hb
   rw [hb] at hva
   rw [h1]
   simp only [not_true_eq_false, if_false, bS]
   rw [h2]
   by_cases ha : (q.Atoms[i].Terms.length : Int) = arity l q.Atoms[i].Relation
   ·have h3 := vRels_arity hv hb
    have e0 : (q.Atoms.take ((i : Nat) : Int).toNat).drop (0 : Int).toNat = q.Atoms.take i := by simp
    rw [if_neg (by simp [ha]), cutL_ok (by omega) (by omega) (by omega), e0, bS]
    rw [containsA (p := fun b => decide (b.Relation = q.Atoms[i].Relation)) (by simp; omega) (fun b _ => by
     unfold f137
     exact congrArg some (decide_eq_decide.2 ⟨fun h => by first | exact h | exact h.symm, fun h => by first | exact h | exact h.symm⟩))]
    cases hd : (q.Atoms.take i).any fun b => decide (b.Relation = q.Atoms[i].Relation)
    ·simp only [Bool.false_eq_true, if_false, bS]
     rw [iter_ex q.Atoms[i].Terms (fun v => !btw v (-10) (q.VariableCount - 1)) false (fun k hk => by
      simp only [f91_1]
      rw [if_pos (by omega), ix_nat hk, w64_succ (by omega), w64_of (n := q.VariableCount - 1) (by omega)]
      simp only [bS, impIn]
      cases btw q.Atoms[i].Terms[k] (-10) (q.VariableCount - 1) <;> simp) (by
      simp only [f91_1]
      rw [if_neg (by omega)]), any_not]
     cases g1 : q.Atoms[i].Terms.all fun v => btw v (-10) (q.VariableCount - 1)
     ·simp only [Bool.not_false, if_true, bS]
      exact ⟨_, rfl, rfl, all_false hi (by rw [hva, g1]; simp)⟩
     ·simp only [Bool.not_true, Bool.false_eq_true, if_false, bS]
      have n1 := nfl_len (X := occ (q.Atoms.take i))
      have n2 := nfl_len (X := q.Atoms[i].Terms.contains)
      rw [impVars (by omega), bS, avars_nfl, unionI (by omega) nfl_in nfl_in, bS, w64_succ (by omega)]
      refine ⟨_, rfl, rfl, fun j hj => ?_, ?_⟩
      ·by_cases e : j = i
       ·subst e; rw [hva, ha, g1, hd]; simp
       ·exact e2 j (by omega)
      ·refine nfl_congr fun v hv => ?_
       rw [occ_succ hi]
       unfold cupX
       congr 1
       ·rw [Bool.eq_iff_iff, List.contains_iff_mem, nfl_mem]; exact ⟨fun h => h.1, fun h => ⟨h, hv⟩⟩
       ·rw [Bool.eq_iff_iff, List.contains_iff_mem, nfl_mem]; exact ⟨fun h => h.1, fun h => ⟨h, hv⟩⟩
    ·simp only [if_true, bS]
     exact ⟨_, rfl, rfl, all_false hi (by rw [hva, hd]; simp)⟩
   ·rw [if_pos ha]
    exact ⟨_, rfl, rfl, all_false hi (by rw [hva]; simp [ha])⟩
 ·obtain ⟨m, x⟩ := s
  obtain ⟨e1, e2, e3⟩ := hI
  dsimp only at e1 e3
  subst e1; subst e3
  simp only [f91_0]
  rw [if_neg (by omega)]
  exact ⟨_, rfl, List.all_eq_true.2 fun j hj => e2 j (List.mem_range.1 hj), by rw [List.take_of_length_le (Nat.le_refl _)]⟩
theorem nfl_count {X : Int → Bool} {n : Int} (h0 : 0 ≤ n) (h4 : n ≤ 4) (h : ∀ v, 0 ≤ v → v < 4 → X v = true → v < n) : decide (((nfl X).length : Int) = n) = ((List.range 4).all fun v => decide (n ≤ ((v : Nat) : Int)) || X ((v : Nat) : Int)) := by
 have h0' := h 0
 have h1 := h 1
 have h2 := h 2
 have h3 := h 3
 unfold nfl
 simp only [List.range, List.range.loop, List.flatMap_cons, List.flatMap_nil, List.append_nil, List.length_append, Int.ofNat_zero, Int.natCast_zero, Int.natCast_one, List.all_cons, List.all_nil]
 have e2 : ((2 : Nat) : Int) = 2 := rfl
 have e3 : ((3 : Nat) : Int) = 3 := rfl
 rw [e2, e3]
 generalize X 0 = a0 at *
 generalize X 1 = a1 at *
 generalize X 2 = a2 at *
 generalize X 3 = a3 at *
 have : n = 0 ∨ n = 1 ∨ n = 2 ∨ n = 3 ∨ n = 4 := by omega
 rcases this with rfl | rfl | rfl | rfl | rfl <;> revert h0' h1 h2 h3 <;> cases a0 <;> cases a1 <;> cases a2 <;> cases a3 <;> simp
theorem impQ (hl : Big l.length) (hq : FitsQ q) : f91 l q = some (vQuery l q) := by
 unfold f91 vQuery
 rw [impRels hl, bS]
 cases hv : vRels l
 ·simp
 simp only [not_true_eq_false, if_false, impIn, bS, Bool.true_and]
 cases hc : btw q.VariableCount 0 4
 ·simp
 cases hn : btw (q.Atoms.length : Int) 1 3
 ·simp
 have hc' := hc
 unfold btw at hc'; simp only [Bool.and_eq_true, decide_eq_true_eq] at hc'
 have hF := hq.2.2
 have eS := impSet (l := q.Free) (n := q.VariableCount.toNat) (by omega) (by omega)
 rw [Int.toNat_of_nonneg hc'.1] at eS
 simp only [not_true_eq_false, if_false, bS, Bool.false_eq_true, Bool.true_and, eS]
 cases asc q.VariableCount q.Free
 ·simp
 simp only [not_true_eq_false, decide_false, if_false, bS, Bool.false_eq_true, Bool.and_true]
 obtain ⟨o, ho, hQ⟩ := impAtoms hl hv hq hc'
 rw [ho]
 cases o with
 | inr b => obtain ⟨rfl, g⟩ := hQ; rw [g]; simp
 | inl m =>
  obtain ⟨g1, rfl⟩ := hQ
  rw [g1]
  simp only [bS, Bool.true_and]
  congr 1
  refine nfl_count hc'.1 hc'.2 fun v h0 h4 hx => ?_
  unfold occ at hx
  obtain ⟨a, ha, hx⟩ := List.any_eq_true.1 hx
  obtain ⟨i, hi, rfl⟩ := List.mem_iff_getElem.1 ha
  have := List.all_eq_true.1 g1 i (List.mem_range.2 hi)
  rw [vAtom_get hi] at this
  unfold vAt at this
  simp only [Bool.and_eq_true] at this
  have := List.all_eq_true.1 this.2.2.1 v (by simpa using hx)
  unfold btw at this; simp only [Bool.and_eq_true, decide_eq_true_eq] at this
  omega
end
end
section
def uni : List Int → List Int → List Int → Option (List Int)
 | t :: ts, v :: vs, x => if t < 0 then (if -1 - t = v then uni ts vs x else none) else if x.getD t.toNat 0 < 0 then uni ts vs (x.set t.toNat v) else if x.getD t.toNat 0 = v then uni ts vs x else none
 | _, _, x => some x
theorem uni_len : ∀ {ts vs x y : List Int}, uni ts vs x = some y → y.length = x.length
 | [], _, x, y, h => by simp [uni] at h; rw [h]
 | _ :: _, [], x, y, h => by simp [uni] at h; rw [h]
 | t :: ts, v :: vs, x, y, h => by
  simp only [uni] at h
  split at h
  ·split at h
   ·exact uni_len h
   ·cases h
  ·split at h
   ·rw [uni_len h]; simp
   ·split at h
    ·exact uni_len h
    ·cases h
def step (F : List Fact) (a : Atom) (x : List Int) (i : Nat) : Option (List Int) := match F[i]? with
 | some f => if f.Relation = a.Relation then uni a.Terms f.Values x else none
 | none => none
def emb (F : List Fact) : List Atom → List Int → List Int → List Embedding
 | [], x, s => [⟨x, s⟩]
 | a :: az, x, s => (List.range F.length).flatMap fun i => match step F a x i with
  | some y => emb F az y (s ++ [((i : Nat) : Int)])
  | none => []
theorem flat_le {α β : Type} {g : α → List β} {m : Nat} : ∀ {l : List α}, (∀ a ∈ l, (g a).length ≤ m) → (l.flatMap g).length ≤ l.length * m
 | [], _ => by simp
 | a :: l, h => by
  rw [List.flatMap_cons, List.length_append, List.length_cons, Nat.succ_mul]
  have h1 := h a (by simp)
  have h2 := flat_le (g := g) (m := m) (l := l) fun b hb => h b (by simp [hb])
  omega
theorem emb_len {F : List Fact} : ∀ {az : List Atom} {x s : List Int}, (emb F az x s).length ≤ F.length ^ az.length
 | [], _, _ => by simp [emb]
 | a :: az, x, s => by
  rw [emb]
  refine Nat.le_trans (flat_le (m := F.length ^ az.length) fun i _ => ?_) (by rw [List.length_range, List.length_cons, Nat.pow_succ, Nat.mul_comm]; exact Nat.le_refl _)
  split
  ·exact emb_len
  ·simp
theorem emb_facts {F : List Fact} : ∀ {az : List Atom} {x s : List Int} {e : Embedding}, e ∈ emb F az x s →
  ∃ t : List Nat, e.Facts = s ++ t.map (fun i => ((i : Nat) : Int)) ∧ t.length = az.length ∧ ∀ j (h : j < t.length) (h' : j < az.length), ∃ hf : t[j] < F.length, F[t[j]].Relation = az[j].Relation
 | [], x, s, e, h => by
  simp only [emb, List.mem_singleton] at h
  subst h
  exact ⟨[], by simp, rfl, fun j h => by simp at h⟩
 | a :: az, x, s, e, h => by
  rw [emb, List.mem_flatMap] at h
  obtain ⟨i, hi, h⟩ := h
  rw [List.mem_range] at hi
  split at h
  ·rename_i y hy
   obtain ⟨t, t1, t2, t3⟩ := emb_facts h
   refine ⟨i :: t, by rw [t1]; simp, by simp [t2], fun j hj hj' => ?_⟩
   cases j with
   | zero =>
    refine ⟨hi, ?_⟩
    unfold step at hy
    rw [zE hi] at hy
    dsimp only at hy
    split at hy
    ·rename_i e; exact e
    ·cases hy
   | succ j => exact t3 j (by simpa using hj) (by simpa using hj')
  ·cases h
theorem vq_apart {l : List Relation} {q : Query} (h : vQuery l q = true) {j k : Nat} (hjk : j < k) (hk : k < q.Atoms.length) : (q.Atoms[j]'(by omega)).Relation ≠ q.Atoms[k].Relation := by
 unfold vQuery at h
 simp only [Bool.and_eq_true] at h
 have h1 := List.all_eq_true.1 h.2.2.2.1 k (List.mem_range.2 hk)
 rw [vAtom_get hk] at h1
 unfold vAt at h1
 simp only [Bool.and_eq_true] at h1
 have h2 := h1.2.2.2
 simp only [Bool.not_eq_true', List.any_eq_false, decide_eq_true_eq] at h2
 exact h2 _ (by rw [List.mem_iff_getElem]; exact ⟨j, by rw [List.length_take]; omega, by rw [List.getElem_take]⟩)
theorem vq_len {l : List Relation} {q : Query} (h : vQuery l q = true) : q.Atoms.length ≤ 3 ∧ 1 ≤ q.Atoms.length := by
 unfold vQuery at h
 simp only [Bool.and_eq_true, btw, decide_eq_true_eq] at h
 omega
theorem vq_vars {l : List Relation} {q : Query} (h : vQuery l q = true) : 0 ≤ q.VariableCount ∧ q.VariableCount ≤ 4 := by
 unfold vQuery at h
 simp only [Bool.and_eq_true, btw, decide_eq_true_eq] at h
 omega
theorem vq_atom {l : List Relation} {q : Query} (h : vQuery l q = true) {k : Nat} (hk : k < q.Atoms.length) : (q.Atoms[k].Terms.length : Int) = arity l q.Atoms[k].Relation ∧ ∀ t ∈ q.Atoms[k].Terms, -10 ≤ t ∧ t < q.VariableCount := by
 unfold vQuery at h
 simp only [Bool.and_eq_true] at h
 have h1 := List.all_eq_true.1 h.2.2.2.1 k (List.mem_range.2 hk)
 rw [vAtom_get hk] at h1
 unfold vAt at h1
 simp only [Bool.and_eq_true, decide_eq_true_eq] at h1
 refine ⟨h1.2.1, fun t ht => ?_⟩
 have := List.all_eq_true.1 h1.2.2.1 t ht
 simp only [btw, Bool.and_eq_true, decide_eq_true_eq] at this
 omega
def embs (d : Database) (q : Query) : List Embedding := if (vDb d && vQuery d.Relations q) = true then emb d.Facts q.Atoms (List.replicate q.VariableCount.toNat (-1)) [] else []
theorem embs_len {d : Database} {q : Query} : (embs d q).length ≤ 2744 := by
 unfold embs
 split
 ·rename_i h
  rw [Bool.and_eq_true] at h
  have h1 := (vDb_of h.1).2.1
  have h2 := (vq_len h.2).1
  refine Nat.le_trans emb_len (Nat.le_trans (Nat.pow_le_pow_left h1 _) ?_)
  exact Nat.le_trans (Nat.pow_le_pow_right (n := 14) (by omega) h2) (by decide)
 ·simp
theorem embs_prt {d : Database} {q : Query} {e : Embedding} (h : e ∈ embs d q) {s : List Int} (hs : s.Pairwise (· ≤ ·)) (hp : s.Perm e.Facts) : prt d s = true ∧ s.length ≤ 3 := by
 unfold embs at h
 split at h
 ·rename_i hv
  rw [Bool.and_eq_true] at hv
  obtain ⟨t, t1, t2, t3⟩ := emb_facts h
  rw [List.nil_append] at t1
  have rel : ∀ j k (hj : j < t.length) (hk : k < t.length), j < k → (fat d (t[j] : Nat)).Relation ≠ (fat d (t[k] : Nat)).Relation := fun j k hj hk hjk => by
   obtain ⟨a1, a2⟩ := t3 j hj (by omega)
   obtain ⟨b1, b2⟩ := t3 k hk (by omega)
   rw [fat_get a1, fat_get b1, a2, b2]
   exact vq_apart hv.2 hjk (by omega)
  have nd : e.Facts.Pairwise fun a b => (fat d a).Relation ≠ (fat d b).Relation := by
   rw [t1, List.pairwise_map, List.pairwise_iff_getElem]
   exact fun i j hi hj hij => rel i j hi hj hij
  have nds : s.Pairwise fun a b => (fat d a).Relation ≠ (fat d b).Relation := (hp.pairwise_iff (fun h e => h e.symm)).2 nd
  have up : s.Pairwise (· < ·) := by
   refine (hs.and nds).imp fun {a b} hab => ?_
   by_cases e : a = b
   ·subst e; exact absurd rfl hab.2
   ·have := hab.1; omega
  have rng : ∀ v ∈ s, 0 ≤ v ∧ v < d.Facts.length := fun v hv => by
   have := hp.mem_iff.1 hv
   rw [t1, List.mem_map] at this
   obtain ⟨i, hi, rfl⟩ := this
   obtain ⟨j, hj, rfl⟩ := List.getElem_of_mem hi
   obtain ⟨a1, _⟩ := t3 j hj (by omega)
   omega
  refine ⟨?_, ?_⟩
  ·unfold prt
   simp only [Bool.and_eq_true, decide_eq_true_eq]
   refine ⟨hv.1, asc_mk up rng, nds.imp fun h => ?_⟩
   unfold same
   rw [decide_eq_false h]; rfl
  ·rw [hp.length_eq, t1, List.length_map, t2]; exact (vq_len hv.2).1
 ·cases h
end
section
theorem cloneI {a : List Int} (h : a.length ≤ 1048576) : f156 a = some a := by
 unfold f156
 rw [app_fits (by simp; omega), bS, List.nil_append]
theorem uni_nil {ts vs x : List Int} (h : ts = []) : uni ts vs x = some x := by subst h; rfl
theorem set_same {x : List Int} {i : Nat} {v : Int} (h : i < x.length) (e : x[i] = v) : x.set i v = x := by subst e; exact List.set_getElem_self h
def FitT (n : Nat) (ts vs : List Int) : Prop := ts.length = vs.length ∧ ts.length ≤ 1048576 ∧ ∀ t ∈ ts, -10 ≤ t ∧ t < n
theorem impUni {x ts vs : List Int} (hx : x.length ≤ 8) (h : FitT x.length ts vs) : f157 x ts vs = some (match uni ts vs x with | some y => (y, true) | none => ([], false)) := by
 obtain ⟨h1, h2, h3⟩ := h
 unfold f157
 rw [cloneI (by omega), bS]
 obtain ⟨o, e, rfl⟩ := iter_up (f := f157_0 ts vs) ts.length (fun i s => ∃ y, s = (y, (i : Int)) ∧ uni (ts.drop i) (vs.drop i) y = uni ts vs x ∧ y.length = x.length)
  (fun o => o = (match uni ts vs x with | some y => .inl y | none => .inr ([], false))) (fun i s hi ⟨y, hs, hu, hl⟩ => by
   subst hs
   have hv : i < vs.length := by omega
   have ht := h3 _ (List.getElem_mem hi)
   rw [List.drop_eq_getElem_cons hi, List.drop_eq_getElem_cons hv, uni] at hu
   simp only [f157_0]
   rw [if_pos (by omega), ix_nat hi, bS, w64_succ (by omega)]
   unfold f183 f184
   simp only [bS, ix_nat hv]
   by_cases c1 : ts[i] < 0
   ·rw [if_pos c1] at hu
    rw [if_pos (by simpa using c1), w64_of (by omega)]
    by_cases c2 : -1 - ts[i] = vs[i]
    ·rw [if_pos c2] at hu
     rw [if_neg (by simpa using c2)]
     exact ⟨_, rfl, y, rfl, hu, hl⟩
    ·rw [if_neg c2] at hu
     rw [if_pos (by simpa using c2)]
     refine ⟨_, rfl, ?_⟩
     rw [← hu]
   ·rw [if_neg c1] at hu
    have hb : ts[i].toNat < y.length := by omega
    rw [if_neg (by simpa using c1), ix_of (by omega), zE hb, bS]
    have ed : y.getD ts[i].toNat 0 = y[ts[i].toNat] := by rw [zD, zE hb]; rfl
    rw [ed] at hu
    by_cases c2 : y[ts[i].toNat] < 0
    ·rw [if_pos c2] at hu
     rw [if_pos c2]
     exact ⟨_, rfl, _, rfl, hu, by rw [List.length_set]; exact hl⟩
    ·rw [if_neg c2] at hu
     rw [if_neg c2]
     by_cases c3 : y[ts[i].toNat] = vs[i]
     ·rw [if_pos c3] at hu
      rw [if_neg (by simpa using c3)]
      exact ⟨_, rfl, y, rfl, hu, hl⟩
     ·rw [if_neg c3] at hu
      rw [if_pos (by simpa using c3)]
      refine ⟨_, rfl, ?_⟩
      rw [← hu]) (fun s ⟨y, hs, hu, hl⟩ => by
   subst hs
   simp only [f157_0]
   rw [if_neg (by omega)]
   rw [uni_nil (List.drop_of_length_le (Nat.le_refl _))] at hu
   exact ⟨_, rfl, by rw [← hu]⟩) (x, 0) ⟨x, rfl, by simp, rfl⟩
 rw [e, bS]
 cases uni ts vs x <;> rfl
theorem specMeet {x : List Int} {a : Atom} {f : Fact} (hx : x.length ≤ 8) (h : f.Relation = a.Relation → FitT x.length a.Terms f.Values) :
  Ens (f197 a f x) fun r => match (if f.Relation = a.Relation then uni a.Terms f.Values x else none) with | some y => r = (y, true) | none => r.2 = false := by
 unfold f197
 rw [app_fits (by simp; omega), bS, List.nil_append]
 by_cases hr : f.Relation = a.Relation
 ·obtain ⟨h1, h2, h3⟩ := h hr
  rw [if_pos hr, if_neg (by simpa using hr), bS, if_neg (by simp [h1])]
  refine Ens.bind (Q := fun o => match uni a.Terms f.Values x with | some y => o = .inl y | none => ∃ z, o = .inr (z, false)) ?_ fun o ho => ?_
  ·refine iter_up (f := f197_0 a f) a.Terms.length (fun i s => ∃ y, s = (y, (i : Int)) ∧ uni (a.Terms.drop i) (f.Values.drop i) y = uni a.Terms f.Values x ∧ y.length = x.length) _ (fun i s hi ⟨y, hs, hu, hl⟩ => ?_) (fun s ⟨y, hs, hu, hl⟩ => ?_) (x, 0) ⟨x, rfl, by simp, rfl⟩
   ·subst hs
    have hv : i < f.Values.length := by omega
    have ht := h3 _ (List.getElem_mem hi)
    rw [List.drop_eq_getElem_cons hi, List.drop_eq_getElem_cons hv, uni] at hu
    simp only [f197_0]
    rw [if_pos (by omega), ix_nat hi, bS, w64_succ (by omega)]
    simp only [bS, ix_nat hv]
    by_cases c1 : a.Terms[i] < 0
    ·rw [if_pos c1] at hu
     rw [if_pos c1, w64_of (by omega)]
     by_cases c2 : -1 - a.Terms[i] = f.Values[i]
     ·rw [if_pos c2] at hu
      rw [if_neg (by simpa using c2)]
      exact ⟨_, rfl, y, rfl, hu, hl⟩
     ·rw [if_neg c2] at hu
      rw [if_pos (by simpa using c2)]
      refine ⟨_, rfl, ?_⟩
      dsimp only
      rw [← hu]; exact ⟨_, rfl⟩
    ·rw [if_neg c1] at hu
     have hb : a.Terms[i].toNat < y.length := by omega
     rw [if_neg c1, ix_of (by omega), zE hb, bS]
     have ed : y.getD a.Terms[i].toNat 0 = y[a.Terms[i].toNat] := by rw [zD, zE hb]; rfl
     rw [ed] at hu
     by_cases c2 : y[a.Terms[i].toNat] < 0
     ·rw [if_pos c2] at hu
      rw [if_neg (by omega), bS, if_neg (by simp)]
      exact ⟨_, rfl, _, rfl, hu, by rw [List.length_set]; exact hl⟩
     ·rw [if_neg c2] at hu
      rw [if_pos (by omega), bS]
      by_cases c3 : y[a.Terms[i].toNat] = f.Values[i]
      ·rw [if_pos c3] at hu
       rw [if_neg (by simpa using c3)]
       exact ⟨_, rfl, _, rfl, by rw [set_same hb c3]; exact hu, by rw [List.length_set]; exact hl⟩
      ·rw [if_neg c3] at hu
       rw [if_pos (by simpa using c3)]
       refine ⟨_, rfl, ?_⟩
       dsimp only
       rw [← hu]; exact ⟨_, rfl⟩
   ·subst hs
    simp only [f197_0]
    rw [if_neg (by omega)]
    rw [uni_nil (List.drop_of_length_le (Nat.le_refl _))] at hu
    exact ⟨_, rfl, by rw [← hu]⟩
  ·revert ho
   cases uni a.Terms f.Values x with
   | some y => intro ho; dsimp only at ho; subst ho; exact Ens.of rfl
   | none => rintro ⟨z, rfl⟩; exact Ens.of rfl
 ·rw [if_neg hr, if_pos (by simpa using hr), bS, if_pos rfl]
  exact Ens.of rfl
theorem noneOk {n : Int} (h0 : 0 ≤ n) (h4 : n ≤ 4) : f163 n = some (List.replicate n.toNat (-1)) := by
 unfold f163
 have := iter_steps (f := f163_0 n) (fun i => List.replicate i (-1)) n.toNat (List.replicate n.toNat (-1)) (fun i hi => by
  simp only [f163_0]
  rw [if_pos (by simp; omega), app_fits (by simp; omega), bS, List.replicate_succ']) (by
  simp only [f163_0]
  rw [if_neg (by simp <;> omega)])
 simp only [List.replicate_zero] at this
 rw [this]; rfl
theorem unknownOk {n : Int} (h0 : 0 ≤ n) (h4 : n ≤ 4) : f158 n = some (List.replicate n.toNat (-1)) := by
 have : n = 0 ∨ n = 1 ∨ n = 2 ∨ n = 3 ∨ n = 4 := by omega
 unfold f158 f185
 rcases this with rfl | rfl | rfl | rfl | rfl
 ·have e : f204 (IntKind.u64.wrap (([-1] : List Int).length : Int)) (IntKind.u64.wrap 0) = some (0, 0) := by decide
  rw [e]
  rw [if_neg (by decide), bS, bS, if_neg (by decide), bS, if_neg (by decide), bS, w64_of (by decide), mkl_ok (by decide) (by decide) (by decide), bS]
  exact (congrArg (fun o => (Option.bind o fun o => some o).bind fun o => some o) (iter_of (f := f185_0) (n := 5) (s := ([], 0)) (r := []) (by decide)))
 ·have e : f204 (IntKind.u64.wrap (([-1] : List Int).length : Int)) (IntKind.u64.wrap 1) = some (0, 1) := by decide
  rw [e]
  rw [if_neg (by decide), bS, bS, if_neg (by decide), bS, if_neg (by decide), bS, w64_of (by decide), mkl_ok (by decide) (by decide) (by decide), bS]
  exact (congrArg (fun o => (Option.bind o fun o => some o).bind fun o => some o) (iter_of (f := f185_0) (n := 5) (s := ([-1], 1)) (r := [-1]) (by decide)))
 ·have e : f204 (IntKind.u64.wrap (([-1] : List Int).length : Int)) (IntKind.u64.wrap 2) = some (0, 2) := by decide
  rw [e]
  rw [if_neg (by decide), bS, bS, if_neg (by decide), bS, if_neg (by decide), bS, w64_of (by decide), mkl_ok (by decide) (by decide) (by decide), bS]
  exact (congrArg (fun o => (Option.bind o fun o => some o).bind fun o => some o) (iter_of (f := f185_0) (n := 5) (s := ([-1, 0], 1)) (r := [-1, -1]) (by decide)))
 ·have e : f204 (IntKind.u64.wrap (([-1] : List Int).length : Int)) (IntKind.u64.wrap 3) = some (0, 3) := by decide
  rw [e]
  rw [if_neg (by decide), bS, bS, if_neg (by decide), bS, if_neg (by decide), bS, w64_of (by decide), mkl_ok (by decide) (by decide) (by decide), bS]
  exact (congrArg (fun o => (Option.bind o fun o => some o).bind fun o => some o) (iter_of (f := f185_0) (n := 5) (s := ([-1, 0, 0], 1)) (r := [-1, -1, -1]) (by decide)))
 ·have e : f204 (IntKind.u64.wrap (([-1] : List Int).length : Int)) (IntKind.u64.wrap 4) = some (0, 4) := by decide
  rw [e]
  rw [if_neg (by decide), bS, bS, if_neg (by decide), bS, if_neg (by decide), bS, w64_of (by decide), mkl_ok (by decide) (by decide) (by decide), bS]
  exact (congrArg (fun o => (Option.bind o fun o => some o).bind fun o => some o) (iter_of (f := f185_0) (n := 5) (s := ([-1, 0, 0, 0], 1)) (r := [-1, -1, -1, -1]) (by decide)))
end
section
theorem sorted_ext {a b : List Int} (ha : a.Pairwise (· ≤ ·)) (hb : b.Pairwise (· ≤ ·)) (h : a.Perm b) : a = b :=
 h.eq_of_pairwise (fun x y _ _ h1 h2 => by omega) ha hb
theorem slotI {l out : List Int} {i : Nat} (hi : i < l.length) (ho : out.length ≤ 1048576) :
  ∃ k : Nat, iter (f113_1 l out i) (out.length : Int) = some (k : Int) ∧ k ≤ out.length ∧ (∀ j (hj : j < out.length), k ≤ j → l[i] < out[j]) ∧ (∀ h : 0 < k, ∀ hk : k - 1 < out.length, out[k - 1] ≤ l[i]) := by
 obtain ⟨o, h1, k, rfl, h2⟩ := iter_up (f := f113_1 l out i) out.length (fun t s => s = ((out.length - t : Nat) : Int) ∧ ∀ j (hj : j < out.length), out.length - t ≤ j → l[i] < out[j])
  (fun o => ∃ k : Nat, o = (k : Int) ∧ k ≤ out.length ∧ (∀ j (hj : j < out.length), k ≤ j → l[i] < out[j]) ∧ (∀ h : 0 < k, ∀ hk : k - 1 < out.length, out[k - 1] ≤ l[i])) (fun t s ht ⟨h, hp⟩ => by
   subst h
   simp only [f113_1]
   rw [if_pos (by omega), w64_of (by omega), show ((out.length - t : Nat) : Int) - 1 = ((out.length - t - 1 : Nat) : Int) by omega, ix_nat (by omega), ix_nat hi]
   simp only [bS]
   by_cases hc : l[i] < out[out.length - t - 1]'(by omega)
   ·rw [if_pos (by simpa using hc)]
    refine ⟨_, rfl, ?_, fun j hj hle => ?_⟩
    ·omega
    ·by_cases e : j = out.length - t - 1
     ·subst e; exact hc
     ·exact hp j hj (by omega)
   ·rw [if_neg (by simpa using hc)]
    exact ⟨_, rfl, out.length - t, rfl, by omega, hp, fun _ _ => by omega⟩) (fun s ⟨h, hp⟩ => by
   subst h
   simp only [f113_1]
   rw [if_neg (by omega)]
   exact ⟨_, by simp; rfl, 0, by simp, by omega, fun j hj _ => hp j hj (by omega), fun h => by omega⟩) (out.length : Int) ⟨by simp, fun j hj h => by omega⟩
 exact ⟨k, h1, h2⟩
theorem ins_sorted {out : List Int} {v : Int} {k : Nat} (hs : out.Pairwise (· ≤ ·)) (hk : k ≤ out.length) (h1 : ∀ j (hj : j < out.length), k ≤ j → v < out[j]) (h2 : ∀ h : 0 < k, ∀ hk : k - 1 < out.length, out[k - 1] ≤ v) :
  (out.take k ++ v :: out.drop k).Pairwise (· ≤ ·) := by
 rw [List.pairwise_append]
 have hp := List.pairwise_iff_getElem.1 hs
 have lo : ∀ a ∈ out.take k, a ≤ v := fun a ha => by
  obtain ⟨i, hi, rfl⟩ := List.getElem_of_mem ha
  rw [List.length_take] at hi
  rw [List.getElem_take]
  have h3 := h2 (by omega) (by omega)
  by_cases e : i = k - 1
  ·subst e; exact h3
  ·have := hp i (k - 1) (by omega) (by omega) (by omega); omega
 have hi : ∀ b ∈ out.drop k, v < b := fun b hb => by
  obtain ⟨i, hi, rfl⟩ := List.getElem_of_mem hb
  rw [List.length_drop] at hi
  rw [List.getElem_drop]
  exact h1 (k + i) (by omega) (by omega)
 refine ⟨hs.sublist (List.take_sublist _ _), List.pairwise_cons.2 ⟨fun b hb => by have := hi b hb; omega, hs.sublist (List.drop_sublist _ _)⟩, fun a ha b hb => ?_⟩
 have := lo a ha
 rcases List.mem_cons.1 hb with rfl | hb
 ·exact this
 ·have := hi b hb; omega
theorem specSorted {l : List Int} (h : l.length ≤ 1048576) : Ens (f113 l) fun r => r.Pairwise (· ≤ ·) ∧ r.Perm l := by
 unfold f113
 refine Ens.bind (Q := fun r => r.Pairwise (· ≤ ·) ∧ r.Perm l) ?_ fun r hr => Ens.of hr
 refine iter_up (f := f113_0 l) l.length (fun i s => ∃ out, s = (out, (i : Int)) ∧ out.Pairwise (· ≤ ·) ∧ out.Perm (l.take i)) _ (fun i s hi ⟨out, h, hp, hq⟩ => by
  subst h
  have hl := hq.length_eq
  rw [List.length_take] at hl
  obtain ⟨k, k1, k2, k3, k4⟩ := slotI (l := l) (out := out) (i := i) hi (by omega)
  simp only [f113_0]
  rw [if_pos (by omega), k1, bS, cutL_ok (by omega) (by omega) (by omega), bS, ix_nat hi, bS, cutL_ok (by omega) (by omega) (by omega), bS]
  have d1 : (out.take ((k : Nat) : Int).toNat).drop (0 : Int).toNat = out.take k := by simp
  have d2 : (out.take ((out.length : Nat) : Int).toNat).drop ((k : Nat) : Int).toNat = out.drop k := by simp
  rw [d1, d2, app_fits (by simp; omega), bS, app_fits (by simp; omega), bS, app_fits (by simp; omega), bS, w64_succ (by omega)]
  refine ⟨_, rfl, out.take k ++ l[i] :: out.drop k, by simp, ins_sorted hp k2 k3 k4, ?_⟩
  rw [take_succ' hi]
  refine List.perm_middle.trans ?_
  rw [List.take_append_drop]
  exact (List.Perm.cons _ hq).trans (List.perm_append_singleton _ _).symm) (fun s ⟨out, h, hp, hq⟩ => by
  subst h
  simp only [f113_0]
  rw [List.take_of_length_le (Nat.le_refl _)] at hq
  exact ⟨_, by rw [if_neg (by omega)], hp, hq⟩) _ ⟨[], by simp, by simp, by simp⟩
end
section
variable {d : Database} {q : Query}
def FitsDQ (d : Database) (q : Query) : Prop := Fits d ∧ FitsQ q
def good2 (d : Database) (q : Query) : Bool := vDb d && vQuery d.Relations q
theorem specFor (h : FitsDQ d q) : f18 d q = some (good2 d q) := by
 unfold f18
 have h1 := fits_room h.1
 rw [specDb h1, bS]
 unfold good2
 cases vDb d
 ·rfl
 ·rw [if_pos rfl, specQ h1.1 h.2]; rfl
theorem impFor (h : FitsDQ d q) : f45 d q = some (good2 d q) := by
 unfold f45
 have h1 := fits_room h.1
 rw [impDb h1, bS]
 unfold good2
 cases vDb d
 ·rfl
 ·rw [if_pos rfl, impQ h1.1 h.2]; rfl
theorem good2_of (h : good2 d q = true) : vDb d = true ∧ vQuery d.Relations q = true := by unfold good2 at h; simpa using h
theorem fit_atom (hg : good2 d q = true) {x : List Int} (hx : x.length = q.VariableCount.toNat) {k i : Nat} (hk : k < q.Atoms.length) (hi : i < d.Facts.length) (hr : d.Facts[i].Relation = q.Atoms[k].Relation) : FitT x.length q.Atoms[k].Terms d.Facts[i].Values := by
 obtain ⟨h1, h2⟩ := good2_of hg
 obtain ⟨t1, t2⟩ := vq_atom h2 hk
 have hf := fact_ok h1 hi
 unfold vFact at hf
 simp only [Bool.and_eq_true, decide_eq_true_eq] at hf
 have hv := vq_vars h2
 have ha := vRels_arity (vDb_of h1).1 hf.1
 rw [← hr] at t1
 refine ⟨by omega, by omega, fun t ht => ?_⟩
 have := t2 t ht
 omega
theorem step_of {a : Atom} {x : List Int} {i : Nat} (hi : i < d.Facts.length) : step d.Facts a x i = if d.Facts[i].Relation = a.Relation then uni a.Terms d.Facts[i].Values x else none := by
 unfold step
 rw [zE hi]
theorem emb_eq {F : List Fact} {a : Atom} {az : List Atom} {x s : List Int} : emb F (a :: az) x s = (List.range F.length).flatMap fun i => match step F a x i with | some y => emb F az y (s ++ [((i : Nat) : Int)]) | none => [] := rfl
theorem emb_part {F : List Fact} {a : Atom} {az : List Atom} {x s : List Int} {i : Nat} (hF : F.length ≤ 14) : ((List.range i).flatMap fun i => match step F a x i with | some y => emb F az y (s ++ [((i : Nat) : Int)]) | none => []).length ≤ i * 14 ^ az.length := by
 refine Nat.le_trans (flat_le (m := 14 ^ az.length) fun j _ => ?_) (by rw [List.length_range]; exact Nat.le_refl _)
 split
 ·exact Nat.le_trans emb_len (Nat.pow_le_pow_left hF _)
 ·simp
theorem impWalk (hg : good2 d q = true) (hf : FitsDQ d q) : ∀ (r n : Nat) {x s : List Int} {out : List Embedding}, s.length + r = q.Atoms.length → r < n → x.length = q.VariableCount.toNat → out.length + 14 ^ r ≤ 1000000 →
  f155 n x s q out d = some (out ++ emb d.Facts (q.Atoms.drop s.length) x s)
 | r, 0, x, s, out, _, h, _, _ => by omega
 | 0, n + 1, x, s, out, hs, _, hx, ho => by
  obtain ⟨h1, h2⟩ := good2_of hg
  have hv := vq_vars h2
  have hl := vq_len h2
  rw [f155]
  dsimp only
  rw [if_pos (by omega), cloneI (by omega), bS, cloneI (by omega), bS, app_fits (by simp; omega), bS, List.drop_of_length_le (by omega)]
  rfl
 | r + 1, n + 1, x, s, out, hs, hn, hx, ho => by
  obtain ⟨h1, h2⟩ := good2_of hg
  have hv := vq_vars h2
  have hl := vq_len h2
  have hF := (vDb_of h1).2.1
  have hk : s.length < q.Atoms.length := by omega
  rw [f155]
  dsimp only
  rw [if_neg (by omega), ix_nat hk, bS, List.drop_eq_getElem_cons hk, emb_eq]
  have it := iter_steps (f := f155_0 x s q d (f155 n) q.Atoms[s.length]) (fun i => (out ++ ((List.range i).flatMap fun i => match step d.Facts q.Atoms[s.length] x i with | some y => emb d.Facts (q.Atoms.drop (s.length + 1)) y (s ++ [((i : Nat) : Int)]) | none => []), (i : Int))) d.Facts.length
   (out ++ ((List.range d.Facts.length).flatMap fun i => match step d.Facts q.Atoms[s.length] x i with | some y => emb d.Facts (q.Atoms.drop (s.length + 1)) y (s ++ [((i : Nat) : Int)]) | none => [])) (fun i hi => by
    have hp := emb_part (F := d.Facts) (a := q.Atoms[s.length]) (az := q.Atoms.drop (s.length + 1)) (x := x) (s := s) (i := i) hF
    have hd : (q.Atoms.drop (s.length + 1)).length = r := by rw [List.length_drop]; omega
    have hb := Nat.mul_le_mul_right (14 ^ r) (show i + 1 ≤ 14 by omega)
    rw [hd] at hp
    rw [Nat.add_mul, Nat.one_mul] at hb
    rw [Nat.pow_succ] at ho
    simp only [f155_0]
    rw [if_pos (by omega), ix_nat hi, w64_succ (by omega), List.range_succ, List.flatMap_append]
    simp only [bS, List.flatMap_singleton]
    rw [step_of hi]
    by_cases hr : d.Facts[i].Relation = q.Atoms[s.length].Relation
    ·rw [if_neg (by simpa using hr), if_pos hr, impUni (by omega) (fit_atom hg hx hk hi hr)]
     cases hu : uni q.Atoms[s.length].Terms d.Facts[i].Values x with
     | none => simp
     | some y =>
      have hy := uni_len hu
      simp only [bS, if_true]
      rw [cloneI (by omega), bS, app_fits (by simp; omega), bS, impWalk hg hf r n (by simp; omega) (by omega) (by omega) (by rw [List.length_append]; omega)]
      simp
    ·rw [if_pos (by simpa using hr), if_neg hr]
     simp) (by
    simp only [f155_0]
    rw [if_neg (by omega)])
  simp only [List.range_zero, List.flatMap_nil, List.append_nil, Int.natCast_zero, Int.ofNat_zero] at it
  erw [it]
  rfl
theorem specWalk (hg : good2 d q = true) (hf : FitsDQ d q) : ∀ (r n : Nat) {k : Nat} {x s : List Int}, k + r = q.Atoms.length → s.length = k → r < n → x.length = q.VariableCount.toNat →
  f162 n d q (k : Int) x s = some (emb d.Facts (q.Atoms.drop k) x s)
 | r, 0, k, x, s, _, _, h, _ => by omega
 | 0, n + 1, k, x, s, hs, hsl, _, hx => by
  obtain ⟨h1, h2⟩ := good2_of hg
  have hv := vq_vars h2
  have hl := vq_len h2
  rw [f162]
  dsimp only
  rw [if_pos (by omega), app_fits (by simp; omega), bS, app_fits (by simp; omega), bS, List.drop_of_length_le (by omega)]
  rfl
 | r + 1, n + 1, k, x, s, hs, hsl, hn, hx => by
  obtain ⟨h1, h2⟩ := good2_of hg
  have hv := vq_vars h2
  have hl := vq_len h2
  have hF := (vDb_of h1).2.1
  have hk : k < q.Atoms.length := by omega
  have hp3 : 14 ^ r ≤ 196 := Nat.le_trans (Nat.pow_le_pow_right (n := 14) (by omega) (show r ≤ 2 by omega)) (by decide)
  rw [f162]
  dsimp only
  rw [if_neg (by omega), List.drop_eq_getElem_cons hk, emb_eq]
  have it := iter_steps (f := f162_0 d q k x s (f162 n)) (fun i => (((List.range i).flatMap fun i => match step d.Facts q.Atoms[k] x i with | some y => emb d.Facts (q.Atoms.drop (k + 1)) y (s ++ [((i : Nat) : Int)]) | none => []), (i : Int))) d.Facts.length
   (((List.range d.Facts.length).flatMap fun i => match step d.Facts q.Atoms[k] x i with | some y => emb d.Facts (q.Atoms.drop (k + 1)) y (s ++ [((i : Nat) : Int)]) | none => [])) (fun i hi => by
    have hp := emb_part (F := d.Facts) (a := q.Atoms[k]) (az := q.Atoms.drop (k + 1)) (x := x) (s := s) (i := i) hF
    have hd : (q.Atoms.drop (k + 1)).length = r := by rw [List.length_drop]; omega
    have hb := Nat.mul_le_mul_right (14 ^ r) (show i ≤ 14 by omega)
    rw [hd] at hp
    simp only [f162_0]
    rw [if_pos (by omega), ix_nat hk, bS, ix_nat hi, bS, w64_succ (i := i) (by omega), List.range_succ, List.flatMap_append]
    simp only [List.flatMap_singleton]
    obtain ⟨m, hm, hq⟩ := specMeet (x := x) (a := q.Atoms[k]) (f := d.Facts[i]) (by omega) (fun hr => fit_atom hg hx hk hi hr)
    rw [← step_of (x := x) hi] at hq
    rw [hm, bS]
    cases hu : step d.Facts q.Atoms[k] x i with
    | none =>
     rw [hu] at hq
     dsimp only at hq
     rw [hq]
     simp
    | some y =>
     rw [hu] at hq
     dsimp only at hq
     subst hq
     have hy : y.length = x.length := by
      rw [step_of hi] at hu
      split at hu
      ·exact uni_len hu
      ·cases hu
     have he := emb_len (F := d.Facts) (az := q.Atoms.drop (k + 1)) (x := y) (s := s ++ [((i : Nat) : Int)])
     have he2 := Nat.pow_le_pow_left hF (q.Atoms.drop (k + 1)).length
     rw [hd] at he he2
     simp only [if_true]
     rw [app_fits (by simp; omega), bS, app_fits (by simp; omega), bS, w64_succ (i := k) (by omega), List.nil_append, specWalk hg hf r n (by omega) (by simp; omega) (by omega) (by omega), bS, app_fits (by omega)]
     simp) (by
    simp only [f162_0]
    rw [if_neg (by omega)])
  simp only [List.range_zero, List.flatMap_nil, Int.natCast_zero, Int.ofNat_zero] at it
  erw [it]
  rfl
theorem embs_of (hg : good2 d q = true) : embs d q = emb d.Facts q.Atoms (List.replicate q.VariableCount.toNat (-1)) [] := by
 unfold embs
 unfold good2 at hg
 rw [if_pos hg]
theorem embs_no (hg : good2 d q = false) : embs d q = [] := by
 unfold embs
 unfold good2 at hg
 rw [if_neg (by rw [hg]; simp)]
theorem embImp (hf : FitsDQ d q) : f106 d q = some (embs d q) := by
 unfold f106
 rw [impFor hf, bS]
 cases hg : good2 d q
 ·rw [if_pos (by simp), embs_no hg]
 ·have hv := vq_vars (good2_of hg).2
  have hl := vq_len (good2_of hg).2
  rw [if_neg (by simp), unknownOk (by omega) (by omega), bS, impWalk hg hf q.Atoms.length 64 (by simp) (by omega) (by simp) ?_]
  ·simp [embs_of hg]
  ·have := Nat.pow_le_pow_right (n := 14) (by omega) hl.1
   simp; omega
theorem embSpec (hf : FitsDQ d q) : f112 d q = some (embs d q) := by
 unfold f112
 rw [specFor hf, bS]
 cases hg : good2 d q
 ·rw [if_pos (by simp), embs_no hg]
 ·have hv := vq_vars (good2_of hg).2
  have hl := vq_len (good2_of hg).2
  have := specWalk hg hf q.Atoms.length 64 (k := 0) (x := List.replicate q.VariableCount.toNat (-1)) (s := []) (by omega) rfl (by omega) (by simp)
  rw [if_neg (by simp), noneOk (by omega) (by omega), bS]
  simp only [Int.natCast_zero, Int.ofNat_zero] at this
  erw [this]
  simp [embs_of hg]
end
section
variable {d : Database} {q : Query}
theorem specSel {l : List Int} (hf : Fits d) (hl : l.length ≤ 1048576) : f43 d l = some (if (vDb d && asc d.Facts.length l) = true then (sel d l, true) else (⟨[], []⟩, false)) := by
 unfold f43
 have hr := fits_room hf
 rw [specDb hr, bS]
 cases hv : vDb d
 ·simp
 ·rw [if_neg (by simp), specSet hr.2.1 (by omega)]
  cases ha : asc d.Facts.length l
  ·simp
  ·have h14 := (vDb_of hv).2.1
   have hr4 := vRels_len (vDb_of hv).1
   have hl2 := asc_len ha
   have hm := (asc_of ha).2
   simp only [bS]
   rw [if_neg (by simp), app_fits (by simp; omega), bS]
   have it := iter_steps (f := f43_0 d l) (fun i => (d.Relations, (l.take i).map (fat d), (i : Int))) l.length (d.Relations, l.map (fat d)) (fun i hi => by
    have hb := hm _ (List.getElem_mem hi)
    have hn : l[i].toNat < d.Facts.length := by omega
    have e : fat d l[i] = d.Facts[l[i].toNat] := by
     have : l[i] = ((l[i].toNat : Nat) : Int) := by omega
     conv => lhs; rw [this]
     exact fat_get hn
    have hv2 := hf.2.2 _ (List.getElem_mem hn)
    simp only [f43_0]
    rw [if_pos (by omega), ix_nat hi, bS, ix_of hb.1, zE hn, bS, app_fits (by simp; omega), bS, app_fits (by simp; omega), bS, w64_succ (by omega), take_succ' hi, List.map_append, List.map_singleton, e]
    simp) (by
    simp only [f43_0]
    rw [if_neg (by omega), List.take_of_length_le (Nat.le_refl _)])
   simp only [List.take_zero, List.map_nil, Int.natCast_zero, Int.ofNat_zero] at it
   rw [List.nil_append]
   erw [it]
   rfl
theorem specCon (hf : Fits d) : f164 d = some (vDb d && decide ((blks (skOf d) d.Facts.length d.Facts.length).length = d.Facts.length)) := by
 unfold f164
 rw [specDb (fits_room hf), bS]
 cases hv : vDb d
 ·rfl
 ·rw [if_pos rfl, blocksSpec hv hf]
  simp
  omega
theorem con_sel {l : List Int} (hv : vDb d = true) (ha : asc d.Facts.length l = true) : (vDb (sel d l) && decide ((blks (skOf (sel d l)) (sel d l).Facts.length (sel d l).Facts.length).length = (sel d l).Facts.length)) = decide (apart d l) := by
 rw [sel_v hv ha, Bool.true_and, sel_len]
 exact decide_eq_decide.2 con_iff
theorem specPart {l : List Int} (hf : Fits d) (hl : l.length ≤ 1048576) : f114 d l = some (prt d l) := by
 unfold f114
 rw [specSel hf hl, bS]
 unfold prt
 cases hv : vDb d
 ·simp
 ·cases ha : asc d.Facts.length l
  ·simp
  ·simp only [Bool.and_self, if_true]
   rw [specCon (sel_fits hf ha), bS, con_sel hv ha]
   simp
def srt (l : List Int) : List Int := l.mergeSort fun a b => decide (a ≤ b)
theorem srt_perm {l : List Int} : (srt l).Perm l := List.mergeSort_perm _ _
theorem srt_up {l : List Int} : (srt l).Pairwise (· ≤ ·) := by
 have := List.pairwise_mergeSort (le := fun a b : Int => decide (a ≤ b)) (fun a b c h1 h2 => by simp at *; omega) (fun a b => by simp; omega) l
 exact this.imp fun h => by simpa using h
theorem srt_of {l r : List Int} (h1 : r.Pairwise (· ≤ ·)) (h2 : r.Perm l) : r = srt l := sorted_ext h1 srt_up (h2.trans srt_perm.symm)
def wits (d : Database) (q : Query) : List (List Int) := (embs d q).map fun e => srt e.Facts
theorem wits_len : (wits d q).length ≤ 2744 := by unfold wits; rw [List.length_map]; exact embs_len
theorem wits_prt {w : List Int} (h : w ∈ wits d q) : prt d w = true ∧ w.length ≤ 3 := by
 unfold wits at h
 rw [List.mem_map] at h
 obtain ⟨e, he, rfl⟩ := h
 exact embs_prt he srt_up srt_perm
theorem embs_short {e : Embedding} (h : e ∈ embs d q) : e.Facts.length ≤ 3 := by
 have := (embs_prt h srt_up srt_perm).2
 rw [srt_perm.length_eq] at this; exact this
theorem witSpec (hf : FitsDQ d q) : f62 d q = some (wits d q) := by
 unfold f62
 rw [embSpec hf, bS]
 have it := iter_steps (f := f62_0 d (embs d q)) (fun i => (((embs d q).take i).map fun e => srt e.Facts, (i : Int))) (embs d q).length (wits d q) (fun i hi => by
  have hm := List.getElem_mem hi
  have h3 := embs_short hm
  have hl := embs_len (d := d) (q := q)
  obtain ⟨r, hr, h1, h2⟩ := specSorted (l := (embs d q)[i].Facts) (by omega)
  have := srt_of h1 h2
  subst this
  have hp := embs_prt hm srt_up srt_perm
  simp only [f62_0]
  rw [if_pos (by omega), ix_nat hi, bS, hr, bS, specPart hf.1 (by omega), hp.1, bS, if_pos rfl, app_fits (by simp; omega), bS, bS, w64_succ (by omega), take_succ' hi, List.map_append]
  rfl) (by
  simp only [f62_0]
  rw [if_neg (by omega), List.take_of_length_le (Nat.le_refl _)]; rfl)
 simp only [List.take_zero, List.map_nil, Int.natCast_zero, Int.ofNat_zero] at it
 erw [it]
 rfl
theorem witImp (hf : FitsDQ d q) : f55 d q = some (wits d q) := by
 unfold f55
 rw [embImp hf, bS]
 have it := iter_steps (f := f55_0 (embs d q)) (fun i => (((embs d q).take i).map fun e => srt e.Facts, i, (i : Int))) (embs d q).length (wits d q) (fun i hi => by
  have hm := List.getElem_mem hi
  have h3 := embs_short hm
  have hl := embs_len (d := d) (q := q)
  obtain ⟨r, hr, h1, h2⟩ := sort12 (x := (embs d q)[i].Facts) (by omega)
  have := srt_of h1 h2
  subst this
  simp only [f55_0]
  unfold ml
  rw [if_pos (by omega), if_pos rfl, zE hi, bS, hr, bS, app_fits (by simp; omega), bS, w64_succ (by omega), take_succ' hi, List.map_append]
  rfl) (by
  simp only [f55_0]
  rw [if_neg (by omega), List.take_of_length_le (Nat.le_refl _)]; rfl)
 simp only [List.take_zero, List.map_nil, Int.natCast_zero, Int.ofNat_zero] at it
 erw [it]
 rfl
end
section
variable {n : Nat} {sk : Nat → Nat → Bool}
theorem blk_mem {i x : Nat} {j : Int} : j ∈ blk sk i x ↔ ∃ k : Nat, k < x ∧ j = k ∧ sk i k = true := by
 unfold blk
 rw [List.mem_flatMap]
 constructor
 ·rintro ⟨k, hk, h⟩
  split at h
  ·rename_i c
   exact ⟨k, List.mem_range.1 hk, by simpa using h, c⟩
  ·cases h
 ·rintro ⟨k, h1, h2, h3⟩
  exact ⟨k, List.mem_range.2 h1, by rw [if_pos h3]; simp [h2]⟩
theorem blk_eq (K : Kin n sk) {s i : Nat} (hs : s < n) (hi : i < n) (h : sk s i = true) : blk sk s n = blk sk i n := by
 unfold blk
 rw [List.flatMap_def, List.flatMap_def]
 congr 1
 refine List.map_congr_left fun k hk => ?_
 rw [List.mem_range] at hk
 have : sk s k = sk i k := by
  rw [Bool.eq_iff_iff]
  refine ⟨fun a => K.trans i s k hi hs hk ?_ a, fun a => K.trans s i k hs hi hk h a⟩
  rw [K.symm i s hi hs]; exact h
 rw [this]
theorem mem_blks {y x : Nat} {B : List Int} : B ∈ blks sk y x ↔ ∃ s, s < y ∧ start sk s = true ∧ B = blk sk s x := by
 unfold blks
 rw [List.mem_flatMap]
 constructor
 ·rintro ⟨k, hk, h⟩
  split at h
  ·rename_i c
   exact ⟨k, List.mem_range.1 hk, c, by simpa using h⟩
  ·cases h
 ·rintro ⟨k, h1, h2, h3⟩
  exact ⟨k, List.mem_range.2 h1, by rw [if_pos h2]; simp [h3]⟩
theorem blks_find (K : Kin n sk) {i : Nat} (hi : i < n) : (blks sk n n).find? (fun B => B.contains ((i : Nat) : Int)) = some (blk sk i n) := by
 cases h : (blks sk n n).find? (fun B => B.contains ((i : Nat) : Int)) with
 | some B =>
  have h1 := List.mem_of_find?_eq_some h
  have h2 := List.find?_some h
  obtain ⟨s, s1, s2, rfl⟩ := mem_blks.1 h1
  rw [List.contains_iff_mem] at h2
  obtain ⟨k, k1, k2, k3⟩ := blk_mem.1 h2
  have : k = i := by omega
  subst this
  rw [blk_eq K s1 hi k3]
 | none =>
  exfalso
  rw [List.find?_eq_none] at h
  by_cases hs : start sk i = true
  ·exact h _ (mem_blks.2 ⟨i, hi, hs, rfl⟩) (by rw [List.contains_iff_mem]; exact blk_mem.2 ⟨i, hi, rfl, K.refl i hi⟩)
  ·obtain ⟨s, s1, s2, s3⟩ := not_start (by simpa using hs)
   refine h _ (mem_blks.2 ⟨s, by omega, start_iff.2 fun k hk => ?_, rfl⟩) (by rw [List.contains_iff_mem]; exact blk_mem.2 ⟨i, hi, rfl, s2⟩)
   cases c : sk k s
   ·rfl
   ·have := K.trans k s i (by omega) (by omega) hi c s2
    rw [s3 k hk] at this; cases this
theorem compact_mem : ∀ {l : List Int} {y : Int}, y ∈ compactL l ↔ y ∈ l
 | [], y => by simp [compactL]
 | [a], y => by simp [compactL]
 | a :: b :: r, y => by
  rw [compactL]
  split
  ·rename_i e
   subst e
   rw [compact_mem]; simp
  ·rw [List.mem_cons, compact_mem]; simp
end
section
def atomsSize (l : List Atom) : Nat := l.length + (l.map (·.Terms.length)).sum
def querySize (q : Query) : Nat := atomsSize q.Atoms + q.Free.length
theorem szAtom {a : Atom} {n : Int} (h : ok a) (h0 : 0 ≤ n) (h1 : n ≤ 1048576) : f118 a n = some (lft n a.Terms.length) := by
 unfold f118
 rw [szI h.2.1 h0 h1, bS]
 split
 ·rename_i hlt; rw [lft_bad hlt]
 ·rfl
theorem szAtoms {a : List Atom} {n : Int} (h : ok a) (h0 : 0 ≤ n) (h1 : n ≤ 1048576) : f67 a n = some (lft n (atomsSize a)) := by
 obtain ⟨h, h'⟩ := h
 unfold f67 atomsSize
 rw [w64_of (by omega)]
 by_cases hc : n < (a.length : Int)
 ·rw [if_pos (by omega)]
  unfold lft
  rw [if_neg (by omega)]
 ·rw [if_neg (by omega)]
  rw [iter_sz (fun x : Atom => x.Terms.length) a _ (by omega) (fun i hi b hb hb' => by
   simp only [f67_0]
   rw [if_pos (by omega), ix_nat hi, w64_succ (by omega)]
   simp only [bS, szAtom (h' _ (List.getElem_mem hi)) hb (by omega)]
   split <;> rfl) (fun b => by
   simp only [f67_0]
   rw [if_neg (by omega)]), lft_sub hc]
  split
  ·rename_i hlt
   rw [lft_bad hlt]; rfl
  ·rfl
theorem lftq {n : Int} {a b : Nat} (h : ¬ lft n a < 0) : lft (lft n a) b = lft n (a + b) := by
 obtain ⟨e, h'⟩ := lft_pos h
 rw [e, lft_sub (by omega)]
theorem lftq_neg {n : Int} {a b : Nat} (h : lft n a < 0) : lft n (a + b) = -1 := by
 have := lft_neg.1 h
 unfold lft; rw [if_neg (by omega)]
theorem szQ {q : Query} {n : Int} (h : ok q) (h0 : 0 ≤ n) (h1 : n ≤ 1048576) : f27 q n = some (lft n (querySize q)) := by
 unfold f27 querySize
 rw [szAtoms h.2.1 h0 h1, bS]
 by_cases c1 : lft n (atomsSize q.Atoms) < 0
 ·rw [if_pos c1, lftq_neg c1]
 ·rw [if_neg c1]
  have b1 := lft_pos c1
  rw [szI h.2.2.1 (by omega) (by omega), bS, lftq c1]
  split
  ·rename_i hlt; rw [lft_bad hlt]
  ·rfl
theorem q_fits {q : Query} (h : querySize q ≤ 1048576) : FitsQ q := by
 unfold querySize atomsSize at h
 refine ⟨by omega, fun x hx => ?_, by omega⟩
 have := mem_le_sum (s := fun x : Atom => x.Terms.length) hx
 omega
theorem toAtm {a : Atom} (h : a.Terms.length ≤ 1048576) : f121 a = some a := by
 unfold f121
 rw [toI h]; rfl
theorem toAtoms {a : List Atom} (h : a.length ≤ 1048576) (h' : ∀ x ∈ a, x.Terms.length ≤ 1048576) : f71 a = some a := by
 unfold f71
 rw [mkl_ok (by omega) (by omega) (by omega)]
 have : iter (f71_0 a) (List.replicate (a.length : Int).toNat ({ Relation := 0, Terms := [] } : Atom), 0) = some a := iter_copy (by simp) (fun i hi out ho => by
  simp only [f71_0]
  rw [if_pos (by omega), ix_nat hi, ix_nat ho, Int.toNat_natCast, w64_succ (by omega)]
  simp only [bS, toAtm (h' _ (List.getElem_mem hi))]) (fun out => by
  simp only [f71_0]
  rw [if_neg (by omega)])
 simp only [bS, this]
theorem toQ {q : Query} (h : FitsQ q) : f29 q = some q := by
 unfold f29
 rw [toAtoms h.1 h.2.1, bS, toI h.2.2]; rfl
theorem eqAtm {a : Atom} (h : a.Terms.length ≤ 1048576) : f124 a a = some true := by
 unfold f124
 rw [if_neg (by simp), eqI (by omega)]; simp
theorem eqAtoms {a : List Atom} (h : a.length ≤ 1048576) (h' : ∀ x ∈ a, x.Terms.length ≤ 1048576) : f75 a a = some true := by
 unfold f75
 rw [if_neg (by simp)]
 rw [iter_ex (List.range a.length) (fun _ => false) false (fun i hi => by
  simp only [f75_0]
  simp only [List.length_range] at hi
  rw [if_pos (by omega), ix_nat hi, w64_succ (by omega)]
  simp only [bS, eqAtm (h' _ (List.getElem_mem hi))]
  simp) (by
  simp only [f75_0]
  rw [if_neg (by simp)])]
 simp
theorem eqQ {q : Query} (h : FitsQ q) : f31 q q = some true := by
 unfold f31
 have := h.2.2
 rw [if_neg (by simp), eqAtoms h.1 h.2.1, bS, if_neg (by simp), eqI (by omega)]; simp
end
section
variable {d : Database} {q : Query}
def nums (l : List Int) : Prop := l.length ≤ 1048576 ∧ ∀ v ∈ l, 0 ≤ v ∧ v ≤ 1048576
def posC (l : List Int) : List Int := l.map fun v => v + 1
def negC (l : List Int) : List Int := l.map fun v => -1 - v
def falsity (d : Database) (q : Query) : List (List Int) := if good2 d q = true then (blks (skOf d) d.Facts.length d.Facts.length).map posC ++ (wits d q).map negC else []
theorem blks_nums {B : List Int} (h14 : d.Facts.length ≤ 14) (h : B ∈ blks (skOf d) d.Facts.length d.Facts.length) : nums B ∧ B.length ≤ 14 := by
 obtain ⟨s, _, _, rfl⟩ := mem_blks.1 h
 have hl := blk_len (sk := skOf d) (i := s) (x := d.Facts.length)
 refine ⟨⟨by omega, fun v hv => ?_⟩, by omega⟩
 obtain ⟨k, k1, rfl, _⟩ := blk_mem.1 hv
 omega
def bks (d : Database) : List (List Int) := blks (skOf d) d.Facts.length d.Facts.length
theorem bks_few (h : d.Facts.length ≤ 14) : (bks d).length ≤ 14 ∧ ∀ x ∈ bks d, x.length ≤ 14 := by
 have := blks_len (sk := skOf d) (y := d.Facts.length) (x := d.Facts.length)
 exact ⟨by unfold bks; omega, fun x hx => (blks_nums h hx).2⟩
end
section
variable {d : Database}
theorem copyImp (hf : Fits d) : f36 d = some d := by
 unfold f36
 rw [app_fits (by have := hf.1; simp; omega), bS, List.nil_append]
 have it := iter_steps (f := f36_0 d) (fun i => (d.Relations, d.Facts.take i, (i : Int))) d.Facts.length (d.Relations, d.Facts) (fun i hi => by
  have h1 := hf.2.2 _ (List.getElem_mem hi)
  have h2 := hf.2.1
  simp only [f36_0]
  rw [if_pos (by omega), ix_nat hi, bS, app_fits (by simp; omega), bS, app_fits (by simp; omega), bS, w64_succ (by omega), take_succ' hi]
  simp) (by
  simp only [f36_0]
  rw [if_neg (by omega), List.take_of_length_le (Nat.le_refl _)])
 simp only [List.take_zero, Int.natCast_zero, Int.ofNat_zero] at it
 erw [it]
 rfl
theorem impSel {l : List Int} (hf : Fits d) (hl : l.length ≤ 1048576) : f37 d l = some (if (vDb d && asc d.Facts.length l) = true then (sel d l, true) else (⟨[], []⟩, false)) := by
 unfold f37
 have hr := fits_room hf
 rw [impDb hr, bS]
 cases hv : vDb d
 ·simp
 ·rw [if_neg (by simp), impSet hr.2.1 (by omega)]
  cases ha : asc d.Facts.length l
  ·simp
  ·have h14 := (vDb_of hv).2.1
   have hl2 := asc_len ha
   have hm := (asc_of ha).2
   simp only [bS]
   rw [if_neg (by simp), copyImp hf, bS]
   have hp := (asc_of ha).1
   have it := iter_steps (f := f37_0 l d.Facts) (fun i => (d.Relations, (l.take i).map (fat d), (l.take i).foldl (fun _ v => v.toNat + 1) 0, (i : Int))) l.length (d.Relations, l.map (fat d)) (fun i hi => by
    have hb := hm _ (List.getElem_mem hi)
    have hn : l[i].toNat < d.Facts.length := by omega
    have e : fat d l[i] = d.Facts[l[i].toNat] := by
     have : l[i] = ((l[i].toNat : Nat) : Int) := by omega
     conv => lhs; rw [this]
     exact fat_get hn
    have hk : (((l.take i).foldl (fun _ v => v.toNat + 1) 0 : Nat) : Int) ≤ l[i] := by
     cases i with
     | zero => simpa using hb.1
     | succ j =>
      have hj : j < l.length := by omega
      have := List.pairwise_iff_getElem.1 hp j (j + 1) hj hi (by omega)
      have hb2 := hm _ (List.getElem_mem hj)
      rw [take_succ' hj, List.foldl_append]
      simp only [List.foldl_cons, List.foldl_nil]
      omega
    have em : mlg d.Facts ((l.take i).foldl (fun _ v => v.toNat + 1) 0) l[i] = some d.Facts[l[i].toNat] := by
     unfold mlg
     rw [if_pos hk, ix_of hb.1, zE hn]
    simp only [f37_0]
    rw [if_pos (by omega), ix_nat hi, bS, em, bS, app_fits (by simp; omega), bS, w64_succ (by omega), take_succ' hi, List.map_append, List.map_singleton, e, List.foldl_append]
    rfl) (by
    simp only [f37_0]
    rw [if_neg (by omega), List.take_of_length_le (Nat.le_refl _)])
   simp only [List.take_zero, List.map_nil, List.foldl_nil, Int.natCast_zero, Int.ofNat_zero] at it
   erw [it]
   rfl
end
section
variable {d : Database} {q : Query}
end
section
def slit (n v : Int) : Bool := let y := if v < 0 ∧ v ≥ w64 (-n) then w64 (-v) else (if 0 > v then 0 else v); decide (1 ≤ y) && decide (y ≤ n)
def bef (c : List Int) (i : Nat) : Bool := (c.take i).any fun a => a == c.getD i 0 || a == w64 (-(c.getD i 0))
def clS (n : Int) (c : List Int) : Bool := !(List.range c.length).any fun i => !slit n (c.getD i 0) || bef c i
def valid (n : Int) (l : List (List Int)) : Bool := l.all (clS n) && ((decide (0 ≤ n) && decide (n ≤ 14)) && decide ((l.length : Int) ≤ 400))
end
section
end
section
section
variable {n : Nat} {sk : Nat → Nat → Bool}
end
variable {d : Database} {q : Query}
end
section
variable {d : Database}
end
section
variable {d : Database}
end
section
variable {x : List Int} (hx : x.length ≤ 1048576)
include hx
end
section
variable {x : List Int} (hx : x.length ≤ 16383)
include hx
end
section
variable {x : List Int} (hx : x.length ≤ 16383)
include hx
theorem pSort : Ens (f107 x) (·.Perm x) := by
 unfold f107 sortN srtL
 rw [if_pos (by omega)]
 exact Ens.of (List.mergeSort_perm _ _)
end
section
variable {d : Database} {q : Query}
theorem unionMem {a b : List Int} (h : a.length + b.length ≤ 16383) : Ens (f92 a b) fun r => (∀ y, y ∈ r ↔ y ∈ a ∨ y ∈ b) ∧ r.length ≤ a.length + b.length := by
 unfold f92
 have e : [a, b].flatten = a ++ b := by simp
 rw [concatN (by simp) (by rw [e]; simp; omega), e, bS]
 refine Ens.bind (pSort (by simp; omega)) fun r hr => ?_
 have hl := hr.length_eq
 simp only [List.length_append] at hl
 unfold f140 compactN
 rw [if_pos (by omega)]
 exact Ens.of ⟨fun y => by rw [compact_mem, hr.mem_iff, List.mem_append], by have := compactL_len r; omega⟩
def inW (d : Database) (q : Query) (i : Nat) : Bool := (wits d q).any fun w => w.contains ((i : Nat) : Int)
theorem relImp (hf : FitsDQ d q) : Ens (f46 d q) fun r => r.length ≤ 8232 ∧ ∀ i : Nat, r.contains ((i : Nat) : Int) = inW d q i := by
 unfold f46
 rw [witImp hf, bS]
 have hl := wits_len (d := d) (q := q)
 refine Ens.bind (Q := fun r => r.length ≤ 8232 ∧ ∀ y, y ∈ r ↔ ∃ w ∈ wits d q, y ∈ w) ?_ fun r ⟨h1, h2⟩ => Ens.of ⟨h1, fun i => ?_⟩
 ·refine iter_up (f := f46_0 (wits d q)) (wits d q).length (fun i s => ∃ r, s = (r, (i : Int)) ∧ r.length ≤ i * 3 ∧ ∀ y, y ∈ r ↔ ∃ w ∈ (wits d q).take i, y ∈ w) _ (fun i s hi ⟨r, hs, h1, h2⟩ => ?_) (fun s ⟨r, hs, h1, h2⟩ => ?_) ([], 0) ⟨[], rfl, by simp, by simp⟩
  ·subst hs
   have h3 := (wits_prt (List.getElem_mem hi)).2
   obtain ⟨r2, e, g1, g2⟩ := unionMem (a := r) (b := (wits d q)[i]) (by omega)
   simp only [f46_0]
   rw [if_pos (by omega), ix_nat hi, bS, e, bS, w64_succ (by omega)]
   refine ⟨_, rfl, r2, rfl, by omega, fun y => ?_⟩
   rw [g1, h2, take_succ' hi]
   simp only [List.mem_append, List.mem_singleton]
   constructor
   ·rintro (⟨w, hw, hy⟩ | hy)
    ·exact ⟨w, .inl hw, hy⟩
    ·exact ⟨_, .inr rfl, hy⟩
   ·rintro ⟨w, hw | rfl, hy⟩
    ·exact .inl ⟨w, hw, hy⟩
    ·exact .inr hy
  ·subst hs
   simp only [f46_0]
   rw [if_neg (by omega)]
   rw [List.take_of_length_le (Nat.le_refl _)] at h2
   exact ⟨_, rfl, by omega, h2⟩
 ·unfold inW
  rw [Bool.eq_iff_iff, List.contains_iff_mem, h2, List.any_eq_true]
  simp only [List.contains_iff_mem]
def idx (n : Nat) (p : Nat → Bool) : List Int := (List.range n).flatMap fun i => if p i = true then [((i : Nat) : Int)] else []
theorem idx_len {n : Nat} {p : Nat → Bool} : (idx n p).length ≤ n := by
 have : ∀ L : List Nat, (L.flatMap fun i => if p i = true then [((i : Nat) : Int)] else []).length ≤ L.length := by
  intro L
  induction L with
  | nil => simp
  | cons a L ih =>
   rw [List.flatMap_cons, List.length_append, List.length_cons]
   split
   ·rw [List.length_singleton]; omega
   ·rw [List.length_nil]; omega
 have := this (List.range n)
 rw [List.length_range] at this; exact this
theorem idx_mem {n : Nat} {p : Nat → Bool} {v : Int} : v ∈ idx n p ↔ ∃ i : Nat, i < n ∧ v = i ∧ p i = true := by
 unfold idx
 rw [List.mem_flatMap]
 constructor
 ·rintro ⟨k, hk, h⟩
  split at h
  ·rename_i c
   exact ⟨k, List.mem_range.1 hk, by simpa using h, c⟩
  ·cases h
 ·rintro ⟨k, h1, h2, h3⟩
  exact ⟨k, List.mem_range.2 h1, by rw [if_pos h3]; simp [h2]⟩
theorem idx_succ {n : Nat} {p : Nat → Bool} : idx (n + 1) p = idx n p ++ if p n = true then [((n : Nat) : Int)] else [] := by simp [idx, List.range_succ]
theorem iter_pickI {ρ : Type} {f : List Int × Int → Option ((List Int × Int) ⊕ ρ)} (n : Nat) (p : Nat → Bool) (fin : List Int → ρ)
  (hs : ∀ i, i < n → ∀ out : List Int, out.length ≤ i → f (out, (i : Int)) = some (.inl (out ++ (if p i = true then [((i : Nat) : Int)] else []), ((i + 1 : Nat) : Int)))) (he : ∀ out : List Int, f (out, (n : Int)) = some (.inr (fin out))) : iter f ([], 0) = some (fin (idx n p)) := by
 have it := iter_steps (f := f) (fun i => (idx i p, (i : Int))) n (fin (idx n p)) (fun i hi => by rw [hs i hi _ idx_len, idx_succ]) (he _)
 simpa [idx] using it
theorem relSpec (hf : FitsDQ d q) : f48 d q = some (idx d.Facts.length (inW d q)) := by
 unfold f48
 rw [witSpec hf, bS]
 have hl := wits_len (d := d) (q := q)
 have h2 := hf.1.2.1
 rw [iter_pickI d.Facts.length (inW d q) id (fun i hi out ho => by
  have inner : iter (f48_1 (wits d q) (i : Int)) (false, 0) = some (inW d q i) := by
   rw [iter_foldl (f := f48_1 (wits d q) (i : Int)) (wits d q) (fun b w => b || w.contains ((i : Nat) : Int)) id (fun j hj b => by
    have h3 := (wits_prt (List.getElem_mem hj)).2
    simp only [f48_1]
    rw [if_pos (by omega), w64_succ (by omega)]
    cases b
    ·rw [if_neg (by simp), ix_nat hj, bS, hasI (by omega)]
     simp
    ·rw [if_pos rfl]
     simp) (fun b => by
    simp only [f48_1]
    rw [if_neg (by omega)]; rfl)]
   rw [foldl_any]
   simp [inW]
  simp only [f48_0]
  rw [if_pos (by omega), inner, bS, w64_succ (by omega)]
  cases inW d q i
  ·simp
  ·rw [if_pos rfl, app_fits (by simp; omega)]
   simp) (fun out => by
  simp only [f48_0]
  rw [if_neg (by omega)]; rfl)]
 rfl
def irr (d : Database) (q : Query) : List Int := if good2 d q = true then idx d.Facts.length fun i => !inW d q i else []
theorem idx_has {n i : Nat} {p : Nat → Bool} (hi : i < n) : (idx n p).contains ((i : Nat) : Int) = p i := by
 rw [Bool.eq_iff_iff, List.contains_iff_mem, idx_mem]
 constructor
 ·rintro ⟨k, _, h, hp⟩
  have : i = k := by omega
  subst this; exact hp
 ·intro h; exact ⟨i, hi, rfl, h⟩
theorem irrSpec (hf : FitsDQ d q) : f17 d q = some (irr d q) := by
 unfold f17 irr
 rw [relSpec hf, bS]
 have h2 := hf.1.2.1
 have hl := idx_len (n := d.Facts.length) (p := inW d q)
 cases hg : good2 d q
 ·rw [if_neg (by simp), iter_eq]
  simp only [f17_0, specFor hf, hg]
  by_cases h0 : (0 : Int) < d.Facts.length
  ·rw [if_pos h0]; simp
  ·rw [if_neg h0]; simp
 ·rw [if_pos rfl, iter_pickI d.Facts.length (fun i => !inW d q i) id (fun i hi out ho => by
   simp only [f17_0]
   rw [if_pos (by omega), specFor hf, hg, bS, bS, if_pos rfl, hasI (by omega), idx_has hi, bS, w64_succ (by omega)]
   cases inW d q i
   ·rw [if_pos (by simp), app_fits (by simp; omega)]
    simp
   ·simp) (fun out => by
   simp only [f17_0]
   rw [if_neg (by omega)]; simp)]
  rfl
theorem irrImp (hf : FitsDQ d q) : f16 d q = some (irr d q) := by
 unfold f16 irr
 rw [impFor hf, bS]
 have h2 := hf.1.2.1
 cases hg : good2 d q
 ·rw [if_pos (by simp), if_neg (by simp)]
 ·obtain ⟨r, hr, r1, r2⟩ := relImp hf
  rw [if_neg (by simp), if_pos rfl, hr, bS, iter_pickI d.Facts.length (fun i => !inW d q i) id (fun i hi out ho => by
   simp only [f16_0]
   rw [if_pos (by omega), containsI (by omega), r2, bS, w64_succ (by omega)]
   cases inW d q i
   ·rw [if_pos (by simp), app_fits (by simp; omega)]
    simp
   ·simp) (fun out => by
   simp only [f16_0]
   rw [if_neg (by omega)]; simp)]
  rfl
end
section
end
section
variable {d : Database} {q : Query}
end
section
variable {d : Database} {q : Query}
theorem idx_up {n : Nat} {p : Nat → Bool} : (idx n p).Pairwise (· < ·) := by
 induction n with
 | zero => simp [idx]
 | succ n ih =>
  rw [idx_succ, List.pairwise_append]
  refine ⟨ih, by split <;> simp, fun a ha b hb => ?_⟩
  obtain ⟨i, hi, rfl, _⟩ := idx_mem.1 ha
  split at hb
  ·rw [List.mem_singleton] at hb; omega
  ·cases hb
theorem idx_asc {n : Nat} {p : Nat → Bool} : asc n (idx n p) = true := asc_mk idx_up fun v hv => by
 obtain ⟨i, hi, rfl, _⟩ := idx_mem.1 hv
 omega
theorem idx_lt {n : Nat} {p : Nat → Bool} {i : Nat} (hi : i < n) (hp : p i = false) : (idx n p).length < n := by
 induction n with
 | zero => omega
 | succ n ih =>
  rw [idx_succ, List.length_append]
  by_cases e : i = n
  ·subst e
   have := idx_len (n := i) (p := p)
   rw [if_neg (by rw [hp]; simp), List.length_nil]; omega
  ·have := ih (by omega)
   split
   ·rw [List.length_singleton]; omega
   ·rw [List.length_nil]; omega
def irr0 (d : Database) (q : Query) : Nat := ((irr d q).getD 0 0).toNat
theorem irr0_of (h : (irr d q).length ≠ 0) : good2 d q = true ∧ irr0 d q < d.Facts.length ∧ ∃ hl : 0 < (irr d q).length, (irr d q)[0] = ((irr0 d q : Nat) : Int) := by
 have h0 : 0 < (irr d q).length := by omega
 have hm := List.getElem_mem h0
 have e : (irr d q).getD 0 0 = (irr d q)[0] := by rw [zD, zE h0]; rfl
 unfold irr0
 rw [e]
 have hg : good2 d q = true := by
  cases hg : good2 d q
  ·unfold irr at h
   rw [hg] at h; simp at h
  ·rfl
 have ei : irr d q = idx d.Facts.length fun i => !inW d q i := by unfold irr; rw [if_pos hg]
 have hm2 : ∀ v ∈ irr d q, ∃ i : Nat, i < d.Facts.length ∧ v = i := fun v hv => by
  rw [ei] at hv
  obtain ⟨i, hi, hi2, _⟩ := idx_mem.1 hv
  exact ⟨i, hi, hi2⟩
 obtain ⟨i, hi, hi2⟩ := hm2 _ hm
 refine ⟨hg, by omega, h0, by omega⟩
def keep (d : Database) (q : Query) : List Int := idx d.Facts.length fun i => !skOf d (irr0 d q) i
def pur1 (d : Database) (q : Query) : Database × Bool := if (irr d q).length = 0 then (d, false) else (sel d (keep d q), true)
theorem keep_lt (h : (irr d q).length ≠ 0) : (keep d q).length < d.Facts.length := by
 obtain ⟨h1, h2, _⟩ := irr0_of h
 have K := kin (good2_of h1).1
 exact idx_lt h2 (by rw [K.refl _ h2]; rfl)
theorem pur1_fits (hf : FitsDQ d q) : FitsDQ (pur1 d q).1 q := by
 unfold pur1
 split
 ·exact hf
 ·exact ⟨sel_fits hf.1 idx_asc, hf.2⟩
def pur : Nat → Database → Query → Database
 | 0, d, _ => d
 | n + 1, d, q => if (pur1 d q).2 = true then pur n (pur1 d q).1 q else d
theorem pur_fits : ∀ {n : Nat} {d : Database}, FitsDQ d q → FitsDQ (pur n d q) q
 | 0, d, h => h
 | n + 1, d, h => by
  rw [pur]
  split
  ·exact pur_fits (pur1_fits h)
  ·exact h
theorem pur1_lt (h : (pur1 d q).2 = true) : (pur1 d q).1.Facts.length < d.Facts.length := by
 unfold pur1 at h ⊢
 split
 ·rename_i c; rw [if_pos c] at h; cases h
 ·rename_i c; rw [sel_len]; exact keep_lt c
end
section
variable {d : Database} {q : Query}
section
variable (h : (irr d q).length ≠ 0)
include h
end
end
section
end
section
def Sigs (l : List Relation) : Prop := l.length = 4 ∧ ∀ x ∈ l, x.Arity ≤ 3
def Tiny (m : Nat) (d : Database) : Prop := Sigs d.Relations ∧ d.Facts.length ≤ m ∧ ∀ x ∈ d.Facts, x.Values.length ≤ 3
theorem Tiny.fits {m : Nat} {d : Database} (h : Tiny m d) (hm : m ≤ 1048576) : Fits d := ⟨by have := h.1.1; omega, by have := h.2.1; omega, fun x hx => by have := h.2.2 x hx; omega⟩
theorem copySpec {d : Database} (hf : Fits d) : f40 d = some d := by
 unfold f40
 rw [app_fits (by have := hf.1; simp; omega), bS, List.nil_append]
 have it := iter_steps (f := f40_0 d) (fun i => (d.Relations, d.Facts.take i, (i : Int))) d.Facts.length (d.Relations, d.Facts) (fun i hi => by
  have h1 := hf.2.2 _ (List.getElem_mem hi)
  have h2 := hf.2.1
  simp only [f40_0]
  rw [if_pos (by omega), ix_nat hi, bS, app_fits (by simp; omega), bS, app_fits (by simp; omega), bS, w64_succ (by omega), take_succ' hi]
  simp) (by
  simp only [f40_0]
  rw [if_neg (by omega), List.take_of_length_le (Nat.le_refl _)])
 simp only [List.take_zero, Int.natCast_zero, Int.ofNat_zero] at it
 erw [it]
 rfl
end
section
end
section
def QM (q : Query) : Prop := q.Atoms.length ≤ 40 ∧ (∀ a ∈ q.Atoms, a.Terms.length ≤ 40) ∧ q.Free.length ≤ 40
theorem QM.fits {q : Query} (h : QM q) : FitsQ q := ⟨by have := h.1; omega, fun a ha => by have := h.2.1 a ha; omega, by have := h.2.2; omega⟩
end
section
end
section
def sg (a b : Int) : List Relation := [⟨[114], 2, 1⟩, ⟨[115], 2, 1⟩, ⟨[116], 2, a⟩, ⟨[117], 3, b⟩]
variable {a b : Int}
section
variable {l : List Relation} {o : List (List UInt8)} {i : Nat} {w : List UInt8} {v : Int} {az : List Atom} {fr ts : List Int} {r : Int} {j : Nat}
end
end
section
variable {a b : Int}
end
section
end
section
def SigsG (l : List Relation) : Prop := ∃ a b : Int, l = sg a b ∧ (a = 0 ∨ a = 1 ∨ a = 2) ∧ (b = 1 ∨ b = 2)
theorem SigsG.small {l : List Relation} (h : SigsG l) : l.length = 4 ∧ ∀ x ∈ l, x.Name.length ≤ 100 := by
 obtain ⟨a, b, rfl, _⟩ := h
 refine ⟨rfl, fun x hx => ?_⟩
 simp only [sg, List.mem_cons, List.not_mem_nil, or_false] at hx
 rcases hx with rfl | rfl | rfl | rfl <;> simp
def QB (q : Query) : Prop := q.Atoms.length ≤ 100 ∧ (∀ a ∈ q.Atoms, a.Terms.length ≤ 100) ∧ q.Free.length ≤ 100
theorem QB.fits {q : Query} (h : QB q) : FitsQ q := ⟨by have := h.1; omega, fun a ha => by have := h.2.1 a ha; omega, by have := h.2.2; omega⟩
end
section
def Sm (d : Database) : Prop := d.Relations.length ≤ 4 ∧ d.Facts.length ≤ 13 ∧ ∀ x ∈ d.Facts, x.Values.length ≤ 4
theorem Sm.fits {d : Database} (h : Sm d) : Fits d := ⟨by have := h.1; omega, by have := h.2.1; omega, fun x hx => by have := h.2.2 x hx; omega⟩
end
section
end
section
variable {d : Database} {q : Query}
end
section
variable {d : Database} {q : Query}
end
section
abbrev neg (v : Int) : Int := w64 (-v)
def left (out c : List Int) : List Int := c.filter fun v => !out.contains (neg v)
def hit (out c : List Int) : Bool := c.any out.contains
theorem filter_flat {α : Type} {l : List α} {p : α → Bool} : l.flatMap (fun v => if p v = true then [v] else []) = l.filter p := by
 induction l with
 | nil => rfl
 | cons a l ih => rw [List.flatMap_cons, ih, List.filter_cons]; split <;> rfl
theorem withoutImp {c b : List Int} (h : c.length ≤ 1048576) (hb : Big b.length) : f38 c b = some (c.filter fun v => !b.contains v) := by
 unfold f38
 rw [iter_flat c (fun v => if (!b.contains v) = true then [v] else []) id (fun i hi => by
  have hn := take_flat_le (l := c) (i := i) (g := fun v => if (!b.contains v) = true then [v] else []) (m := 1) (fun a => by split <;> simp)
  generalize (c.take i).flatMap (fun v => if (!b.contains v) = true then [v] else []) = out at hn ⊢
  simp only [f38_0]
  rw [if_pos (by omega), ix_nat hi, bS, containsI hb, bS, w64_succ (by omega)]
  cases hc : b.contains c[i]
  ·rw [if_pos (by simp), app_fits (by simp only [List.length_singleton]; omega)]; rfl
  ·rw [if_neg (by simp)]; simp) (by
  simp only [f38_0]
  rw [if_neg (by omega)]; rfl)]
 rw [bS, filter_flat]; rfl
def scan (out : List Int) : List (List Int) → Option (Option Int)
 | [] => none
 | c :: l => if hit out c = true then scan out l else match left out c with
  | [] => some none
  | [v] => some (some v)
  | _ => scan out l
def round (out : List Int) (l : List (List Int)) : (List Int × Bool) ⊕ (List Int × Bool) := match scan out l with
 | none => .inl (out, false)
 | some none => .inr (out, true)
 | some (some v) => .inl (out ++ [v], true)
def prop (l : List (List Int)) : Nat → List Int → List Int × Bool
 | 0, out => (out, false)
 | k + 1, out => match round out l with
  | .inl (o, true) => prop l k o
  | .inl (o, false) => (o, false)
  | .inr r => r
def up (n : Int) (l : List (List Int)) (s : List Int) : List Int × Bool := if valid n l = true ∧ clS n s = true then prop l 15 s else (s, false)
end
section
variable {d : Database} {q : Query}
theorem iter_fst {f : Int → Option (Int ⊕ (Unit ⊕ (List Int × Int)))} (L : List (List Int)) (p : List Int → Bool)
  (hs : ∀ (i : Nat) (h : i < L.length), f (i : Int) = some (if p L[i] = true then .inr (.inr (L[i], (i : Int))) else .inl ((i + 1 : Nat) : Int))) (he : f (L.length : Int) = some (.inr (.inl ()))) :
  ∃ o, iter f 0 = some o ∧ (match o with | .inl _ => L.find? p = none | .inr x => L.find? p = some x.1) := by
 refine iter_up (f := f) L.length (fun i s => s = (i : Int) ∧ ∀ j (h : j < L.length), j < i → p L[j] = false) (fun o => match o with | .inl _ => L.find? p = none | .inr x => L.find? p = some x.1) (fun i s hi ⟨h, hp⟩ => ?_) (fun s ⟨h, hp⟩ => ?_) 0 ⟨rfl, fun j _ hj => by omega⟩
 ·subst h
  refine ⟨_, hs i hi, ?_⟩
  by_cases hc : p L[i] = true
  ·rw [if_pos hc]
   dsimp only
   rw [List.find?_eq_some_iff_getElem]
   exact ⟨hc, i, hi, rfl, fun j hj => by rw [hp j (by omega) hj]; rfl⟩
  ·rw [if_neg hc]
   refine ⟨rfl, fun j h hj => ?_⟩
   by_cases e : j = i
   ·subst e; simpa using hc
   ·exact hp j h (by omega)
 ·subst h
  refine ⟨_, he, ?_⟩
  dsimp only
  rw [List.find?_eq_none]
  intro x hx
  obtain ⟨j, hj, rfl⟩ := List.mem_iff_getElem.1 hx
  rw [hp j hj hj]; simp
theorem blksImp (hv : vDb d = true) (hf : Fits d) : f86 d = some (bks d) := by
 unfold f86
 rw [impDb (fits_room hf), bS, hv, if_neg (by simp), blocksImp hv hf]; rfl
theorem blkImp (hv : vDb d = true) (hf : Fits d) {i : Nat} (hi : i < d.Facts.length) : f39 d (i : Int) = some (blk (skOf d) i d.Facts.length) := by
 unfold f39
 have hb := bks_few (vDb_of hv).2.1
 rw [blksImp hv hf, bS]
 obtain ⟨o, h1, h2⟩ := iter_fst (f := f39_0 (i : Int) (bks d)) (bks d) (fun B => B.contains ((i : Nat) : Int)) (fun k hk => by
  simp only [f39_0]
  have := hb.2 _ (List.getElem_mem hk)
  rw [if_pos (by omega), ix_nat hk, bS, containsI (by omega), bS, w64_succ (by omega)]
  cases ((bks d)[k]).contains ((i : Nat) : Int) <;> rfl) (by
  simp only [f39_0]
  rw [if_neg (by omega)])
 rw [h1, bS]
 have e := blks_find (kin hv) hi
 match o, h2 with
 | .inl _, h2 =>
  have : (none : Option (List Int)) = some _ := h2.symm.trans e
  cases this
 | .inr x, h2 =>
  have : some x.1 = some _ := h2.symm.trans e
  simpa using this
theorem keep_flt {b : List Int} {n : Nat} {p : Nat → Bool} (h : ∀ i, i < n → b.contains ((i : Nat) : Int) = p i) : (idx n fun _ => true).filter (fun v => !b.contains v) = idx n fun i => !p i := by
 induction n with
 | zero => rfl
 | succ n ih =>
  rw [idx_succ, idx_succ, List.filter_append, ih fun i hi => h i (by omega), if_pos rfl]
  congr 1
  rw [List.filter_cons, h n (by omega)]
  cases p n <;> simp
theorem blk_has {n i k : Nat} {sk : Nat → Nat → Bool} (hk : k < n) : (blk sk i n).contains ((k : Nat) : Int) = sk i k := by
 rw [Bool.eq_iff_iff, List.contains_iff_mem, blk_mem]
 constructor
 ·rintro ⟨j, _, e, h⟩
  have : k = j := by omega
  subst this; exact h
 ·intro h
  exact ⟨k, hk, rfl, h⟩
theorem irr0_ix (h : (irr d q).length ≠ 0) : ix (irr d q) 0 = some ((irr0 d q : Nat) : Int) := by
 obtain ⟨_, _, h3, h4⟩ := irr0_of h
 have := ix_nat (l := irr d q) (i := 0) h3
 rw [h4] at this
 exact this
theorem pur1Spec (hf : FitsDQ d q) : f12 d q = some (pur1 d q) := by
 unfold f12 pur1
 rw [irrSpec hf, bS]
 by_cases h : (irr d q).length = 0
 ·rw [if_pos (by omega), if_pos h, copySpec hf.1]; rfl
 ·obtain ⟨hg, hx, _⟩ := irr0_of h
  have hv := (good2_of hg).1
  have hn := (vDb_of hv).2.1
  rw [if_neg (by omega), if_neg h, irr0_ix h, bS, blockSpec hv hf.1 hx, bS, iter_pickI d.Facts.length (fun i => !skOf d (irr0 d q) i) id (fun i hi out ho => by
   simp only [f12_0]
   have hl := blk_len (sk := skOf d) (i := irr0 d q) (x := d.Facts.length)
   rw [if_pos (by omega), hasI (by omega), blk_has hi, bS, w64_succ (by omega)]
   cases skOf d (irr0 d q) i
   ·rw [if_pos (by simp), app_fits (by simp; omega)]
    simp
   ·simp) (fun out => by
   simp only [f12_0]
   rw [if_neg (by omega)]; simp), bS]
  have hs : asc d.Facts.length (keep d q) = true := idx_asc
  have hl : (keep d q).length ≤ d.Facts.length := idx_len
  have e : f43 d (keep d q) = some (sel d (keep d q), true) := by
   rw [specSel hf.1 (by omega), hv, hs]; rfl
  rw [show id (idx d.Facts.length fun i => !skOf d (irr0 d q) i) = keep d q from rfl, e]; rfl
theorem pur1Imp (hf : FitsDQ d q) : f11 d q = some (pur1 d q) := by
 unfold f11 pur1
 rw [irrImp hf, bS]
 by_cases h : (irr d q).length = 0
 ·rw [if_pos (by omega), if_pos h, copyImp hf.1]; rfl
 ·obtain ⟨hg, hx, _⟩ := irr0_of h
  have hv := (good2_of hg).1
  have hn := (vDb_of hv).2.1
  have hs : asc d.Facts.length (keep d q) = true := idx_asc
  have hl : (keep d q).length ≤ d.Facts.length := idx_len
  rw [if_neg (by omega), if_neg h, iter_pickI d.Facts.length (fun _ => true) id (fun i hi out ho => by
   simp only [f11_0]
   rw [if_pos (by omega), app_fits (by simp; omega), bS, w64_succ (by omega)]; simp) (fun out => by
   simp only [f11_0]
   rw [if_neg (by omega)]; rfl), bS, irr0_ix h, bS, blkImp hv hf.1 hx, bS]
  have hl2 := idx_len (n := d.Facts.length) (p := fun _ => true)
  have hb := blk_len (sk := skOf d) (i := irr0 d q) (x := d.Facts.length)
  rw [id, withoutImp (by omega) (by omega), bS, keep_flt (p := fun i => skOf d (irr0 d q) i) (fun i hi => blk_has hi)]
  have e : f37 d (keep d q) = some (sel d (keep d q), true) := by
   rw [impSel hf.1 (by omega), hv, hs]; rfl
  rw [show (idx d.Facts.length fun i => !skOf d (irr0 d q) i) = keep d q from rfl, e]; rfl
theorem pur1_no (h : ¬ (pur1 d q).2 = true) : (pur1 d q).1 = d := by
 unfold pur1 at h ⊢
 split
 ·rfl
 ·rename_i c; rw [if_neg c] at h; exact absurd rfl h
theorem purLoop : ∀ {n : Nat} {d : Database}, FitsDQ d q → d.Facts.length < n → iter (f10_0 q) ((pur1 d q).1.Relations, (pur1 d q).1.Facts, (pur1 d q).2) = some ((pur n d q).Relations, (pur n d q).Facts)
 | 0, d, _, h => by omega
 | n + 1, d, hf, hn => by
  rw [iter_eq]
  simp only [f10_0]
  rw [pur]
  by_cases c : (pur1 d q).2 = true
  ·have := purLoop (pur1_fits hf) (n := n) (by have := pur1_lt c; omega)
   rw [if_pos c, if_pos c, show f11 ({ Relations := (pur1 d q).1.Relations, Facts := (pur1 d q).1.Facts } : Database) q = some (pur1 (pur1 d q).1 q) from pur1Imp (pur1_fits hf), bS]
   exact this
  ·rw [if_neg c, if_neg c, pur1_no c]
theorem purImp {n : Nat} (hf : FitsDQ d q) (hn : d.Facts.length < n) : f10 d q = some (pur n d q) := by
 unfold f10
 rw [pur1Imp hf, bS, purLoop hf hn]; rfl
theorem purLoopS : ∀ {n : Nat} {d : Database}, FitsDQ d q → d.Facts.length < n → iter (f14_0 q) (d.Relations, d.Facts) = some ((pur n d q).Relations, (pur n d q).Facts)
 | 0, d, _, h => by omega
 | n + 1, d, hf, hn => by
  rw [iter_eq]
  simp only [f14_0]
  rw [pur, show f12 ({ Relations := d.Relations, Facts := d.Facts } : Database) q = some (pur1 d q) from pur1Spec hf, bS]
  by_cases c : (pur1 d q).2 = true
  ·have := purLoopS (pur1_fits hf) (n := n) (by have := pur1_lt c; omega)
   rw [if_pos c, if_neg (by simpa using c)]
   exact this
  ·rw [if_neg c, if_pos c]
theorem purSpec {n : Nat} (hf : FitsDQ d q) (hn : d.Facts.length < n) : f14 d q = some (pur n d q) := by
 unfold f14
 rw [copySpec hf.1, bS, purLoopS hf hn]; rfl
end
section
noncomputable section
def tx (k : Int) : List UInt8 := (f125 k).getD []
theorem mtx {k : Int} (h0 : 0 ≤ k) (h : k ≤ 4611686018427387904) : f125 k = some (tx k) := by
 obtain ⟨t, ht, _⟩ := markText (k := k) h0 (by omega)
 unfold tx
 rw [ht]; rfl
def mkR (k : Int) (n : Nat) : List Relation := (List.range n).map fun (i : Nat) => { Name := tx (k + 3 * (i : Int)), Arity := k + 3 * (i : Int) + 1, KeyLength := k + 3 * (i : Int) + 2 }
theorem mkR_len {k : Int} {n : Nat} : (mkR k n).length = n := by simp [mkR]
theorem mkR_get {k : Int} {n i : Nat} (h : i < (mkR k n).length) : (mkR k n)[i] = { Name := tx (k + 3 * (i : Int)), Arity := k + 3 * (i : Int) + 1, KeyLength := k + 3 * (i : Int) + 2 } := by simp [mkR]
theorem markR {a : List Relation} {k : Int} (h0 : 0 ≤ k) (h : k + 3 * a.length ≤ 4611686018427387000) (ha : Big a.length) : f77 a k = some (k + 3 * a.length, mkR k a.length) := by
 unfold f77
 have it := iter_steps (f := f77_0) (fun i => ((mkR k a.length).take i ++ a.drop i, k + 3 * (i : Int), (i : Int))) a.length (mkR k a.length, k + 3 * a.length) (fun i hi => by
  have e1 : ((mkR k a.length).take i ++ a.drop i).length = a.length := by simp [mkR_len]; omega
  have e2 := set_copy (a := mkR k a.length) (L := a) (i := i) (by rw [mkR_len]; exact hi) (by rw [mkR_len])
  rw [mkR_get] at e2
  have w1 : w64 (k + 3 * (i : Int) + 1) = k + 3 * (i : Int) + 1 := w64_of (by omega)
  have w2 : w64 (k + 3 * (i : Int) + 1 + 1) = k + 3 * (i : Int) + 2 := (w64_of (by omega)).trans (by omega)
  have w3 : w64 (k + 3 * (i : Int) + 2 + 1) = k + 3 * ((i + 1 : Nat) : Int) := (w64_of (by omega)).trans (by omega)
  simp only [f77_0]
  rw [if_pos (by rw [e1]; omega), mtx (by omega) (by omega), bS, ix_nat (by rw [e1]; exact hi), bS, ix_nat (by simp only [List.length_set]; rw [e1]; exact hi), bS, ix_nat (by simp only [List.length_set]; rw [e1]; exact hi), bS]
  simp only [Int.toNat_natCast, List.getElem_set_self, List.set_set]
  rw [w1, w2, w3, e2, w64_succ (by omega)]) (by
  simp only [f77_0]
  rw [if_neg (by simp [mkR_len]), List.drop_length, List.append_nil, List.take_of_length_le (by rw [mkR_len]; exact Nat.le_refl _)])
 simp only [List.take_zero, List.drop_zero, List.nil_append, Int.natCast_zero, Int.ofNat_zero, Int.mul_zero, Int.add_zero] at it
 rw [it]; rfl
theorem heldR {k : Int} {n : Nat} (h0 : 0 ≤ k) (h : k + 3 * n ≤ 4611686018427387000) : f81 (mkR k n) k = some (k + 3 * n) := by
 unfold f81
 have it := iter_steps (f := f81_0 (mkR k n)) (fun i => (k + 3 * (i : Int), (i : Int))) n (.inl (k + 3 * n)) (fun i hi => by
  have w1 : w64 (k + 3 * (i : Int) + 1) = k + 3 * (i : Int) + 1 := w64_of (by omega)
  have w2 : w64 (k + 3 * (i : Int) + 1 + 1) = k + 3 * (i : Int) + 2 := (w64_of (by omega)).trans (by omega)
  have w3 : w64 (k + 3 * (i : Int) + 2 + 1) = k + 3 * ((i + 1 : Nat) : Int) := (w64_of (by omega)).trans (by omega)
  simp only [f81_0]
  rw [if_pos (by rw [mkR_len]; omega), ix_nat (by rw [mkR_len]; exact hi), bS, mtx (by omega) (by omega), bS, mkR_get, w1, w2, w3, if_neg (by simp), if_neg (by simp), if_neg (by simp), w64_succ (by omega)]) (by
  simp only [f81_0]
  rw [if_neg (by rw [mkR_len]; omega)])
 simp only [Int.natCast_zero, Int.ofNat_zero, Int.mul_zero, Int.add_zero] at it
 rw [it]; rfl
def mkF (k : Int) (l : List Fact) : List Fact := (List.range l.length).map fun i => { Relation := k + factSize (l.take i), Values := mk (k + factSize (l.take i) + 1) ((l.map fun x => x.Values.length).getD i 0) }
theorem mkF_len {k : Int} {l : List Fact} : (mkF k l).length = l.length := by simp [mkF]
theorem mkF_get {k : Int} {l : List Fact} {i : Nat} (h : i < (mkF k l).length) : (mkF k l)[i] = { Relation := k + factSize (l.take i), Values := mk (k + factSize (l.take i) + 1) (l[i]'(by rw [mkF_len] at h; exact h)).Values.length } := by
 have hi : i < l.length := by rw [mkF_len] at h; exact h
 simp [mkF, hi]
theorem markF {l : List Fact} {k : Int} (h0 : 0 ≤ k) (h : k + factSize l ≤ 4611686018427387000) (hl : Big l.length) : f78 l k = some (k + factSize l, mkF k l) := by
 unfold f78
 have it := iter_steps (f := f78_0) (fun i => ((mkF k l).take i ++ l.drop i, k + (factSize (l.take i) : Int), (i : Int))) l.length (mkF k l, k + factSize l) (fun i hi => by
  have e1 : ((mkF k l).take i ++ l.drop i).length = l.length := by simp [mkF_len]; omega
  have e2 := set_copy (a := mkF k l) (L := l) (i := i) (by rw [mkF_len]; exact hi) (by rw [mkF_len])
  rw [mkF_get] at e2
  have e3 : ((mkF k l).take i ++ l.drop i)[i]'(by rw [e1]; exact hi) = l[i] := by
   rw [List.getElem_append_right (by rw [List.length_take]; omega), List.getElem_drop]
   congr 1; simp [mkF_len]; omega
  have s1 := factSize_take hi
  have s2 := factSize_le (a := l) (i := i + 1)
  simp only [f78_0]
  rw [if_pos (by rw [e1]; omega), ix_nat (by rw [e1]; exact hi), bS, ix_nat (by simp only [List.length_set]; rw [e1]; exact hi), bS]
  simp only [Int.toNat_natCast, List.getElem_set_self, List.set_set]
  rw [e3, w64_of (n := k + (factSize (l.take i) : Int) + 1) (by omega), markI (by omega) (by omega), bS]
  simp only
  rw [e2, w64_succ (by omega), show k + (factSize (l.take i) : Int) + 1 + (l[i].Values.length : Int) = k + (factSize (l.take (i + 1)) : Int) by rw [s1]; omega]) (by
  simp only [f78_0]
  rw [if_neg (by simp [mkF_len]), List.drop_length, List.append_nil, List.take_of_length_le (by rw [mkF_len]; exact Nat.le_refl _), List.take_length])
 have f0 : factSize ([] : List Fact) = 0 := rfl
 simp only [List.take_zero, List.drop_zero, List.nil_append, f0, Int.natCast_zero, Int.ofNat_zero, Int.add_zero] at it
 rw [it]; rfl
theorem heldF {l : List Fact} {k : Int} (h0 : 0 ≤ k) (h : k + factSize l ≤ 4611686018427387000) (hl : Big l.length) : f82 (mkF k l) k = some (k + factSize l) := by
 unfold f82
 have it := iter_steps (f := f82_0 (mkF k l)) (fun i => (k + (factSize (l.take i) : Int), (i : Int))) l.length (.inl (k + factSize l)) (fun i hi => by
  have s1 := factSize_take hi
  have s2 := factSize_le (a := l) (i := i + 1)
  simp only [f82_0]
  rw [if_pos (by rw [mkF_len]; omega), ix_nat (by rw [mkF_len]; exact hi), bS, mkF_get, if_neg (by simp), w64_of (n := k + (factSize (l.take i) : Int) + 1) (by omega), heldI (by omega) (by omega), bS, if_neg (by omega), w64_succ (by omega), show k + (factSize (l.take i) : Int) + 1 + (l[i].Values.length : Int) = k + (factSize (l.take (i + 1)) : Int) by rw [s1]; omega]) (by
  simp only [f82_0]
  rw [if_neg (by rw [mkF_len]; omega), List.take_length])
 have f0 : factSize ([] : List Fact) = 0 := rfl
 simp only [List.take_zero, f0, Int.natCast_zero, Int.ofNat_zero, Int.add_zero] at it
 rw [it]; rfl
def mkD (a : Database) : Database := ⟨mkR 1 a.Relations.length, mkF (1 + 3 * a.Relations.length) a.Facts⟩
end
def dsz (a : Database) : Nat := 3 * a.Relations.length + factSize a.Facts
theorem fsz_le {l : List Fact} (h : ∀ x ∈ l, x.Values.length ≤ 1048576) : factSize l ≤ l.length * 1048577 := by
 induction l with
 | nil => exact Nat.le_refl _
 | cons a l ih =>
  have h1 := h a List.mem_cons_self
  have h2 := ih fun x hx => h x (List.mem_cons_of_mem _ hx)
  unfold factSize at h2 ⊢
  simp only [List.map_cons, List.sum_cons, List.length_cons] at h2 ⊢
  omega
theorem dsz_le {a : Database} (h : Fits a) : dsz a ≤ 1099515822080 := by
 have := fsz_le h.2.2
 have h1 := h.1
 have h2 := h.2.1
 unfold dsz
 have := Nat.mul_le_mul_right 1048577 h2
 omega
theorem markDbO {a : Database} (h : Fits a) : f32 a 1 = some (1 + (dsz a : Int), mkD a) := by
 have hd := dsz_le h
 have h1 := h.1
 have h2 := h.2.1
 unfold f32
 unfold dsz at hd ⊢
 rw [markR (by omega) (by omega) (by omega), bS, markF (by omega) (by omega) (by omega), bS]
 unfold mkD
 simp only
 rw [show (1 : Int) + 3 * (a.Relations.length : Int) + (factSize a.Facts : Int) = 1 + ((3 * a.Relations.length + factSize a.Facts : Nat) : Int) by omega]
theorem heldDbO {a : Database} (h : Fits a) : f34 (mkD a) 1 = some (1 + (dsz a : Int)) := by
 have hd := dsz_le h
 have h1 := h.1
 have h2 := h.2.1
 unfold f34
 unfold dsz at hd ⊢
 unfold mkD
 simp only
 rw [heldR (by omega) (by omega), bS, if_neg (by omega), heldF (by omega) (by omega) (by omega), bS, if_neg (by omega)]
 congr 1
 omega
end
section
theorem atomsSize_take {a : List Atom} {i : Nat} (h : i < a.length) : atomsSize (a.take (i + 1)) = atomsSize (a.take i) + 1 + a[i].Terms.length := by
 unfold atomsSize
 rw [take_succ' h, List.map_append, List.sum_append, List.length_append]; simp; omega
theorem atomsSize_le {a : List Atom} {i : Nat} : atomsSize (a.take i) ≤ atomsSize a := by
 unfold atomsSize
 conv => rhs; rw [← List.take_append_drop i a, List.map_append, List.sum_append, List.length_append]
 omega
theorem markAs {a : List Atom} {k : Int} (h0 : 0 ≤ k) (h : k + atomsSize a ≤ 4611686018427387904) (ha : Big a.length) : Ens (f79 a k) fun o => o.1 = k + atomsSize a := by
 unfold f79
 refine Ens.bind (Q := fun o => o.2 = k + atomsSize a) ?_ fun o ho => Ens.of ho
 refine iter_up (f := f79_0) a.length (fun i s => s.1.length = a.length ∧ s.1.drop i = a.drop i ∧ s.2.1 = k + atomsSize (a.take i) ∧ s.2.2 = i) _ (fun i s hi hI => ?_) (fun s hI => ?_) (a, k, 0) ⟨rfl, rfl, by simp [atomsSize], rfl⟩
 ·obtain ⟨b, m, x⟩ := s
  obtain ⟨e1, e4, e2, e3⟩ := hI
  dsimp only at e1 e2 e3 e4
  subst e2; subst e3
  have hb : b[i]'(by omega) = a[i] := by
   have := congrArg (fun l => l[0]?) e4
   simp only [List.getElem?_drop, Nat.add_zero] at this
   rw [zE (by omega), zE hi] at this
   exact Option.some.inj this
  have s1 := atomsSize_take hi
  have s2 := atomsSize_le (a := a) (i := i + 1)
  simp only [f79_0]
  rw [if_pos (by omega), ix_nat (by omega), bS, hb, ix_nat (by simp; omega), bS]
  simp only [Int.toNat_natCast, List.getElem_set_self]
  rw [w64_of (by omega), markI (by omega) (by omega), bS]
  refine ⟨_, rfl, ?_⟩
  rw [w64_succ (by omega)]
  refine ⟨by simp; omega, ?_, by simp only; omega, rfl⟩
  rw [List.drop_set_of_lt (by omega), List.drop_set_of_lt (by omega)]
  rw [← List.drop_drop, e4, List.drop_drop]
 ·obtain ⟨b, m, x⟩ := s
  obtain ⟨e1, e4, e2, e3⟩ := hI
  dsimp only at e1 e2 e3
  subst e2; subst e3
  simp only [f79_0]
  rw [if_neg (by omega)]
  exact ⟨_, rfl, by simp⟩
theorem markQ {a : Query} {k : Int} (h : querySize a ≤ 1048576) (h0 : 1 ≤ k) (h1 : k ≤ 4194304) : Ens (f33 a k) fun k => 1 ≤ k ∧ k ≤ 8388608 := by
 unfold f33
 unfold querySize at h
 have h2 : a.Atoms.length ≤ atomsSize a.Atoms := by unfold atomsSize; omega
 refine Ens.bind (markAs (by omega) (by omega) (by omega)) fun o ho => ?_
 rw [markI (by omega) (by omega), bS]
 exact Ens.of ⟨by simp only; omega, by simp only; omega⟩
end
section
theorem lawFnExactPurify (a : Database) (ha : ok a) (b : Query) (hb : ok b) : f6 a b = some true := by
 unfold f6
 rw [szDb ha (by omega) (by omega), bS]
 by_cases h1 : lft 1048576 (dbSize a) < 0
 ·rw [if_pos h1]
 rw [if_neg h1]
 have b1 := lft_pos h1
 rw [szQ hb (by omega) (by omega), bS, lftq h1]
 by_cases h2 : lft 1048576 (dbSize a + querySize b) < 0
 ·rw [if_pos h2]
 rw [if_neg h2]
 have b2 := lft_pos h2
 have fd := db_fits (a := a) (by omega)
 have fq := q_fits (q := b) (by omega)
 have hf : FitsDQ a b := ⟨fd, fq⟩
 have hl : a.Facts.length < a.Facts.length + 1 := by omega
 have hg := pur_fits (n := a.Facts.length + 1) hf
 have hs : 1 + (dsz a : Int) ≤ 4194304 := by
  have h3 : dbSize a ≤ 1048576 := by omega
  unfold dbSize relSize at h3
  unfold dsz
  omega
 obtain ⟨m, m1, m2⟩ := markQ (a := b) (k := 1 + (dsz a : Int)) (by omega) (by omega) hs
 simp only [toDb fd, toQ fq, purSpec hf hl, purImp hf hl, bS, eqDb hg.1, eqDb fd, eqQ fq, markDbO fd, markDbO hg.1, heldDbO hg.1, m1]
 have e1 : ¬ (m < 0) := by omega
 have e2 : ¬ ((1 : Int) + (dsz (pur (a.Facts.length + 1) a b) : Int) < 0) := by omega
 simp [e1, e2]
end
end Go.Proofs.YtjmemfggbhkofaaGreatH
