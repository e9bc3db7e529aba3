import Derived.Test.YtjfeimhiiomgoaaGreatTd1
import Derived.Test.YtjfeimhiiomgoaaGreatX4
import Derived.Test.YtjfeimhiiomgoaaGreatRd1
set_option linter.unusedVariables false
set_option linter.unusedSimpArgs false
set_option linter.defProp false
set_option linter.unusedSectionVars false
namespace Go.Proofs.YtjfeimhiiomgoaaGreatH
open Go
section
theorem bS {α β : Type} {a : α} {f : α -> Option β} : (some a).bind f = f a := rfl
end
section
end
section
theorem toI {a : List Int} (h : a.length <= 1048576) : f50 a = some a := by
 unfold f50
 rw [mkl_ok (by omega) (by omega) (by omega)]
 have : iter (f50_0 a) (List.replicate (a.length : Int).toNat 0, 0) = some a := iter_copy (by simp) (fun i hi out ho => by
  simp only [f50_0]
  rw [if_pos (by omega), ix_nat hi, ix_nat ho, Int.toNat_natCast, w64_succ (by omega)]; rfl) (fun out => by
  simp only [f50_0]
  rw [if_neg (by omega)])
 simp only [bS, this]
theorem eqI {a : List Int} (h : a.length <= 9223372036854775807) : f63 a a = some true := by
 unfold f63
 rw [if_neg (by simp)]
 rw [iter_ex (List.range a.length) (fun _ => false) false (fun i hi => by
  simp only [f63_0]
  simp only [List.length_range] at hi
  rw [if_pos (by omega), ix_nat hi, w64_succ (by omega)]
  simp) (by
  simp only [f63_0]
  rw [if_neg (by simp)])]
 simp
theorem szI {a : List Int} {n : Int} (h : a.length <= 9223372036854775807) (h0 : 0 <= n) (h1 : n <= 1048576) : f41 a n = some (lft n a.length) := by
 unfold f41
 rw [w64_of (by omega)]
 unfold lft
 by_cases hc : n < (a.length : Int)
 ·rw [if_pos (by omega), if_neg (by omega)]
 ·rw [if_neg (by omega), if_pos (by omega)]
end
section
abbrev Big (n : Nat) : Prop := n <= 9223372036854775806
theorem hasI {l : List Int} {x : Int} (h : Big l.length) : f45 l x = some (l.contains x) := by
 unfold f45
 rw [iter_ex l (fun a => x == a) true (fun i hi => by
  simp only [f45_0]
  rw [if_pos (by omega), ix_nat hi, w64_succ (by omega)]
  simp only [bS]
  by_cases hc : l[i] = x
  ·rw [if_pos hc, if_pos (by simp [hc])]
  ·rw [if_neg hc, if_neg (by simp; exact fun h => hc h.symm)]) (by
  simp only [f45_0]
  rw [if_neg (by omega)])]
 rw [show l.contains x = l.any (fun a => x == a) from List.any_beq.symm]
 by_cases hc : l.any (fun a => x == a) = true
 ·rw [if_pos hc, hc]; rfl
 ·rw [if_neg hc]; simp only [Bool.not_eq_true] at hc; rw [hc]; rfl
theorem indexI {s : List Int} {f : Int -> Option Bool} {p : Int -> Bool} (h : Big s.length) (hf : ∀ a ∈ s, f a = some (p a)) : f179 s f = some (s.any p) := by
 unfold f179 f95
 obtain ⟨o, h1, h2⟩ := iter_idx (f := f95_0 s f) s p (fun i hi => by
  simp only [f95_0]
  rw [if_pos (by omega), ix_nat hi, w64_succ (by omega)]
  simp only [bS, hf _ (List.getElem_mem hi)]
  split <;> rfl) (by
  simp only [f95_0]
  rw [if_neg (by omega)])
 rw [h1]
 cases o with
 | inl _ => dsimp only at h2; rw [h2]; rfl
 | inr x => dsimp only at h2; rw [h2.2]; simp; omega
theorem containsI {s : List Int} {v : Int} (h : Big s.length) : f97 s v = some (s.contains v) := by
 unfold f97 f156
 obtain ⟨o, h1, h2⟩ := iter_idx (f := f156_0 s v) s (fun a => v == a) (fun i hi => by
  simp only [f156_0]
  rw [if_pos (by omega), ix_nat hi, w64_succ (by omega)]
  simp only [bS, beq_iff_eq]
  split <;> rfl) (by
  simp only [f156_0]
  rw [if_neg (by omega)])
 rw [h1]
 rw [show s.contains v = s.any (fun a => v == a) from List.any_beq.symm]
 cases o with
 | inl _ => dsimp only at h2; rw [h2]; rfl
 | inr x => dsimp only at h2; rw [h2.2]; simp; omega
theorem subset {a b : List Int} (ha : Big a.length) (hb : Big b.length) : f181 a b = some (a.all b.contains) := by
 unfold f181
 rw [indexI (p := fun x => !b.contains x) ha (fun x _ => by
  unfold f222
  rw [containsI hb]
  simp)]
 rw [any_not]
 simp
end
section
def smaller (l : List (List Int)) (k i : Nat) : Bool := decide ((l.getD k []).length < (l.getD i []).length) || (decide (k < i) && decide ((l.getD k []).length = (l.getD i []).length))
def least (l : List (List Int)) (i : Nat) : Bool := (List.range l.length).all fun k => !(smaller l k i && (l.getD k []).all (l.getD i []).contains)
end
section
theorem toRs {a : List Relation} (h : a.length <= 1048576) : f9 a = some a := by
 unfold f9
 rw [mkl_ok (by omega) (by omega) (by omega)]
 have : iter (f9_0 a) (List.replicate (a.length : Int).toNat ({ Name := [], Arity := 0, KeyLength := 0 } : Relation), 0) = some a := iter_copy (by simp) (fun i hi out ho => by
  simp only [f9_0]
  rw [if_pos (by omega), ix_nat hi, ix_nat ho, Int.toNat_natCast, w64_succ (by omega)]; rfl) (fun out => by
  simp only [f9_0]
  rw [if_neg (by omega)])
 simp only [bS, this]
theorem toFt {a : Fact} (h : a.Values.length <= 1048576) : f133 a = some a := by
 unfold f133
 rw [toI h]; rfl
theorem toFs {a : List Fact} (h : a.length <= 1048576) (h' : ∀ x ∈ a, x.Values.length <= 1048576) : f71 a = some a := by
 unfold f71
 rw [mkl_ok (by omega) (by omega) (by omega)]
 have : iter (f71_0 a) (List.replicate (a.length : Int).toNat ({ Relation := 0, Values := [] } : Fact), 0) = some a := iter_copy (by simp) (fun i hi out ho => by
  simp only [f71_0]
  rw [if_pos (by omega), ix_nat hi, ix_nat ho, Int.toNat_natCast, w64_succ (by omega)]
  simp only [bS, toFt (h' _ (List.getElem_mem hi))]) (fun out => by
  simp only [f71_0]
  rw [if_neg (by omega)])
 simp only [bS, this]
def Fits (d : Database) : Prop := d.Relations.length <= 1048576 /\ d.Facts.length <= 1048576 /\ ∀ x ∈ d.Facts, x.Values.length <= 1048576
theorem toDb {a : Database} (h : Fits a) : f21 a = some a := by
 unfold f21
 rw [toRs h.1, bS, toFs h.2.1 h.2.2]; rfl
theorem eqRl {a : Relation} : f61 a a = some true := by unfold f61; simp
theorem eqRs {a : List Relation} (h : a.length <= 9223372036854775807) : f13 a a = some true := by
 unfold f13
 rw [if_neg (by simp)]
 rw [iter_ex (List.range a.length) (fun _ => false) false (fun i hi => by
  simp only [f13_0]
  simp only [List.length_range] at hi
  rw [if_pos (by omega), ix_nat hi, w64_succ (by omega)]
  simp only [bS, eqRl]
  simp) (by
  simp only [f13_0]
  rw [if_neg (by simp)])]
 simp
theorem eqFt {a : Fact} (h : a.Values.length <= 9223372036854775807) : f140 a a = some true := by
 unfold f140
 rw [if_neg (by simp), eqI h]; simp
theorem eqFs {a : List Fact} (h : a.length <= 9223372036854775807) (h' : ∀ x ∈ a, x.Values.length <= 9223372036854775807) : f74 a a = some true := by
 unfold f74
 rw [if_neg (by simp)]
 rw [iter_ex (List.range a.length) (fun _ => false) false (fun i hi => by
  simp only [f74_0]
  simp only [List.length_range] at hi
  rw [if_pos (by omega), ix_nat hi, w64_succ (by omega)]
  simp only [bS, eqFt (h' _ (List.getElem_mem hi))]
  simp) (by
  simp only [f74_0]
  rw [if_neg (by simp)])]
 simp
theorem eqDb {a : Database} (h : Fits a) : f23 a a = some true := by
 unfold f23
 rw [eqRs (by have := h.1; omega), bS, if_neg (by simp), eqFs (by have := h.2.1; omega) (fun x hx => by have := h.2.2 x hx; omega)]
 simp
theorem szRl {a : Relation} {n : Int} (h : ok a) (h0 : 0 <= n) (h1 : n <= 1048576) : f39 a n = some (lft n a.Name.length) := by
 have h := h.1.1
 unfold f39
 rw [w64_of (by omega)]
 unfold lft
 by_cases hc : n < (a.Name.length : Int)
 ·rw [if_pos (by omega), if_neg (by omega)]
 ·rw [if_neg (by omega), if_pos (by omega)]
theorem szFt {a : Fact} {n : Int} (h : ok a) (h0 : 0 <= n) (h1 : n <= 1048576) : f126 a n = some (lft n a.Values.length) := by
 unfold f126
 rw [szI h.2.1 h0 h1, bS]
 split
 ·rename_i hlt; rw [lft_bad hlt]
 ·rfl
theorem lft_sub {n : Int} {a b : Nat} (h : ¬ n < a) : lft (n - a) b = lft n (a + b) := by
 unfold lft
 by_cases hc2 : ((b : Nat) : Int) <= n - a
 ·rw [if_pos hc2, if_pos (by omega)]; omega
 ·rw [if_neg hc2, if_neg (by omega)]
theorem szRs {a : List Relation} {n : Int} (h : ok a) (h0 : 0 <= n) (h1 : n <= 1048576) : f6 a n = some (lft n (a.length + (a.map (·.Name.length)).sum)) := by
 obtain ⟨h, h'⟩ := h
 unfold f6
 rw [w64_of (by omega)]
 by_cases hc : n < (a.length : Int)
 ·rw [if_pos (by omega)]
  unfold lft
  rw [if_neg (by omega)]
 ·rw [if_neg (by omega)]
  rw [iter_sz (fun x : Relation => x.Name.length) a _ (by omega) (fun i hi b hb hb' => by
   simp only [f6_0]
   rw [if_pos (by omega), ix_nat hi, w64_succ (by omega)]
   simp only [bS, szRl (h' _ (List.getElem_mem hi)) hb (by omega)]
   split <;> rfl) (fun b => by
   simp only [f6_0]
   rw [if_neg (by omega)]), lft_sub hc]
  split
  ·rename_i hlt
   rw [lft_bad hlt]; rfl
  ·rfl
theorem szFs {a : List Fact} {n : Int} (h : ok a) (h0 : 0 <= n) (h1 : n <= 1048576) : f68 a n = some (lft n (a.length + (a.map (·.Values.length)).sum)) := by
 obtain ⟨h, h'⟩ := h
 unfold f68
 rw [w64_of (by omega)]
 by_cases hc : n < (a.length : Int)
 ·rw [if_pos (by omega)]
  unfold lft
  rw [if_neg (by omega)]
 ·rw [if_neg (by omega)]
  rw [iter_sz (fun x : Fact => x.Values.length) a _ (by omega) (fun i hi b hb hb' => by
   simp only [f68_0]
   rw [if_pos (by omega), ix_nat hi, w64_succ (by omega)]
   simp only [bS, szFt (h' _ (List.getElem_mem hi)) hb (by omega)]
   split <;> rfl) (fun b => by
   simp only [f68_0]
   rw [if_neg (by omega)]), lft_sub hc]
  split
  ·rename_i hlt
   rw [lft_bad hlt]; rfl
  ·rfl
def relSize (l : List Relation) : Nat := l.length + (l.map (·.Name.length)).sum
def factSize (l : List Fact) : Nat := l.length + (l.map (·.Values.length)).sum
def dbSize (d : Database) : Nat := relSize d.Relations + factSize d.Facts
theorem szDb {a : Database} {n : Int} (h : ok a) (h0 : 0 <= n) (h1 : n <= 1048576) : f19 a n = some (lft n (dbSize a)) := by
 unfold f19
 rw [szRs h.1 h0 h1, bS]
 change (if lft n (relSize a.Relations) < 0 then _ else _) = _
 by_cases hc : lft n (relSize a.Relations) < 0
 ·rw [if_pos hc]
  have := lft_neg.1 hc
  unfold lft dbSize; rw [if_neg (by omega)]
 ·rw [if_neg hc]
  obtain ⟨e1, e2⟩ := lft_pos hc
  change (f68 a.Facts (lft n (relSize a.Relations))).bind _ = _
  rw [e1, szFs h.2 (by omega) (by omega), bS]
  change (if lft (n - relSize a.Relations) (factSize a.Facts) < 0 then _ else _) = _
  change (if lft (n - relSize a.Relations) (factSize a.Facts) < 0 then _ else some (lft (n - relSize a.Relations) (factSize a.Facts))) = _
  rw [lft_sub (by omega)]
  split
  ·rename_i hlt; unfold dbSize; rw [lft_bad hlt]
  ·rfl
theorem db_fits {a : Database} (h : dbSize a <= 1048576) : Fits a := by
 unfold dbSize relSize factSize at h
 refine ⟨by omega, by omega, fun x hx => ?_⟩
 have := mem_le_sum (s := fun x : Fact => x.Values.length) hx
 omega
end
section
variable {α ρ : Type}
def good (q : α -> Bool) (r : α -> α -> Bool) (l : List α) : Bool := decide (∀ i (h : i < l.length), (q l[i] && (decide (i = 0) || r (l[i - 1]'(by omega)) l[i])) = true)
theorem good_of {q : α -> Bool} {r : α -> α -> Bool} {l : List α} (h : good q r l = true) {i : Nat} (hi : i < l.length) : q l[i] = true /\ (0 < i -> r (l[i - 1]'(by omega)) l[i] = true) := by
 have := of_decide_eq_true h i hi
 simp only [Bool.and_eq_true, Bool.or_eq_true, decide_eq_true_eq] at this
 exact ⟨this.1, fun hp => this.2.resolve_left (by omega)⟩
theorem iter_adj {f : Int -> Option (Int ⊕ (Unit ⊕ ρ))} (q : α -> Bool) (r : α -> α -> Bool) (L : List α) (c : ρ)
  (hs : ∀ (i : Nat) (h : i < L.length), f (i : Int) = some (if (q L[i] && (decide (i = 0) || r (L[i - 1]'(by omega)) L[i])) = true then .inl ((i + 1 : Nat) : Int) else .inr (.inr c)))
  (he : f (L.length : Int) = some (.inr (.inl ()))) : iter f 0 = some (if good q r L = true then .inl () else .inr c) := by
 obtain ⟨o, h1, h2⟩ := iter_up (f := f) L.length (fun i s => s = (i : Int) /\ ∀ j (h : j < L.length), j < i -> (q L[j] && (decide (j = 0) || r (L[j - 1]'(by omega)) L[j])) = true)
  (fun o => o = if good q r L = true then .inl () else .inr c) (fun i s hi ⟨h, hp⟩ => by
   subst h
   refine ⟨_, hs i hi, ?_⟩
   by_cases hc : (q L[i] && (decide (i = 0) || r (L[i - 1]'(by omega)) L[i])) = true
   ·rw [if_pos hc]
    refine ⟨rfl, fun j hj hlt => ?_⟩
    by_cases e : j = i
    ·subst e; exact hc
    ·exact hp j hj (by omega)
   ·rw [if_neg hc]
    dsimp only
    rw [if_neg]
    intro hg
    exact hc (of_decide_eq_true hg i hi)) (fun s ⟨h, hp⟩ => by
   subst h
   refine ⟨_, he, ?_⟩
   rw [if_pos]
   exact decide_eq_true fun i hi => hp i hi hi) 0 ⟨rfl, fun j _ h => by omega⟩
 rw [h1, h2]
def btw (x low high : Int) : Bool := decide (low <= x) && decide (x <= high)
theorem specIn {x a b : Int} : f110 x a b = some (btw x a b) := by
 unfold f110 btw
 by_cases h : a <= x
 ·rw [if_pos (show x >= a from h)]; simp [h]
 ·rw [if_neg (show ¬ x >= a from h)]; simp [h]
theorem impIn {x a b : Int} : f121 x a b = some (btw x a b) := by
 unfold f121 btw
 by_cases h : a <= x
 ·rw [if_pos h]; simp [h]
 ·rw [if_neg h]; simp [h]
def vRel (r : Relation) : Bool := decide (r.Name.length = 1) && (decide (97 <= (r.Name.getD 0 0).toNat) && (decide ((r.Name.getD 0 0).toNat <= 122) && (btw r.Arity 1 3 && btw r.KeyLength 0 r.Arity)))
theorem specRel {r : Relation} : f173 r = some (vRel r) := by
 unfold f173 vRel
 by_cases h1 : r.Name.length = 1
 ·rw [if_pos (by omega)]
  have e : ix r.Name 0 = some (r.Name.getD 0 0) := by rw [ix_of (by omega)]; simp [zE (show 0 < r.Name.length by omega)]
  rw [e, bS]
  generalize r.Name.getD 0 0 = c
  by_cases h2 : 97 <= c.toNat
  ·rw [if_pos (by omega)]
   by_cases h3 : c.toNat <= 122
   ·rw [if_pos (by omega), specIn, bS]
    cases hb : btw r.Arity 1 3
    ·simp
    ·simp [specIn, h1, h2, h3]
   ·rw [if_neg (by omega)]; simp [h3]
  ·rw [if_neg (by omega)]; simp [h2]
 ·rw [if_neg (by omega)]; simp [h1]
theorem impRel {r : Relation} : f175 r = some (vRel r) := by
 unfold f175 vRel
 by_cases h1 : r.Name.length = 1
 ·rw [if_pos (by omega)]
  have e : ix r.Name 0 = some (r.Name.getD 0 0) := by rw [ix_of (by omega)]; simp [zE (show 0 < r.Name.length by omega)]
  rw [e, bS]
  generalize r.Name.getD 0 0 = c
  by_cases h2 : 97 <= c.toNat
  ·rw [if_pos (by omega)]
   by_cases h3 : c.toNat <= 122
   ·rw [if_pos (by omega), impIn, bS]
    cases hb : btw r.Arity 1 3
    ·simp
    ·simp [impIn, h1, h2, h3]
   ·rw [if_neg (by omega)]; simp [h3]
  ·rw [if_neg (by omega)]; simp [h2]
 ·rw [if_neg (by omega)]; simp [h1]
def vRels (l : List Relation) : Bool := good vRel (fun a b => Op.bytesLess a.Name b.Name) l && decide (l.length <= 4)
theorem specRels {l : List Relation} (h : Big l.length) : f129 l = some (vRels l) := by
 unfold f129 vRels
 rw [iter_adj vRel (fun a b => Op.bytesLess a.Name b.Name) l false (fun i hi => by
  simp only [f129_0]
  rw [if_pos (by omega), ix_nat hi, w64_succ (by omega)]
  simp only [bS, specRel]
  cases vRel l[i]
  ·simp
  ·by_cases h0 : i = 0
   ·subst h0; simp
   ·have e : ix l (w64 ((i : Int) - 1)) = some (l[i - 1]'(by omega)) := by rw [w64_of (by omega), show (i : Int) - 1 = ((i - 1 : Nat) : Int) by omega, ix_nat (by omega)]
    simp only [e]
    have : 0 < i := by omega
    cases hb : Op.bytesLess (l[i - 1]'(by omega)).Name l[i].Name <;> simp [h0, this, hb]) (by
  simp only [f129_0]
  rw [if_neg (by omega)])]
 cases good vRel (fun a b => Op.bytesLess a.Name b.Name) l
 ·simp
 ·simp; omega
theorem impRels {l : List Relation} (h : Big l.length) : f134 l = some (vRels l) := by
 unfold f134 vRels
 rw [iter_adj vRel (fun a b => Op.bytesLess a.Name b.Name) l false (fun i hi => by
  simp only [f134_0]
  rw [if_pos (by omega), ix_nat hi, w64_succ (by omega)]
  simp only [bS, impRel]
  cases vRel l[i]
  ·simp
  ·by_cases h0 : i = 0
   ·subst h0; simp
   ·have e : ix l (w64 ((i : Int) - 1)) = some (l[i - 1]'(by omega)) := by rw [w64_of (by omega), show (i : Int) - 1 = ((i - 1 : Nat) : Int) by omega, ix_nat (by omega)]
    simp only [e]
    have : 0 < i := by omega
    cases hb : Op.bytesLess (l[i - 1]'(by omega)).Name l[i].Name <;> simp [h0, this, hb]) (by
  simp only [f134_0]
  rw [if_neg (by omega)])]
 cases good vRel (fun a b => Op.bytesLess a.Name b.Name) l
 ·simp
 ·simp; omega
def arity (l : List Relation) (r : Int) : Int := (l[r.toNat]?.map (·.Arity)).getD 0
def keyLen (l : List Relation) (r : Int) : Int := (l[r.toNat]?.map (·.KeyLength)).getD 0
def vVals (l : List Int) : Bool := l.all fun v => btw v 0 9
def vFact (l : List Relation) (f : Fact) : Bool := btw f.Relation 0 (l.length - 1) && (decide ((f.Values.length : Int) = arity l f.Relation) && vVals f.Values)
theorem ix_rel {l : List Relation} {r : Int} (h : btw r 0 (l.length - 1) = true) : ∃ x, ix l r = some x /\ x ∈ l /\ x.Arity = arity l r /\ x.KeyLength = keyLen l r := by
 unfold btw at h; simp only [Bool.and_eq_true, decide_eq_true_eq] at h
 have e : l[r.toNat]? = some (l[r.toNat]'(by omega)) := zE _
 refine ⟨l[r.toNat]'(by omega), ?_, List.getElem_mem _, ?_, ?_⟩
 ·rw [ix_of h.1, e]
 ·unfold arity; rw [e]; rfl
 ·unfold keyLen; rw [e]; rfl
theorem specFact {l : List Relation} {f : Fact} (h : Big l.length) (hf : Big f.Values.length) : f127 l f = some (vRels l && vFact l f) := by
 unfold f127 vFact
 rw [specRels h, bS]
 cases vRels l
 ·simp
 ·rw [w64_of (by omega), specIn]
  cases hb : btw f.Relation 0 (l.length - 1)
  ·simp
  ·obtain ⟨x, h1, _, h2, _⟩ := ix_rel hb
   rw [h1]
   by_cases ha : (f.Values.length : Int) = arity l f.Relation
   ·rw [iter_ex f.Values (fun v => !btw v 0 9) false (fun i hi => by
     simp only [f127_0]
     rw [if_pos (by omega), ix_nat hi, w64_succ (by omega)]
     simp only [bS, specIn]
     cases btw f.Values[i] 0 9 <;> simp) (by
     simp only [f127_0]
     rw [if_neg (by omega)])]
    unfold vVals
    rw [any_not]
    cases f.Values.all (fun v => btw v 0 9) <;> simp [h2, ha]
   ·simp [h2, ha]
theorem impVals {l : List Int} (h : Big l.length) : f176 l = some (vVals l) := by
 unfold f176
 rw [indexI (p := fun v => !btw v 0 9) h (fun v _ => by
  unfold f220
  rw [impIn]; cases btw v 0 9 <;> simp)]
 unfold vVals
 rw [any_not]
 cases l.all (fun v => btw v 0 9) <;> simp
theorem impFact {l : List Relation} {f : Fact} (h : Big l.length) (hf : Big f.Values.length) : f135 l f = some (vFact l f) := by
 unfold f135 vFact
 rw [w64_of (by omega), impIn]
 cases hb : btw f.Relation 0 (l.length - 1)
 ·simp
 ·obtain ⟨x, h1, _, h2, _⟩ := ix_rel hb
  rw [h1]
  by_cases ha : (f.Values.length : Int) = arity l f.Relation
  ·simp [h2, ha, impVals hf]
  ·simp [h2, ha]
def cmpL : List Int -> List Int -> Int
 | [], [] => 0
 | [], _ :: _ => -1
 | _ :: _, [] => 1
 | a :: s, b :: t => if a < b then -1 else if a > b then 1 else cmpL s t
theorem cmpL_step {a b : List Int} {i : Nat} (ha : i < a.length) (hb : i < b.length) : cmpL (a.drop i) (b.drop i) = if a[i] < b[i] then -1 else if a[i] > b[i] then 1 else cmpL (a.drop (i + 1)) (b.drop (i + 1)) := by
 rw [List.drop_eq_getElem_cons ha, List.drop_eq_getElem_cons hb, cmpL]
theorem cmpL_end {a b : List Int} {i : Nat} (h : a.length <= i \/ b.length <= i) (hi : i <= a.length /\ i <= b.length) : cmpL (a.drop i) (b.drop i) = if a.length < b.length then -1 else if a.length > b.length then 1 else 0 := by
 rcases h with h | h
 ·rw [List.drop_of_length_le h]
  by_cases e : b.length <= i
  ·rw [List.drop_of_length_le e, cmpL, if_neg (by omega), if_neg (by omega)]
  ·rw [List.drop_eq_getElem_cons (by omega : i < b.length), cmpL, if_pos (by omega)]
 ·rw [List.drop_of_length_le h]
  by_cases e : a.length <= i
  ·rw [List.drop_of_length_le e, cmpL, if_neg (by omega), if_neg (by omega)]
  ·rw [List.drop_eq_getElem_cons (by omega : i < a.length), cmpL, if_neg (by omega), if_pos (by omega)]
theorem specInts {a b : List Int} (ha : Big a.length) (hb : Big b.length) : f172 a b = some (cmpL a b) := by
 unfold f172
 refine Ens.eq (Q := fun r => r = cmpL a b) (Ens.bind (Q := fun o => match o with | .inl _ => (if a.length < b.length then -1 else if a.length > b.length then 1 else 0) = cmpL a b | .inr x => x = cmpL a b) ?_ fun o ho => ?_) _ (fun _ h => h)
 ·refine iter_up (f := f172_0 a b) (min a.length b.length) (fun i s => s = (i : Int) /\ cmpL (a.drop i) (b.drop i) = cmpL a b) _ (fun i s hi ⟨h, hp⟩ => ?_) (fun s ⟨h, hp⟩ => ?_) 0 ⟨rfl, rfl⟩
  ·subst h
   have h1 : i < a.length := by omega
   have h2 : i < b.length := by omega
   simp only [f172_0]
   rw [if_pos (by omega), ix_nat h1, ix_nat h2, w64_succ (by omega)]
   rw [cmpL_step h1 h2] at hp
   simp only [bS, show (i : Int) < b.length by omega, decide_true, if_true]
   by_cases c1 : a[i] < b[i]
   ·rw [if_pos c1] at hp ⊢
    exact ⟨_, rfl, hp⟩
   ·rw [if_neg c1] at hp ⊢
    by_cases c2 : a[i] > b[i]
    ·rw [if_pos c2] at hp ⊢; exact ⟨_, rfl, hp⟩
    ·rw [if_neg c2] at hp ⊢; exact ⟨_, rfl, rfl, hp⟩
  ·subst h
   rw [cmpL_end (by omega) (by omega)] at hp
   simp only [f172_0]
   by_cases c : ((min a.length b.length : Nat) : Int) < a.length
   ·rw [if_pos c]
    simp only [bS, show ¬ ((min a.length b.length : Nat) : Int) < b.length by omega, decide_false]
    exact ⟨_, rfl, hp⟩
   ·rw [if_neg c]; exact ⟨_, rfl, hp⟩
 ·cases o with
  | inl _ =>
   dsimp only at ho ⊢
   by_cases c1 : a.length < b.length
   ·rw [if_pos c1] at ho; rw [if_pos (by omega)]; exact Ens.of ho
   ·rw [if_neg c1] at ho; rw [if_neg (by omega)]
    by_cases c2 : a.length > b.length
    ·rw [if_pos c2] at ho; rw [if_pos (by omega)]; exact Ens.of ho
    ·rw [if_neg c2] at ho; rw [if_neg (by omega)]; exact Ens.of ho
  | inr x => exact Ens.of ho
theorem cmpInt {a b : Int} : f221 a b = some (if a < b then -1 else if a > b then 1 else 0) := by
 unfold f221 f244
 simp only [ne_eq, not_true_eq_false, decide_false, bS, Bool.false_eq_true, if_false]
 split
 ·rfl
 ·split <;> rfl
theorem impInts {a b : List Int} (ha : Big a.length) (hb : Big b.length) : f178 a b = some (cmpL a b) := by
 unfold f178
 refine Ens.eq (Q := fun r => r = cmpL a b) (Ens.bind (Q := fun o => match o with | .inl _ => (if a.length < b.length then -1 else 0) = cmpL a b | .inr x => x = cmpL a b) ?_ fun o ho => ?_) _ (fun _ h => h)
 ·refine iter_up (f := f178_0 a b) a.length (fun i s => s = (i : Int) /\ i <= b.length /\ cmpL (a.drop i) (b.drop i) = cmpL a b) _ (fun i s hi ⟨h, hl, hp⟩ => ?_) (fun s ⟨h, hl, hp⟩ => ?_) 0 ⟨rfl, by omega, rfl⟩
  ·subst h
   simp only [f178_0]
   rw [if_pos (by omega), ix_nat hi, w64_succ (by omega)]
   by_cases h2 : i < b.length
   ·rw [bS, if_neg (by omega), ix_nat h2]
    rw [cmpL_step hi h2] at hp
    simp only [bS, cmpInt]
    by_cases c1 : a[i] < b[i]
    ·rw [if_pos c1] at hp ⊢
     rw [if_pos (by omega)]; exact ⟨_, rfl, hp⟩
    ·rw [if_neg c1] at hp ⊢
     by_cases c2 : a[i] > b[i]
     ·rw [if_pos c2] at hp ⊢; rw [if_pos (by omega)]; exact ⟨_, rfl, hp⟩
     ·rw [if_neg c2] at hp ⊢; rw [if_neg (by omega)]; exact ⟨_, rfl, rfl, by omega, hp⟩
   ·rw [bS, if_pos (by omega)]
    rw [cmpL_end (by omega) (by omega), if_neg (by omega), if_pos (by omega)] at hp
    exact ⟨_, rfl, hp⟩
  ·subst h
   simp only [f178_0]
   rw [if_neg (by omega)]
   rw [cmpL_end (by omega) (by omega)] at hp
   refine ⟨_, rfl, ?_⟩
   dsimp only
   rw [<- hp]
   by_cases c1 : a.length < b.length
   ·rw [if_pos c1, if_pos c1]
   ·rw [if_neg c1, if_neg c1, if_neg (by omega)]
 ·cases o with
  | inl _ =>
   dsimp only at ho ⊢
   by_cases c1 : a.length < b.length
   ·rw [if_pos c1] at ho; rw [if_pos (by omega)]; exact Ens.of ho
   ·rw [if_neg c1] at ho; rw [if_neg (by omega)]; exact Ens.of ho
  | inr x => exact Ens.of ho
def cmpF (a b : Fact) : Int := if a.Relation < b.Relation then -1 else if a.Relation > b.Relation then 1 else cmpL a.Values b.Values
theorem specCmp {a b : Fact} (ha : Big a.Values.length) (hb : Big b.Values.length) : f128 a b = some (cmpF a b) := by
 unfold f128 cmpF
 rw [specInts ha hb]
 split
 ·rfl
 ·split <;> rfl
theorem impCmp {a b : Fact} (ha : Big a.Values.length) (hb : Big b.Values.length) : f136 a b = some (cmpF a b) := by
 unfold f136 f177 cmpF
 rw [impInts ha hb]
 by_cases c1 : a.Relation < b.Relation
 ·rw [if_pos (by omega), if_pos c1, if_pos c1]; rfl
 ·rw [if_neg c1, if_neg c1]
  by_cases c2 : a.Relation > b.Relation
  ·rw [if_pos (by omega), if_pos c2, if_pos c2]; rfl
  ·rw [if_neg (by omega), if_neg c2]; rfl
def Room (d : Database) : Prop := Big d.Relations.length /\ Big d.Facts.length /\ ∀ x ∈ d.Facts, Big x.Values.length
theorem fits_room {d : Database} (h : Fits d) : Room d := ⟨by have := h.1; omega, by have := h.2.1; omega, fun x hx => by have := h.2.2 x hx; omega⟩
def gFacts (d : Database) : Bool := good (vFact d.Relations) (fun a b => decide (cmpF a b < 0)) d.Facts
def vDb (d : Database) : Bool := vRels d.Relations && (decide (d.Facts.length <= 14) && gFacts d)
theorem good_congr {q q' : α -> Bool} {r : α -> α -> Bool} {l : List α} (h : ∀ a ∈ l, q a = q' a) : good q r l = good q' r l := by
 unfold good
 congr 1
 apply propext
 constructor
 ·intro g i hi; rw [<- h _ (List.getElem_mem hi)]; exact g i hi
 ·intro g i hi; rw [h _ (List.getElem_mem hi)]; exact g i hi
theorem specDb {d : Database} (h : Room d) : f69 d = some (vDb d) := by
 obtain ⟨h1, h2, h3⟩ := h
 unfold f69
 rw [iter_adj (fun f => vRels d.Relations && vFact d.Relations f) (fun a b => decide (cmpF a b < 0)) d.Facts false (fun i hi => by
  simp only [f69_0]
  rw [if_pos (by omega), ix_nat hi, w64_succ (by omega)]
  simp only [bS, specFact h1 (h3 _ (List.getElem_mem hi))]
  cases (vRels d.Relations && vFact d.Relations d.Facts[i])
  ·simp
  ·by_cases h0 : i = 0
   ·subst h0; simp
   ·have e : ix d.Facts (w64 ((i : Int) - 1)) = some (d.Facts[i - 1]'(by omega)) := by rw [w64_of (by omega), show (i : Int) - 1 = ((i - 1 : Nat) : Int) by omega, ix_nat (by omega)]
    simp only [e, bS, specCmp (h3 _ (List.getElem_mem (show i - 1 < d.Facts.length by omega))) (h3 _ (List.getElem_mem hi))]
    have : 0 < i := by omega
    by_cases hb : cmpF (d.Facts[i - 1]'(by omega)) d.Facts[i] < 0
    ·simp [h0, this, hb, Int.not_le.2 hb]
    ·simp [h0, this, hb, show 0 <= cmpF (d.Facts[i - 1]'(by omega)) d.Facts[i] by omega]) (by
  simp only [f69_0]
  rw [if_neg (by omega)])]
 unfold vDb
 rw [specRels h1]
 cases hv : vRels d.Relations
 ·split <;> simp
 ·have e : good (fun f => true && vFact d.Relations f) (fun a b => decide (cmpF a b < 0)) d.Facts = gFacts d := good_congr fun a _ => Bool.true_and _
  rw [e]
  cases gFacts d
  ·simp
  ·simp; omega
theorem impDb {d : Database} (h : Room d) : f72 d = some (vDb d) := by
 obtain ⟨h1, h2, h3⟩ := h
 unfold f72 vDb
 rw [impRels h1, bS]
 cases vRels d.Relations
 ·simp
 ·by_cases hn : d.Facts.length <= 14
  ·rw [iter_adj (vFact d.Relations) (fun a b => decide (cmpF a b < 0)) d.Facts false (fun i hi => by
    simp only [f72_0]
    rw [if_pos (by omega), ix_nat hi, w64_succ (by omega)]
    simp only [bS, impFact h1 (h3 _ (List.getElem_mem hi))]
    cases vFact d.Relations d.Facts[i]
    ·simp
    ·by_cases h0 : i = 0
     ·subst h0; simp
     ·have e : ix d.Facts (w64 ((i : Int) - 1)) = some (d.Facts[i - 1]'(by omega)) := by rw [w64_of (by omega), show (i : Int) - 1 = ((i - 1 : Nat) : Int) by omega, ix_nat (by omega)]
      simp only [e, bS, impCmp (h3 _ (List.getElem_mem (show i - 1 < d.Facts.length by omega))) (h3 _ (List.getElem_mem hi))]
      have : 0 < i := by omega
      by_cases hb : cmpF (d.Facts[i - 1]'(by omega)) d.Facts[i] < 0
      ·simp [h0, this, hb, Int.not_le.2 hb]
      ·simp [h0, this, hb, show 0 <= cmpF (d.Facts[i - 1]'(by omega)) d.Facts[i] by omega]) (by
    simp only [f72_0]
    rw [if_neg (by omega)])]
   change _ = some (true && (decide (d.Facts.length <= 14) && good (vFact d.Relations) (fun a b => decide (cmpF a b < 0)) d.Facts))
   cases good (vFact d.Relations) (fun a b => decide (cmpF a b < 0)) d.Facts
   ·simp
   ·simp [hn]; omega
  ·simp [hn]; omega
def asc (n : Int) (l : List Int) : Bool := good (fun v => btw v 0 (n - 1)) (fun a b => decide (a < b)) l
theorem impSet {l : List Int} {n : Nat} (hd : Big n) (h : Big l.length) : f93 l n = some (asc n l) := by
 unfold f93
 rw [iter_adj (fun v => btw v 0 ((n : Int) - 1)) (fun a b => decide (a < b)) l false (fun i hi => by
  simp only [f93_0]
  rw [if_pos (by omega), ix_nat hi, w64_succ (by omega), w64_of (n := (n : Int) - 1) (by omega)]
  simp only [bS, impIn]
  cases btw l[i] 0 ((n : Int) - 1)
  ·simp
  ·by_cases h0 : i = 0
   ·subst h0; simp
   ·have e : ix l (w64 ((i : Int) - 1)) = some (l[i - 1]'(by omega)) := by rw [w64_of (by omega), show (i : Int) - 1 = ((i - 1 : Nat) : Int) by omega, ix_nat (by omega)]
    simp only [e]
    have : 0 < i := by omega
    by_cases hb : l[i - 1]'(by omega) < l[i]
    ·simp [h0, this, hb, Int.not_le.2 hb]
    ·simp [h0, this, hb, Int.not_lt.1 hb]) (by
  simp only [f93_0]
  rw [if_neg (by omega)])]
 unfold asc
 cases good (fun v => btw v 0 ((n : Int) - 1)) (fun a b => decide (a < b)) l <;> simp
end
section
variable {α ρ : Type}
theorem nodup_le : ∀ {n : Nat} {H : List Int}, H.Nodup -> (∀ v ∈ H, 0 <= v /\ v < n) -> H.length <= n
 | 0, [], _, _ => by simp
 | 0, a :: H, _, h => by have := h a (by simp); omega
 | n + 1, H, hd, h => by
  have h1 : (H.erase ((n : Nat) : Int)).length <= n := nodup_le (hd.erase _) fun v hv => by
   have h2 := h v (List.mem_of_mem_erase hv)
   have h3 := (List.Nodup.mem_erase_iff hd).1 hv
   have := h3.1
   omega
  have h2 := List.length_erase (l := H) (a := ((n : Nat) : Int))
  split at h2 <;> omega
theorem cmpL_trans : ∀ {a b c : List Int}, cmpL a b < 0 -> cmpL b c < 0 -> cmpL a c < 0
 | [], _, [], h1, h2 => by
  rename_i b
  cases b with
  | nil => simp [cmpL] at h1
  | cons y b => simp [cmpL] at h2
 | [], _, _ :: _, h1, h2 => by simp [cmpL]
 | _ :: _, [], _, h1, h2 => by simp [cmpL] at h1
 | _ :: _, _ :: _, [], h1, h2 => by simp [cmpL] at h2
 | x :: a, y :: b, z :: c, h1, h2 => by
  rw [cmpL] at h1 h2 ⊢
  by_cases c1 : x < y
  ·by_cases c2 : y < z
   ·rw [if_pos (by omega)]; omega
   ·rw [if_neg c2] at h2
    by_cases c3 : y > z
    ·rw [if_pos c3] at h2; omega
    ·rw [if_pos (by omega)]; omega
  ·rw [if_neg c1] at h1
   by_cases c3 : x > y
   ·rw [if_pos c3] at h1; omega
   ·rw [if_neg c3] at h1
    by_cases c2 : y < z
    ·rw [if_pos (by omega)]; omega
    ·rw [if_neg c2] at h2
     by_cases c4 : y > z
     ·rw [if_pos c4] at h2; omega
     ·rw [if_neg c4] at h2
      rw [if_neg (by omega), if_neg (by omega)]
      exact cmpL_trans h1 h2
theorem cmpL_conv : ∀ {m : Nat} {a b c : List Int}, cmpL a b < 0 -> cmpL b c < 0 -> m <= a.length -> m <= b.length -> m <= c.length -> a.take m = c.take m -> a.take m = b.take m
 | 0, _, _, _, _, _, _, _, _, _ => by simp
 | m + 1, [], _, _, _, _, h, _, _, _ => by simp at h
 | m + 1, _ :: _, [], _, _, _, _, h, _, _ => by simp at h
 | m + 1, _ :: _, _ :: _, [], _, _, _, _, h, _ => by simp at h
 | m + 1, x :: a, y :: b, z :: c, h1, h2, l1, l2, l3, h => by
  simp only [List.take_succ_cons, List.cons.injEq] at h ⊢
  obtain ⟨rfl, h⟩ := h
  simp only [List.length_cons] at l1 l2 l3
  rw [cmpL] at h1 h2
  have e : x = y := by
   by_cases c1 : x < y
   ·rw [if_neg (by omega), if_pos (by omega)] at h2; omega
   ·rw [if_neg c1] at h1
    by_cases c2 : x > y
    ·rw [if_pos c2] at h1; omega
    ·omega
  subst e
  rw [if_neg (by omega), if_neg (by omega)] at h1 h2
  exact ⟨rfl, cmpL_conv h1 h2 (by omega) (by omega) (by omega) h⟩
theorem cmpL_eq : ∀ {a b : List Int}, cmpL a b = 0 ↔ a = b
 | [], [] => by simp [cmpL]
 | [], _ :: _ => by simp [cmpL]
 | _ :: _, [] => by simp [cmpL]
 | x :: a, y :: b => by
  rw [cmpL]
  by_cases c1 : x < y
  ·rw [if_pos c1]; simp; intro h; omega
  ·rw [if_neg c1]
   by_cases c2 : x > y
   ·rw [if_pos c2]; simp; intro h; omega
   ·rw [if_neg c2, cmpL_eq]
    simp only [List.cons.injEq]
    exact ⟨fun h => ⟨by omega, h⟩, fun h => h.2⟩
theorem cmpF_trans {a b c : Fact} (h1 : cmpF a b < 0) (h2 : cmpF b c < 0) : cmpF a c < 0 := by
 unfold cmpF at h1 h2 ⊢
 by_cases c1 : a.Relation < b.Relation
 ·by_cases c2 : b.Relation > c.Relation
  ·rw [if_neg (by omega), if_pos c2] at h2; omega
  ·rw [if_pos (by omega)]; omega
 ·rw [if_neg c1] at h1
  by_cases c3 : a.Relation > b.Relation
  ·rw [if_pos c3] at h1; omega
  ·rw [if_neg c3] at h1
   by_cases c2 : b.Relation < c.Relation
   ·rw [if_pos (by omega)]; omega
   ·rw [if_neg c2] at h2
    by_cases c4 : b.Relation > c.Relation
    ·rw [if_pos c4] at h2; omega
    ·rw [if_neg c4] at h2
     rw [if_neg (by omega), if_neg (by omega)]
     exact cmpL_trans h1 h2
def keyOf (l : List Relation) (a : Fact) : List Int := a.Values.take (keyLen l a.Relation).toNat
def same (l : List Relation) (a b : Fact) : Bool := decide (a.Relation = b.Relation) && decide (keyOf l a = keyOf l b)
theorem vRel_mem {l : List Relation} (h : vRels l = true) {r : Relation} (hr : r ∈ l) : vRel r = true := by
 unfold vRels at h; simp only [Bool.and_eq_true] at h
 obtain ⟨i, hi, rfl⟩ := List.mem_iff_getElem.1 hr
 exact (good_of h.1 hi).1
theorem key_le {l : List Relation} {f : Fact} (h : vRels l = true) (hf : vFact l f = true) : ∃ x, ix l f.Relation = some x /\ x.KeyLength = keyLen l f.Relation /\ 0 <= keyLen l f.Relation /\ keyLen l f.Relation <= f.Values.length := by
 unfold vFact at hf; simp only [Bool.and_eq_true, decide_eq_true_eq] at hf
 obtain ⟨x, h1, h2, h3, h4⟩ := ix_rel hf.1
 have := vRel_mem h h2
 unfold vRel btw at this
 simp only [Bool.and_eq_true, decide_eq_true_eq] at this
 exact ⟨x, h1, h4, by omega, by omega⟩
theorem specKey {l : List Relation} {f : Fact} (hl : Big l.length) (hv : f.Values.length <= 1048576) (h : vRels l = true) (hf : vFact l f = true) : f236 l f = some (keyOf l f) := by
 unfold f236
 rw [specFact hl (by omega), h, hf]
 obtain ⟨x, h1, h2, h3, h4⟩ := key_le h hf
 simp only [Bool.and_self, bS, not_true_eq_false, if_false, h1]
 rw [h2, cutL_ok (by omega) h3 h4, bS, app_fits (by simp; omega)]
 simp [keyOf]
theorem specSame {l : List Relation} {a b : Fact} (hl : Big l.length) (ha : a.Values.length <= 1048576) (hb : b.Values.length <= 1048576) (h : vRels l = true) (va : vFact l a = true) (vb : vFact l b = true) : f196 l a b = some (same l a b) := by
 unfold f196 same
 rw [specFact hl (by omega), specFact hl (by omega), h, va, vb, specKey hl ha h va, specKey hl hb h vb]
 have k1 : Big (keyOf l a).length := by unfold keyOf; simp; omega
 have k2 : Big (keyOf l b).length := by unfold keyOf; simp; omega
 by_cases c : a.Relation = b.Relation
 ·simp only [Bool.and_self, bS, if_true, c, specInts k1 k2, decide_true, Bool.true_and]
  by_cases e : keyOf l a = keyOf l b
  ·rw [cmpL_eq.2 e]; simp [e]
  ·have : ¬ cmpL (keyOf l a) (keyOf l b) = 0 := fun h => e (cmpL_eq.1 h)
   simp [this, e]
 ·simp [c]
theorem eqSl {a b : List Int} (ha : Big a.length) : f202 a b = some (decide (a = b)) := by
 unfold f202
 by_cases hl : a.length = b.length
 ·rw [if_neg (by omega)]
  rw [iter_ex (List.range a.length) (fun i => decide (a[i]? ≠ b[i]?)) false (fun i hi => by
   simp only [List.length_range] at hi
   simp only [f202_0, List.getElem_range]
   rw [if_pos (by omega), ix_nat hi, ix_nat (by omega : i < b.length), w64_succ (by omega), zE hi, zE (by omega : i < b.length)]
   by_cases c : a[i] = b[i]'(by omega)
   ·simp [c]
   ·simp [c]) (by
   simp only [f202_0]
   rw [if_neg (by simp)])]
  by_cases e : a = b
  ·subst e; simp
  ·have : ((List.range a.length).any fun i => decide (a[i]? ≠ b[i]?)) = true := by
    apply Classical.byContradiction
    intro hn
    apply e
    apply List.ext_getElem hl
    intro i h1 h2
    apply Classical.byContradiction
    intro hne
    exact hn (List.any_eq_true.2 ⟨i, List.mem_range.2 h1, by simp [zE h1, zE h2, hne]⟩)
   rw [if_pos this]; simp [e]
 ·rw [if_pos (by omega)]
  have : a ≠ b := fun h => hl (by rw [h])
  simp [this]
theorem impSame {l : List Relation} {a b : Fact} (ha : a.Values.length <= 1048576) (hb : b.Values.length <= 1048576) (h : vRels l = true) (va : vFact l a = true) (vb : vFact l b = true) : f155 l a b = some (same l a b) := by
 unfold f155 same
 obtain ⟨x, h1, h2, h3, h4⟩ := key_le h va
 obtain ⟨x', h1', h2', h3', h4'⟩ := key_le h vb
 by_cases c : a.Relation = b.Relation
 ·rw [if_neg (by simp [c]), h1, bS, h2, cutL_ok (by omega) h3 h4, bS, cutL_ok (by omega) h3 (by rw [c]; exact h4'), bS, eqSl (by simp; omega)]
  simp [keyOf, c]
 ·rw [if_pos c]; simp [c]
structure Kin (n : Nat) (sk : Nat -> Nat -> Bool) : Prop where
 refl : ∀ i, i < n -> sk i i = true
 symm : ∀ i k, i < n -> k < n -> sk i k = sk k i
 trans : ∀ i j k, i < n -> j < n -> k < n -> sk i j = true -> sk j k = true -> sk i k = true
 conv : ∀ i j k, i <= j -> j <= k -> k < n -> sk i k = true -> sk i j = true
variable {n : Nat} {sk : Nat -> Nat -> Bool}
def blk (sk : Nat -> Nat -> Bool) (i x : Nat) : List Int := (List.range x).flatMap fun k => if sk i k = true then [((k : Nat) : Int)] else []
def start (sk : Nat -> Nat -> Bool) (i : Nat) : Bool := (List.range i).all fun k => !sk k i
def blks (sk : Nat -> Nat -> Bool) (y x : Nat) : List (List Int) := (List.range y).flatMap fun i => if start sk i = true then [blk sk i x] else []
theorem blk_succ {i x : Nat} : blk sk i (x + 1) = blk sk i x ++ if sk i x = true then [((x : Nat) : Int)] else [] := by simp [blk, List.range_succ]
theorem blks_succ {y x : Nat} : blks sk (y + 1) x = blks sk y x ++ if start sk y = true then [blk sk y x] else [] := by simp [blks, List.range_succ]
theorem blk_len {i x : Nat} : (blk sk i x).length <= x := by
 induction x with
 | zero => simp [blk]
 | succ x ih => rw [blk_succ, List.length_append]; split <;> simp <;> omega
theorem blks_len {y x : Nat} : (blks sk y x).length <= y := by
 induction y with
 | zero => simp [blks]
 | succ y ih => rw [blks_succ, List.length_append]; split <;> simp <;> omega
theorem blk_none {i s : Nat} (h : ∀ k, k < s -> sk i k = false) : blk sk i s = [] := by
 induction s with
 | zero => simp [blk]
 | succ s ih => rw [blk_succ, ih fun k hk => h k (by omega), h s (by omega)]; simp
theorem blk_first {i s x : Nat} (h : ∀ k, k < s -> sk i k = false) (hs : sk i s = true) (hx : s < x) : ∃ t, blk sk i x = (s : Int) :: t := by
 induction x with
 | zero => omega
 | succ x ih =>
  rw [blk_succ]
  by_cases e : s = x
  ·subst e; rw [blk_none h, if_pos hs]; exact ⟨[], rfl⟩
  ·obtain ⟨t, ht⟩ := ih (by omega)
   rw [ht]; exact ⟨_, rfl⟩
theorem start_iff {i : Nat} : start sk i = true ↔ ∀ k, k < i -> sk k i = false := by
 unfold start; rw [List.all_eq_true]
 simp only [List.mem_range, Bool.not_eq_true']
theorem not_start {i : Nat} (h : start sk i = false) : ∃ s, s < i /\ sk s i = true /\ ∀ k, k < s -> sk k i = false := by
 have : ∃ s, s < i /\ sk s i = true := by
  apply Classical.byContradiction
  intro hn
  have : start sk i = true := start_iff.2 fun k hk => by
   cases hb : sk k i
   ·rfl
   ·exact (hn ⟨k, hk, hb⟩).elim
  rw [h] at this; cases this
 obtain ⟨s, h1, h2⟩ := this
 induction s using Nat.strongRecOn with
 | _ s ih =>
  by_cases c : ∃ k, k < s /\ sk k i = true
  ·obtain ⟨k, hk, hc⟩ := c
   exact ih k hk (by omega) hc
  ·refine ⟨s, h1, h2, fun k hk => ?_⟩
   cases hb : sk k i
   ·rfl
   ·exact (c ⟨k, hk, hb⟩).elim
theorem blk_head (K : Kin n sk) {i x : Nat} (hi : i < n) (hx : x <= n) (hix : i < x) : ∃ (s : Nat) (t : List Int), blk sk i x = (s : Int) :: t /\ s <= i /\ (s = i ↔ start sk i = true) := by
 cases hs : start sk i
 ·obtain ⟨s, h1, h2, h3⟩ := not_start hs
  obtain ⟨t, ht⟩ := blk_first (sk := sk) (i := i) (s := s) (x := x) (fun k hk => by rw [K.symm i k hi (by omega)]; exact h3 k hk) (by rw [K.symm i s hi (by omega)]; exact h2) (by omega)
  refine ⟨s, t, ht, by omega, ?_⟩
  simp; omega
 ·obtain ⟨t, ht⟩ := blk_first (sk := sk) (i := i) (s := i) (x := x) (fun k hk => by rw [K.symm i k hi (by omega)]; exact start_iff.1 hs k hk) (K.refl i hi) hix
  exact ⟨i, t, ht, by omega, by simp⟩
theorem blks_bnd {y x : Nat} (h : ∀ i, i < y -> start sk i = true -> sk i x = false) : blks sk y (x + 1) = blks sk y x := by
 induction y with
 | zero => simp [blks]
 | succ y ih =>
  rw [blks_succ, blks_succ, ih fun i hi => h i (by omega)]
  by_cases c : start sk y = true
  ·rw [if_pos c, if_pos c, blk_succ, h y (by omega) c]; simp
  ·rw [if_neg c, if_neg c]
theorem blks_nost {s y x : Nat} (hs : s <= y) (h : ∀ i, s <= i -> i < y -> start sk i = false) : blks sk y x = blks sk s x := by
  induction y with
  | zero => have : s = 0 := by omega
            subst this; rfl
  | succ y ih =>
    by_cases e : s = y + 1
    · subst e; rfl
    · rw [blks_succ, h y (by omega) (by omega)]
      simp [ih (by omega) fun i h1 h2 => h i h1 (by omega)]
theorem blks_start (K : Kin n sk) {x : Nat} (hx : x < n) (h : start sk x = true) : blks sk (x + 1) (x + 1) = blks sk x x ++ [[(x : Int)]] := by
 rw [blks_succ, if_pos h, blks_bnd fun i hi _ => start_iff.1 h i hi, blk_succ, K.refl x hx, if_pos rfl, blk_none fun k hk => by rw [K.symm x k hx (by omega)]; exact start_iff.1 h k hk]
 rfl
theorem blks_more (K : Kin n sk) {x : Nat} (hx : x < n) (h : start sk x = false) : ∃ P B, blks sk x x = P ++ [B] /\ blks sk (x + 1) (x + 1) = P ++ [B ++ [(x : Int)]] /\ B.length <= x /\ ∃ s t, s < x /\ B = ((s : Nat) : Int) :: t /\ sk s x = true := by
 obtain ⟨s, h1, h2, h3⟩ := not_start h
 have hst : start sk s = true := start_iff.2 fun k hk => by
  cases hb : sk k s
  ·rfl
  ·have := K.trans k s x (by omega) (by omega) hx hb h2
   rw [h3 k hk] at this; cases this
 have hno : ∀ i, s + 1 <= i -> i < x + 1 -> start sk i = false := fun i a b => by
  cases hb : start sk i
  ·rfl
  ·have := start_iff.1 hb s (by omega)
   rw [K.conv s i x (by omega) (by omega) hx h2] at this; cases this
 refine ⟨blks sk s x, blk sk s x, ?_, ?_, blk_len, ?_⟩
 ·rw [blks_nost (s := s + 1) (by omega) fun i a b => hno i a (by omega), blks_succ, if_pos hst]
 ·rw [blks_nost (s := s + 1) (by omega) hno, blks_succ, if_pos hst, blks_bnd fun i hi _ => h3 i hi, blk_succ, if_pos h2]
 ·obtain ⟨s', t, e1, e2, e3⟩ := blk_head K (i := s) (x := x) (by omega) (by omega) h1
  have := e3.2 hst
  subst this
  exact ⟨s', t, h1, e1, h2⟩
theorem blks_mem (K : Kin n sk) {y x : Nat} (hy : y <= x) (hx : x <= n) {B : List Int} (h : B ∈ blks sk y x) : B.length <= x /\ ∃ s t, s < y /\ B = ((s : Nat) : Int) :: t := by
 unfold blks at h
 rw [List.mem_flatMap] at h
 obtain ⟨i, hi, h⟩ := h
 rw [List.mem_range] at hi
 by_cases c : start sk i = true
 ·rw [if_pos c, List.mem_singleton] at h
  subst h
  refine ⟨blk_len, ?_⟩
  obtain ⟨s', t, e1, e2, e3⟩ := blk_head K (i := i) (x := x) (by omega) (by omega) (by omega)
  exact ⟨s', t, by omega, e1⟩
 ·rw [if_neg c] at h; cases h
def pick (c : Int -> Bool) (bs : List (List Int)) : List Int := bs.filterMap fun b => b.find? c
def picks (c : Int -> Bool) (bs : List (List Int)) : List Int × Bool := if (bs.all fun b => (b.find? c).isSome) = true then (pick c bs, true) else ([], false)
end
section
def Sigs (l : List Relation) : Prop := l.length = 4 /\ ∀ x ∈ l, x.Arity <= 3
def Tiny (m : Nat) (d : Database) : Prop := Sigs d.Relations /\ d.Facts.length <= m /\ ∀ x ∈ d.Facts, x.Values.length <= 3
theorem Tiny.fits {m : Nat} {d : Database} (h : Tiny m d) (hm : m <= 1048576) : Fits d := ⟨by have := h.1.1; omega, by have := h.2.1; omega, fun x hx => by have := h.2.2 x hx; omega⟩
end
section
variable {d : Database}
def skOf (d : Database) (i k : Nat) : Bool := same d.Relations (d.Facts.getD i default) (d.Facts.getD k default)
theorem sk_get {i k : Nat} (hi : i < d.Facts.length) (hk : k < d.Facts.length) : skOf d i k = same d.Relations d.Facts[i] d.Facts[k] := by
 unfold skOf
 rw [zD, zD, zE hi, zE hk]; rfl
theorem vDb_of (h : vDb d = true) : vRels d.Relations = true /\ d.Facts.length <= 14 /\ gFacts d = true := by
 unfold vDb at h; simp only [Bool.and_eq_true, decide_eq_true_eq] at h; exact h
theorem fact_ok (h : vDb d = true) {i : Nat} (hi : i < d.Facts.length) : vFact d.Relations d.Facts[i] = true := (good_of (vDb_of h).2.2 hi).1
theorem facts_up (h : vDb d = true) {i k : Nat} (hik : i < k) (hk : k < d.Facts.length) : cmpF (d.Facts[i]'(by omega)) d.Facts[k] < 0 := by
 induction k with
 | zero => omega
 | succ k ih =>
  have h1 := (good_of (vDb_of h).2.2 hk).2 (by omega)
  simp only [Nat.add_sub_cancel, decide_eq_true_eq] at h1
  by_cases e : i = k
  ·subst e; exact h1
  ·exact cmpF_trans (ih (by omega) (by omega)) h1
theorem kin (h : vDb d = true) : Kin d.Facts.length (skOf d) where
 refl i hi := by rw [sk_get hi hi]; simp [same]
 symm i k hi hk := by
  rw [sk_get hi hk, sk_get hk hi]; unfold same
  congr 1
  ·exact decide_eq_decide.2 ⟨fun h => h.symm, fun h => h.symm⟩
  ·exact decide_eq_decide.2 ⟨fun h => h.symm, fun h => h.symm⟩
 trans i j k hi hj hk h1 h2 := by
  rw [sk_get hi hj] at h1; rw [sk_get hj hk] at h2; rw [sk_get hi hk]
  unfold same at *
  simp only [Bool.and_eq_true, decide_eq_true_eq] at *
  exact ⟨h1.1.trans h2.1, h1.2.trans h2.2⟩
 conv i j k hij hjk hk hs := by
  by_cases e1 : i = j
  ·subst e1
   rw [sk_get (by omega) (by omega)]; simp [same]
  by_cases e2 : j = k
  ·subst e2; exact hs
  have hi : i < d.Facts.length := by omega
  have hj : j < d.Facts.length := by omega
  have c1 := facts_up h (i := i) (k := j) (by omega) hj
  have c2 := facts_up h (i := j) (k := k) (by omega) hk
  rw [sk_get hi hk] at hs; rw [sk_get hi hj]
  have b1 := key_le (vDb_of h).1 (fact_ok h hi)
  have b2 := key_le (vDb_of h).1 (fact_ok h hj)
  have b3 := key_le (vDb_of h).1 (fact_ok h hk)
  generalize d.Facts[i] = a at *
  generalize d.Facts[j] = b at *
  generalize d.Facts[k] = c at *
  obtain ⟨_, _, _, _, b1⟩ := b1
  obtain ⟨_, _, _, _, b2⟩ := b2
  obtain ⟨_, _, _, _, b3⟩ := b3
  unfold same keyOf at *
  simp only [Bool.and_eq_true, decide_eq_true_eq] at *
  obtain ⟨r, hk⟩ := hs
  unfold cmpF at c1 c2
  have r1 : a.Relation = b.Relation := by
   by_cases q1 : a.Relation < b.Relation
   ·rw [if_neg (by omega), if_pos (by omega)] at c2; omega
   ·rw [if_neg q1] at c1
    by_cases q2 : a.Relation > b.Relation
    ·rw [if_pos q2] at c1; omega
    ·omega
  rw [if_neg (by omega), if_neg (by omega)] at c1 c2
  rw [<- r] at hk b3; rw [<- r1] at b2
  refine ⟨r1, ?_⟩
  rw [<- r1]
  exact cmpL_conv c1 c2 (by omega) (by omega) (by omega) hk
variable (h : vDb d = true) (hf : Fits d)
theorem fits_val {i : Nat} (hf : Fits d) (hi : i < d.Facts.length) : d.Facts[i].Values.length <= 1048576 := hf.2.2 _ (List.getElem_mem hi)
include h hf
theorem blockSpec {i : Nat} (hi : i < d.Facts.length) : f150 d i = some (blk (skOf d) i d.Facts.length) := by
 have hn := (vDb_of h).2.1
 unfold f150
 rw [iter_flat (List.range d.Facts.length) (fun k => if skOf d i k = true then [((k : Nat) : Int)] else []) id (fun k hk => by
  simp only [List.length_range] at hk
  have el : (((List.range d.Facts.length).take k).flatMap fun k => if skOf d i k = true then [((k : Nat) : Int)] else []).length <= k := by
   have := take_flat_le (l := List.range d.Facts.length) (i := k) (g := fun k => if skOf d i k = true then [((k : Nat) : Int)] else []) (m := 1) (fun a => by split <;> simp)
   omega
  generalize ((List.range d.Facts.length).take k).flatMap (fun k => if skOf d i k = true then [((k : Nat) : Int)] else []) = out at el ⊢
  simp only [List.getElem_range]
  simp only [f150_0]
  have eb : btw (i : Int) 0 (w64 ((d.Facts.length : Int) - 1)) = true := by rw [w64_of (by omega)]; unfold btw; simp; omega
  rw [if_pos (by omega), specDb (fits_room hf), h]
  simp only [bS, if_true, specIn, eb]
  rw [ix_nat hi, ix_nat hk, w64_succ (by omega)]
  simp only [bS, specSame (fits_room hf).1 (fits_val hf hi) (fits_val hf hk) (vDb_of h).1 (fact_ok h hi) (fact_ok h hk)]
  rw [<- sk_get hi hk]
  cases skOf d i k
  ·simp
  ·simp only [if_true]
   rw [app_fits (by simp; omega)]; simp) (by
  simp only [f150_0]
  rw [if_neg (by simp)]; rfl)]
 rfl
theorem blocksSpec : f86 d = some (blks (skOf d) d.Facts.length d.Facts.length) := by
 have hn := (vDb_of h).2.1
 unfold f86
 rw [iter_flat (List.range d.Facts.length) (fun i => if start (skOf d) i = true then [blk (skOf d) i d.Facts.length] else []) id (fun i hi => by
  simp only [List.length_range] at hi
  have el : (((List.range d.Facts.length).take i).flatMap fun i => if start (skOf d) i = true then [blk (skOf d) i d.Facts.length] else []).length <= i := by
   have := take_flat_le (l := List.range d.Facts.length) (i := i) (g := fun i => if start (skOf d) i = true then [blk (skOf d) i d.Facts.length] else []) (m := 1) (fun a => by split <;> simp)
   omega
  generalize ((List.range d.Facts.length).take i).flatMap (fun i => if start (skOf d) i = true then [blk (skOf d) i d.Facts.length] else []) = out at el ⊢
  simp only [List.getElem_range]
  simp only [f86_0]
  obtain ⟨s, t, e1, e2, e3⟩ := blk_head (kin h) hi (Nat.le_refl _) hi
  have e0 : ix (blk (skOf d) i d.Facts.length) 0 = some ((s : Nat) : Int) := by rw [e1]; rfl
  rw [if_pos (by omega), specDb (fits_room hf), h]
  simp only [bS, if_true, blockSpec h hf hi, e0]
  rw [w64_succ (by omega)]
  by_cases c : start (skOf d) i = true
  ·rw [if_pos (by have := e3.2 c; omega), if_pos c, app_fits (by simp; omega)]; rfl
  ·rw [if_neg (by intro q; exact c (e3.1 (by omega))), if_neg c]; simp) (by
  simp only [f86_0]
  rw [if_neg (by simp)]; rfl)]
 rfl
theorem blocksImp : f94 d = some (blks (skOf d) d.Facts.length d.Facts.length) := by
 have hn := (vDb_of h).2.1
 unfold f94
 have := iter_steps (f := f94_0 d) (fun i => (blks (skOf d) i i, (i : Int))) d.Facts.length (blks (skOf d) d.Facts.length d.Facts.length) (fun x hx => by
  have hl := blks_len (sk := skOf d) (y := x) (x := x)
  simp only [f94_0]
  rw [if_pos (by omega), ix_nat hx, bS, w64_succ (by omega), w64_of (by omega)]
  cases hs : start (skOf d) x
  ·obtain ⟨P, B, e1, e2, e3, s, t, h1, e4, h2⟩ := blks_more (kin h) hx hs
   rw [e1] at hl ⊢
   rw [e2]
   simp only [List.length_append, List.length_singleton] at hl ⊢
   have q : ((P.length + 1 : Nat) : Int) - 1 = ((P.length : Nat) : Int) := by omega
   rw [q, if_pos (by omega), ix_nat (by simp)]
   have e0 : ix B 0 = some ((s : Nat) : Int) := by rw [e4]; rfl
   simp only [List.getElem_concat_length, bS, e0]
   rw [ix_nat (by omega : s < d.Facts.length), bS, impSame (fits_val hf _) (fits_val hf hx) (vDb_of h).1 (fact_ok h _) (fact_ok h hx)]
   rw [<- sk_get (by omega : s < d.Facts.length) hx, h2]
   simp only [bS, if_true]
   rw [app_fits (by simp; omega)]
   simp
  ·rw [blks_start (kin h) hx hs]
   by_cases c : blks (skOf d) x x = []
   ·rw [c]
    simp only [List.length_nil]
    rw [if_neg (by omega)]
    simp only [bS, Bool.false_eq_true, if_false]
    rw [app_fits (by simp)]; simp
   ·obtain ⟨P, B, e1⟩ : ∃ P B, blks (skOf d) x x = P ++ [B] := ⟨_, _, (List.dropLast_concat_getLast c).symm⟩
    obtain ⟨_, s, t, h1, e4⟩ := blks_mem (kin h) (y := x) (x := x) (Nat.le_refl _) (by omega) (B := B) (by rw [e1]; simp)
    rw [e1] at hl ⊢
    simp only [List.length_append, List.length_singleton] at hl ⊢
    have q : ((P.length + 1 : Nat) : Int) - 1 = ((P.length : Nat) : Int) := by omega
    rw [q, if_pos (by omega), ix_nat (by simp)]
    have e0 : ix B 0 = some ((s : Nat) : Int) := by rw [e4]; rfl
    simp only [List.getElem_concat_length, bS, e0]
    rw [ix_nat (by omega : s < d.Facts.length), bS, impSame (fits_val hf _) (fits_val hf hx) (vDb_of h).1 (fact_ok h _) (fact_ok h hx)]
    rw [<- sk_get (by omega : s < d.Facts.length) hx, start_iff.1 hs s h1]
    simp only [bS, Bool.false_eq_true, if_false]
    rw [app_fits (by simp; omega)]; simp) (by
  simp only [f94_0]
  rw [if_neg (by omega)])
 erw [this]
 rfl
omit h hf
end
section
variable {d : Database} {n : Nat} {sk : Nat -> Nat -> Bool}
def fat (d : Database) (v : Int) : Fact := d.Facts.getD v.toNat default
theorem fat_get {i : Nat} (hi : i < d.Facts.length) : fat d (i : Int) = d.Facts[i] := by
 unfold fat
 rw [Int.toNat_natCast, zD, zE hi]; rfl
theorem fat_mem {v : Int} (h : 0 <= v /\ v < d.Facts.length) : fat d v ∈ d.Facts := by
 have : v = ((v.toNat : Nat) : Int) := by omega
 rw [this, fat_get (by omega)]; exact List.getElem_mem _
def apart (d : Database) (s : List Int) : Prop := s.Pairwise fun a b => same d.Relations (fat d a) (fat d b) = false
instance {s : List Int} : Decidable (apart d s) := by unfold apart; infer_instance
end
section
theorem flat_take {L : List (List Int)} {i : Nat} : (L.take i).flatten.length <= L.flatten.length := by
 conv => rhs; rw [<- List.take_append_drop i L, List.flatten_append, List.length_append]
 omega
theorem concatN {L : List (List Int)} (hL : L.length <= 1048576) (h : L.flatten.length <= 1048576) : f122 L = some L.flatten := by
 unfold f122
 have q : ∀ i (hi : i < L.length), (L.take (i + 1)).flatten = (L.take i).flatten ++ L[i] := fun i hi => by rw [take_succ' hi, List.flatten_append]; simp
 have h1 := iter_steps (f := f122_0 L) (fun i => (((L.take i).flatten.length : Int), (i : Int))) L.length (L.flatten.length : Int) (fun i hi => by
  have e := congrArg List.length (q i hi)
  rw [List.length_append] at e
  have b := flat_take (L := L) (i := i + 1)
  simp only [f122_0]
  rw [if_pos (by omega), ix_nat hi, bS, w64_succ (by omega), w64_of (by omega), if_neg (by omega), bS, e]
  rw [Int.natCast_add (List.take i L).flatten.length]) (by
  simp only [f122_0]
  rw [if_neg (by omega), List.take_of_length_le (Nat.le_refl _)])
 simp only [List.take_zero, List.flatten_nil, List.length_nil, Int.natCast_zero, Int.ofNat_zero] at h1
 erw [h1]
 rw [bS]
 unfold f169 growN
 rw [if_pos ⟨by omega, by unfold room; omega⟩, bS]
 have h2 := iter_steps (f := f122_1 L) (fun i => (L.flatten.length - (L.take i).flatten.length, (L.take i).flatten, (i : Int))) L.length (0, L.flatten) (fun i hi => by
  have e := congrArg List.length (q i hi)
  rw [List.length_append] at e
  have b := flat_take (L := L) (i := i + 1)
  simp only [f122_1]
  rw [if_pos (by omega), ix_nat hi, bS, w64_succ (by omega)]
  unfold apps
  rw [if_pos ⟨by omega, by unfold room; omega⟩, bS, q i hi]
  simp only [List.length_append]
  rw [Nat.sub_sub]) (by
  simp only [f122_1]
  rw [if_neg (by omega), List.take_of_length_le (Nat.le_refl _), Nat.sub_self])
 simp only [List.take_zero, List.flatten_nil, List.length_nil, Nat.sub_zero, Int.natCast_zero, Int.ofNat_zero] at h2
 rw [Int.toNat_natCast]
 erw [h2]
 simp [nsk]
theorem sort12 {x : List Int} (h : x.length <= 12) : Ens (f123 x) fun r => r.Pairwise (· <= ·) /\ r.Perm x := by
 unfold f123 sortN srtL
 rw [if_pos (by omega)]
 refine Ens.of ⟨?_, List.mergeSort_perm _ _⟩
 have := List.pairwise_mergeSort (le := fun a b : Int => decide (a <= b)) (fun a b c h1 h2 => by simp at *; omega) (fun a b => by simp; omega) x
 exact this.imp fun h => by simpa using h
theorem compact_up : ∀ {l : List Int}, l.Pairwise (· <= ·) -> (compactL l).Pairwise (· < ·) /\ ∀ y, y ∈ compactL l ↔ y ∈ l
 | [], h => by simp [compactL]
 | [a], h => by simp [compactL]
 | a :: b :: r, h => by
  rw [List.pairwise_cons] at h
  obtain ⟨i1, i2⟩ := compact_up h.2
  rw [compactL]
  split
  ·rename_i e
   subst e
   exact ⟨i1, fun y => by rw [i2]; simp⟩
  ·rename_i e
   refine ⟨List.pairwise_cons.2 ⟨fun y hy => ?_, i1⟩, fun y => by simp [i2]⟩
   rw [i2] at hy
   have h1 := h.1 b (by simp)
   rcases List.mem_cons.1 hy with rfl | hy
   ·omega
   ·have := (List.pairwise_cons.1 h.2).1 y hy; omega
theorem union12 {a b : List Int} (h : a.length + b.length <= 12) : Ens (f57 a b) fun r => r.Pairwise (· < ·) /\ (∀ y, y ∈ r ↔ y ∈ a \/ y ∈ b) /\ r.length <= 12 := by
 unfold f57
 have e : [a, b].flatten = a ++ b := by simp
 rw [concatN (by simp) (by rw [e]; simp; omega), e, bS]
 refine Ens.bind (sort12 (by simp; omega)) fun r hr => ?_
 have hl := hr.2.length_eq
 simp only [List.length_append] at hl
 unfold f124 compactN
 rw [if_pos (by omega)]
 obtain ⟨c1, c2⟩ := compact_up hr.1
 exact Ens.of ⟨c1, fun y => by rw [c2, hr.2.mem_iff, List.mem_append], by have := compactL_len r; omega⟩
theorem up_ext : ∀ {a b : List Int}, a.Pairwise (· < ·) -> b.Pairwise (· < ·) -> (∀ y, y ∈ a ↔ y ∈ b) -> a = b
 | [], [], _, _, _ => rfl
 | [], y :: b, _, _, h => by have := (h y).2 (by simp); cases this
 | x :: a, [], _, _, h => by have := (h x).1 (by simp); cases this
 | x :: a, y :: b, ha, hb, h => by
  rw [List.pairwise_cons] at ha hb
  have e : x = y := by
   have h1 := (h x).1 (by simp)
   have h2 := (h y).2 (by simp)
   rcases List.mem_cons.1 h1 with e | h1
   ·exact e
   ·rcases List.mem_cons.1 h2 with e | h2
    ·exact e.symm
    ·have := ha.1 y h2; have := hb.1 x h1; omega
  subst e
  congr 1
  refine up_ext ha.2 hb.2 fun y => ?_
  have := h y
  constructor
  ·intro hy
   have q := ha.1 y hy
   rcases List.mem_cons.1 (this.1 (List.mem_cons.2 (.inr hy))) with e | e
   ·omega
   ·exact e
  ·intro hy
   have q := hb.1 y hy
   rcases List.mem_cons.1 (this.2 (List.mem_cons.2 (.inr hy))) with e | e
   ·omega
   ·exact e
end
section
def avars (t : List Int) : List Int := (List.range 4).flatMap fun v => if t.contains ((v : Nat) : Int) = true then [((v : Nat) : Int)] else []
theorem avars_up {t : List Int} : (avars t).Pairwise (· < ·) := by
 unfold avars
 simp only [List.range, List.range.loop, List.flatMap_cons, List.flatMap_nil, List.append_nil]
 generalize t.contains ((0 : Nat) : Int) = a
 generalize t.contains ((1 : Nat) : Int) = b
 generalize t.contains ((2 : Nat) : Int) = c
 generalize t.contains ((3 : Nat) : Int) = d
 cases a <;> cases b <;> cases c <;> cases d <;> simp
theorem avars_mem {t : List Int} {y : Int} : y ∈ avars t ↔ y ∈ t /\ btw y 0 3 = true := by
 unfold avars btw
 simp only [List.mem_flatMap, List.mem_range, Bool.and_eq_true, decide_eq_true_eq]
 constructor
 ·rintro ⟨v, hv, h⟩
  by_cases c : t.contains ((v : Nat) : Int) = true
  ·rw [if_pos c, List.mem_singleton] at h
   subst h
   exact ⟨by simpa using c, by omega, by omega⟩
  ·rw [if_neg c] at h; cases h
 ·rintro ⟨h, h1, h2⟩
  refine ⟨y.toNat, by omega, ?_⟩
  rw [Int.toNat_of_nonneg h1, if_pos (by simpa using h)]
  simp
theorem avars_len {t : List Int} : (avars t).length <= 4 := by
 unfold avars
 simp only [List.range, List.range.loop, List.flatMap_cons, List.flatMap_nil, List.append_nil, List.length_append]
 split <;> split <;> split <;> split <;> simp
theorem specVars {a : Atom} (h : Big a.Terms.length) : f111 a = some (avars a.Terms) := by
 unfold f111
 rw [iter_flat (List.range 4) (fun v => if a.Terms.contains ((v : Nat) : Int) = true then [((v : Nat) : Int)] else []) id (fun k hk => by
  simp only [List.length_range] at hk
  have el : (((List.range 4).take k).flatMap fun v => if a.Terms.contains ((v : Nat) : Int) = true then [((v : Nat) : Int)] else []).length <= k := by
   have := take_flat_le (l := List.range 4) (i := k) (g := fun v => if a.Terms.contains ((v : Nat) : Int) = true then [((v : Nat) : Int)] else []) (m := 1) (fun a => by split <;> simp)
   omega
  generalize ((List.range 4).take k).flatMap (fun v => if a.Terms.contains ((v : Nat) : Int) = true then [((v : Nat) : Int)] else []) = out at el ⊢
  simp only [List.getElem_range]
  simp only [f111_0]
  rw [if_pos (by omega), hasI h, bS, w64_succ (by omega)]
  by_cases c : a.Terms.contains ((k : Nat) : Int) = true
  ·rw [if_pos c, if_pos c, app_fits (by simp; omega)]; rfl
  ·rw [if_neg c, if_neg c]; simp) (by
  simp only [f111_0]
  rw [if_neg (by simp)]; rfl)]
 rfl
theorem impVars {a : Atom} (h : a.Terms.length <= 12) : f55 a = some (avars a.Terms) := by
 unfold f55
 rw [iter_flat a.Terms (fun v => if btw v 0 3 = true then [v] else []) id (fun k hk => by
  have el : ((a.Terms.take k).flatMap fun v => if btw v 0 3 = true then [v] else []).length <= k := by
   have := take_flat_le (l := a.Terms) (i := k) (g := fun v => if btw v 0 3 = true then [v] else []) (m := 1) (fun a => by split <;> simp)
   omega
  generalize (a.Terms.take k).flatMap (fun v => if btw v 0 3 = true then [v] else []) = out at el ⊢
  simp only [f55_0]
  rw [if_pos (by omega), ix_nat hk, bS, impIn, bS, w64_succ (by omega)]
  by_cases c : btw a.Terms[k] 0 3 = true
  ·rw [if_pos c, if_pos c, app_fits (by simp; omega)]; rfl
  ·rw [if_neg c, if_neg c]; simp) (by
  simp only [f55_0]
  rw [if_neg (by omega)]; rfl)]
 rw [bS]
 dsimp only [id]
 have el : (a.Terms.flatMap fun v => if btw v 0 3 = true then [v] else []).length <= a.Terms.length := by
  have := take_flat_le (l := a.Terms) (i := a.Terms.length) (g := fun v => if btw v 0 3 = true then [v] else []) (m := 1) (fun a => by split <;> simp)
  rw [List.take_of_length_le (Nat.le_refl _)] at this
  omega
 obtain ⟨r, h1, h2, h3, _⟩ := union12 (a := a.Terms.flatMap fun v => if btw v 0 3 = true then [v] else []) (b := []) (by rw [List.length_nil]; omega)
 rw [h1, bS]
 congr 1
 refine up_ext h2 avars_up fun y => ?_
 rw [h3, avars_mem, List.mem_flatMap]
 constructor
 ·rintro (⟨v, hv, h⟩ | h)
  ·by_cases c : btw v 0 3 = true
   ·rw [if_pos c, List.mem_singleton] at h; subst h; exact ⟨hv, c⟩
   ·rw [if_neg c] at h; cases h
  ·cases h
 ·rintro ⟨h, c⟩
  exact .inl ⟨y, h, by rw [if_pos c]; simp⟩
def kvars (l : List Relation) (a : Atom) : List Int := if (btw a.Relation 0 (l.length - 1) && btw (keyLen l a.Relation) 0 a.Terms.length) = true then avars (a.Terms.take (keyLen l a.Relation).toNat) else []
theorem kvars_len {l : List Relation} {a : Atom} : (kvars l a).length <= 4 := by
 unfold kvars; split
 ·exact avars_len
 ·simp
theorem specKV {l : List Relation} {a : Atom} (hl : Big l.length) (h : Big a.Terms.length) : f46 l a = some (kvars l a) := by
 unfold f46 kvars
 rw [w64_of (by omega), specIn, bS]
 cases hb : btw a.Relation 0 (l.length - 1)
 ·simp
 ·obtain ⟨x, h1, _, _, h2⟩ := ix_rel hb
  rw [h1]
  simp only [not_true_eq_false, if_false, bS, specIn, h2]
  cases hk : btw (keyLen l a.Relation) 0 a.Terms.length
  ·simp
  ·unfold btw at hk; simp only [Bool.and_eq_true, decide_eq_true_eq] at hk
   simp only [not_true_eq_false, decide_false, Bool.false_eq_true, if_false, Bool.and_self, if_true]
   rw [cutL_ok (by omega) hk.1 hk.2, bS, specVars (by simp; omega)]; rfl
theorem impKV {l : List Relation} {a : Atom} (hl : Big l.length) (h : a.Terms.length <= 12) : f54 l a = some (kvars l a) := by
 unfold f54 kvars
 rw [w64_of (by omega), impIn, bS]
 cases hb : btw a.Relation 0 (l.length - 1)
 ·simp
 ·obtain ⟨x, h1, _, _, h2⟩ := ix_rel hb
  rw [h1]
  simp only [not_true_eq_false, if_false, bS, impIn, h2]
  cases hk : btw (keyLen l a.Relation) 0 a.Terms.length
  ·simp
  ·unfold btw at hk; simp only [Bool.and_eq_true, decide_eq_true_eq] at hk
   simp only [not_true_eq_false, decide_false, Bool.false_eq_true, if_false, Bool.and_self, if_true]
   rw [cutL_ok (by omega) hk.1 hk.2, bS, impVars (by simp; omega)]; rfl
theorem has14 {l w : List Int} (hl : Big l.length) (hw : Big w.length) : f163 l w = some (w.all l.contains) := by
 unfold f163
 rw [iter_ex w (fun v => !l.contains v) false (fun i hi => by
  simp only [f163_0]
  rw [if_pos (by omega), ix_nat hi, w64_succ (by omega)]
  simp only [bS, hasI hl]
  cases l.contains w[i] <;> simp) (by
  simp only [f163_0]
  rw [if_neg (by omega)])]
 rw [any_not]
 cases w.all l.contains <;> simp
theorem vRels_arity {l : List Relation} {r : Int} (h : vRels l = true) (hb : btw r 0 (l.length - 1) = true) : arity l r <= 3 := by
 obtain ⟨x, h1, h2, h3, _⟩ := ix_rel hb
 unfold vRels at h; simp only [Bool.and_eq_true] at h
 obtain ⟨i, hi, rfl⟩ := List.mem_iff_getElem.1 h2
 have := (good_of h.1 hi).1
 unfold vRel btw at this
 simp only [Bool.and_eq_true, decide_eq_true_eq] at this
 omega
end
section
def nfl (X : Int -> Bool) : List Int := (List.range 4).flatMap fun v => if X ((v : Nat) : Int) = true then [((v : Nat) : Int)] else []
def In4 (X : Int -> Bool) : Prop := ∀ v, X v = true -> btw v 0 3 = true
def Le4 (X Y : Int -> Bool) : Prop := ∀ v, X v = true -> Y v = true
def cupX (X Y : Int -> Bool) : Int -> Bool := fun v => X v || Y v
theorem Le4.refl {X : Int -> Bool} : Le4 X X := fun _ h => h
theorem Le4.trans {X Y Z : Int -> Bool} (h : Le4 X Y) (g : Le4 Y Z) : Le4 X Z := fun v hv => g v (h v hv)
theorem Le4.antisymm {X Y : Int -> Bool} (h : Le4 X Y) (g : Le4 Y X) : X = Y := by
 funext v
 rw [Bool.eq_iff_iff]
 exact ⟨h v, g v⟩
theorem avars_nfl {t : List Int} : avars t = nfl t.contains := rfl
theorem nfl_mem {X : Int -> Bool} {y : Int} : y ∈ nfl X ↔ X y = true /\ btw y 0 3 = true := by
 unfold nfl btw
 simp only [List.mem_flatMap, List.mem_range, Bool.and_eq_true, decide_eq_true_eq]
 constructor
 ·rintro ⟨v, hv, h⟩
  by_cases c : X ((v : Nat) : Int) = true
  ·rw [if_pos c, List.mem_singleton] at h
   subst h
   exact ⟨c, by omega, by omega⟩
  ·rw [if_neg c] at h; cases h
 ·rintro ⟨h, h1, h2⟩
  refine ⟨y.toNat, by omega, ?_⟩
  rw [Int.toNat_of_nonneg h1, if_pos h]
  simp
theorem nfl_up {X : Int -> Bool} : (nfl X).Pairwise (· < ·) := by
 unfold nfl
 simp only [List.range, List.range.loop, List.flatMap_cons, List.flatMap_nil, List.append_nil]
 generalize X ((0 : Nat) : Int) = a
 generalize X ((1 : Nat) : Int) = b
 generalize X ((2 : Nat) : Int) = c
 generalize X ((3 : Nat) : Int) = d
 cases a <;> cases b <;> cases c <;> cases d <;> simp
theorem nfl_len {X : Int -> Bool} : (nfl X).length <= 4 := by
 unfold nfl
 simp only [List.range, List.range.loop, List.flatMap_cons, List.flatMap_nil, List.append_nil, List.length_append]
 split <;> split <;> split <;> split <;> simp
theorem nfl_has {X : Int -> Bool} (h : In4 X) : (nfl X).contains = X := by
 funext v
 rw [Bool.eq_iff_iff, List.contains_iff_mem, nfl_mem]
 exact ⟨fun h => h.1, fun hv => ⟨hv, h v hv⟩⟩
theorem nfl_congr {X Y : Int -> Bool} (h : ∀ v, btw v 0 3 = true -> X v = Y v) : nfl X = nfl Y := by
 refine up_ext nfl_up nfl_up fun y => ?_
 rw [nfl_mem, nfl_mem]
 constructor <;> rintro ⟨a, b⟩ <;> exact ⟨by rw [<- a, h y b], b⟩
theorem nfl_in {X : Int -> Bool} : In4 (nfl X).contains := fun v hv => by
 rw [List.contains_iff_mem, nfl_mem] at hv; exact hv.2
theorem nfl_nil : nfl (fun _ => false) = [] := by simp [nfl]
theorem cup_in {X Y : Int -> Bool} (h : In4 X) (g : In4 Y) : In4 (cupX X Y) := fun v hv => by
 unfold cupX at hv
 rcases Bool.or_eq_true _ _ ▸ hv with a | a
 ·exact h v a
 ·exact g v a
theorem nfl_idem {X : Int -> Bool} : nfl (nfl X).contains = nfl X := nfl_congr fun v hv => by
 rw [Bool.eq_iff_iff, List.contains_iff_mem, nfl_mem]
 exact ⟨fun h => h.1, fun h => ⟨h, hv⟩⟩
theorem unionI {a b : List Int} (h : a.length + b.length <= 12) (ha : In4 a.contains) (hb : In4 b.contains) : f57 a b = some (nfl (cupX a.contains b.contains)) := by
 obtain ⟨r, h1, h2, h3, _⟩ := union12 h
 rw [h1]
 congr 1
 refine up_ext h2 nfl_up fun y => ?_
 rw [h3, nfl_mem]
 unfold cupX
 simp only [Bool.or_eq_true, List.contains_iff_mem]
 constructor
 ·intro hy
  refine ⟨hy, ?_⟩
  rcases hy with hy | hy
  ·exact ha y (by rw [List.contains_iff_mem]; exact hy)
  ·exact hb y (by rw [List.contains_iff_mem]; exact hy)
 ·exact fun h => h.1
theorem bothS {a b : List Int} (ha : Big a.length) (hb : Big b.length) : f113 a b = some (nfl (cupX a.contains b.contains)) := by
 unfold f113
 rw [iter_flat (List.range 4) (fun v => if cupX a.contains b.contains ((v : Nat) : Int) = true then [((v : Nat) : Int)] else []) id (fun k hk => by
  simp only [List.length_range] at hk
  have el : (((List.range 4).take k).flatMap fun v => if cupX a.contains b.contains ((v : Nat) : Int) = true then [((v : Nat) : Int)] else []).length <= k := by
   have := take_flat_le (l := List.range 4) (i := k) (g := fun v => if cupX a.contains b.contains ((v : Nat) : Int) = true then [((v : Nat) : Int)] else []) (m := 1) (fun a => by split <;> simp)
   omega
  generalize ((List.range 4).take k).flatMap (fun v => if cupX a.contains b.contains ((v : Nat) : Int) = true then [((v : Nat) : Int)] else []) = out at el ⊢
  simp only [List.getElem_range]
  simp only [f113_0]
  rw [if_pos (by omega), hasI ha, hasI hb, w64_succ (by omega)]
  unfold cupX
  cases a.contains ((k : Nat) : Int)
  ·cases b.contains ((k : Nat) : Int)
   ·simp
   ·simp only [bS, Bool.false_eq_true, if_false, if_true, Bool.false_or]
    rw [app_fits (by simp; omega)]; rfl
  ·simp only [bS, if_true, Bool.true_or]
   rw [app_fits (by simp; omega)]; rfl) (by
  simp only [f113_0]
  rw [if_neg (by simp)]; rfl)]
 rfl
structure Rule where
 c : (Int -> Bool) -> Bool
 a : Int -> Bool
def Rule.mono (r : Rule) : Prop := ∀ X Y, Le4 X Y -> r.c X = true -> r.c Y = true
def fire (X : Int -> Bool) (r : Rule) : Int -> Bool := if r.c X = true then cupX X r.a else X
def pass (L : List Rule) (X : Int -> Bool) : Int -> Bool := L.foldl fire X
def passes (L : List Rule) : Nat -> (Int -> Bool) -> Int -> Bool
 | 0, X => X
 | n + 1, X => pass L (passes L n X)
def Clo (L : List Rule) (X : Int -> Bool) : Prop := ∀ r ∈ L, r.c X = true -> Le4 r.a X
theorem fire_le {X : Int -> Bool} {r : Rule} : Le4 X (fire X r) := fun v hv => by
 unfold fire; split
 ·unfold cupX; rw [hv]; rfl
 ·exact hv
theorem pass_le {L : List Rule} {X : Int -> Bool} : Le4 X (pass L X) := by
 induction L generalizing X with
 | nil => exact Le4.refl
 | cons r L ih => exact fire_le.trans ih
theorem fire_clo {X : Int -> Bool} {r : Rule} (h : r.c X = true -> Le4 r.a X) : fire X r = X := by
 unfold fire; split
 ·rename_i hc
  refine Le4.antisymm (fun v hv => ?_) (fun v hv => by unfold cupX; rw [hv]; rfl)
  unfold cupX at hv
  rcases Bool.or_eq_true _ _ ▸ hv with a | a
  ·exact a
  ·exact h hc v a
 ·rfl
theorem pass_clo {L : List Rule} {X : Int -> Bool} (h : Clo L X) : pass L X = X := by
 induction L with
 | nil => rfl
 | cons r L ih =>
  unfold pass
  rw [List.foldl_cons, fire_clo (h r (by simp))]
  exact ih fun q hq => h q (by simp [hq])
theorem pass_fires {L : List Rule} (hm : ∀ r ∈ L, r.mono) {X : Int -> Bool} {r : Rule} (hr : r ∈ L) (hc : r.c X = true) : Le4 r.a (pass L X) := by
 induction L generalizing X with
 | nil => cases hr
 | cons q L ih =>
  unfold pass
  rw [List.foldl_cons]
  rcases List.mem_cons.1 hr with rfl | hr
  ·refine Le4.trans (fun v hv => ?_) (pass_le (L := L))
   unfold fire; rw [if_pos hc]; unfold cupX; rw [hv, Bool.or_true]
  ·exact ih (fun r h => hm r (by simp [h])) hr (hm r (by simp [hr]) _ _ fire_le hc)
theorem clo_of_pass {L : List Rule} (hm : ∀ r ∈ L, r.mono) {X : Int -> Bool} (h : pass L X = X) : Clo L X := fun r hr hc => by
 have := pass_fires hm hr hc
 rwa [h] at this
theorem pass_least {L : List Rule} (hm : ∀ r ∈ L, r.mono) {X Z : Int -> Bool} (hz : Clo L Z) (h : Le4 X Z) : Le4 (pass L X) Z := by
 induction L generalizing X with
 | nil => exact h
 | cons q L ih =>
  unfold pass
  rw [List.foldl_cons]
  refine ih (fun r h => hm r (by simp [h])) (fun r hr => hz r (by simp [hr])) ?_
  unfold fire; split
  ·rename_i hc
   intro v hv
   unfold cupX at hv
   rcases Bool.or_eq_true _ _ ▸ hv with a | a
   ·exact h v a
   ·exact hz q (by simp) (hm q (by simp) _ _ h hc) v a
  ·exact h
theorem passes_le {L : List Rule} {n : Nat} {X : Int -> Bool} : Le4 X (passes L n X) := by
 induction n with
 | zero => exact Le4.refl
 | succ n ih => exact ih.trans pass_le
theorem passes_least {L : List Rule} (hm : ∀ r ∈ L, r.mono) {X Z : Int -> Bool} (hz : Clo L Z) (h : Le4 X Z) {n : Nat} : Le4 (passes L n X) Z := by
 induction n with
 | zero => exact h
 | succ n ih => exact pass_least hm hz ih
noncomputable def spent (L : List Rule) (X : Int -> Bool) : Nat := by
 classical exact (L.map fun r => if Le4 r.a X then 1 else 0).sum
theorem spent_le {L : List Rule} {X : Int -> Bool} : spent L X <= L.length := by
 unfold spent
 induction L with
 | nil => simp
 | cons r L ih => simp only [List.map_cons, List.sum_cons, List.length_cons]; split <;> omega
theorem spent_mono {L : List Rule} {X Y : Int -> Bool} (h : Le4 X Y) : spent L X <= spent L Y := by
 unfold spent
 induction L with
 | nil => simp
 | cons r L ih =>
  simp only [List.map_cons, List.sum_cons]
  split
  ·rename_i a
   rw [if_pos (a.trans h)]; omega
  ·split <;> omega
theorem spent_lt {L : List Rule} {X Y : Int -> Bool} (h : Le4 X Y) {r : Rule} (hr : r ∈ L) (h1 : ¬ Le4 r.a X) (h2 : Le4 r.a Y) : spent L X < spent L Y := by
 induction L with
 | nil => cases hr
 | cons q L ih =>
  have hm := spent_mono (L := L) h
  unfold spent at ih hm ⊢
  simp only [List.map_cons, List.sum_cons]
  rcases List.mem_cons.1 hr with rfl | hr
  ·rw [if_neg h1, if_pos h2]; omega
  ·have := ih hr
   split
   ·rename_i a
    rw [if_pos (a.trans h)]; omega
   ·split <;> omega
theorem spent_full {L : List Rule} {X : Int -> Bool} (h : L.length <= spent L X) : Clo L X := by
 intro r hr _
 apply Classical.byContradiction
 intro hn
 have : spent L X < spent L (fun _ => true) := spent_lt (fun _ _ => rfl) hr hn (fun _ _ => rfl)
 have := spent_le (L := L) (X := fun _ => true)
 omega
theorem passes_spent {L : List Rule} (hm : ∀ r ∈ L, r.mono) {X : Int -> Bool} {n : Nat} : Clo L (passes L n X) \/ n <= spent L (passes L n X) := by
 induction n with
 | zero => exact .inr (by omega)
 | succ n ih =>
  rw [passes]
  rcases ih with h | h
  ·rw [pass_clo h]; exact .inl h
  ·by_cases c : Clo L (passes L n X)
   ·rw [pass_clo c]; exact .inl c
   ·right
    have : ∃ r ∈ L, r.c (passes L n X) = true /\ ¬ Le4 r.a (passes L n X) := by
     apply Classical.byContradiction
     intro hn
     exact c fun r hr hc => Classical.byContradiction fun h => hn ⟨r, hr, hc, h⟩
    obtain ⟨r, hr, hc, hn⟩ := this
    have := spent_lt (pass_le (L := L)) hr hn (pass_fires hm hr hc)
    omega
theorem passes_clo {L : List Rule} (hm : ∀ r ∈ L, r.mono) {X : Int -> Bool} {n : Nat} (h : L.length <= n) : Clo L (passes L n X) := by
 rcases passes_spent hm (X := X) (n := n) with c | c
 ·exact c
 ·exact spent_full (by omega)
def cl (L : List Rule) (X : Int -> Bool) : Int -> Bool := passes L L.length X
theorem cl_uniq {L : List Rule} (hm : ∀ r ∈ L, r.mono) {X Y : Int -> Bool} (h1 : Clo L Y) (h2 : Le4 X Y) (h3 : ∀ Z, Clo L Z -> Le4 X Z -> Le4 Y Z) : Y = cl L X :=
 (h3 _ (passes_clo hm (Nat.le_refl _)) passes_le).antisymm (passes_least hm h1 h2)
theorem passes_cl {L : List Rule} (hm : ∀ r ∈ L, r.mono) {X : Int -> Bool} {n : Nat} (h : L.length <= n) : passes L n X = cl L X :=
 cl_uniq hm (passes_clo hm h) passes_le fun Z hz hx => passes_least hm hz hx
theorem passes_stop {L : List Rule} (hm : ∀ r ∈ L, r.mono) {X : Int -> Bool} {n : Nat} (h : pass L (passes L n X) = passes L n X) : passes L n X = cl L X :=
 cl_uniq hm (clo_of_pass hm h) passes_le fun Z hz hx => passes_least hm hz hx
theorem fire_in {X : Int -> Bool} {r : Rule} (h : In4 X) (g : In4 r.a) : In4 (fire X r) := by
 unfold fire; split
 ·exact cup_in h g
 ·exact h
theorem pass_in {L : List Rule} {X : Int -> Bool} (h : In4 X) (g : ∀ r ∈ L, In4 r.a) : In4 (pass L X) := by
 induction L generalizing X with
 | nil => exact h
 | cons r L ih => exact ih (fire_in h (g r (by simp))) fun q hq => g q (by simp [hq])
theorem passes_in {L : List Rule} {n : Nat} {X : Int -> Bool} (h : In4 X) (g : ∀ r ∈ L, In4 r.a) : In4 (passes L n X) := by
 induction n with
 | zero => exact h
 | succ n ih => exact pass_in ih g
theorem pass_take {L : List Rule} {X : Int -> Bool} {i : Nat} (h : i < L.length) : pass (L.take (i + 1)) X = fire (pass (L.take i) X) L[i] := by
 unfold pass; rw [take_succ' h, List.foldl_append]; rfl
theorem nfl_inj {X Y : Int -> Bool} (hx : In4 X) (hy : In4 Y) (h : nfl X = nfl Y) : X = Y := by rw [<- nfl_has hx, <- nfl_has hy, h]
theorem nfl_len_lt {X Y : Int -> Bool} (h : Le4 X Y) (he : (nfl Y).length <= (nfl X).length) (hy : In4 Y) : X = Y := by
 have hx : In4 X := fun v hv => hy v (h v hv)
 refine nfl_inj hx hy ?_
 have h0 := h 0
 have h1 := h 1
 have h2 := h 2
 have h3 := h 3
 unfold nfl at he ⊢
 simp only [List.range, List.range.loop, List.flatMap_cons, List.flatMap_nil, List.append_nil, List.length_append, Int.ofNat_zero, Int.natCast_zero, Int.natCast_one] at he ⊢
 have e2 : ((2 : Nat) : Int) = 2 := rfl
 have e3 : ((3 : Nat) : Int) = 3 := rfl
 rw [e2, e3] at he ⊢
 generalize X 0 = a0 at *
 generalize X 1 = a1 at *
 generalize X 2 = a2 at *
 generalize X 3 = a3 at *
 generalize Y 0 = b0 at *
 generalize Y 1 = b1 at *
 generalize Y 2 = b2 at *
 generalize Y 3 = b3 at *
 revert h0 h1 h2 h3 he
 cases a0 <;> cases a1 <;> cases a2 <;> cases a3 <;> cases b0 <;> cases b1 <;> cases b2 <;> cases b3 <;> simp
end
section
def FitsQ (q : Query) : Prop := q.Atoms.length <= 1048576 /\ (∀ a ∈ q.Atoms, a.Terms.length <= 1048576) /\ q.Free.length <= 1048576
def vAt (l : List Relation) (n : Int) (before : List Atom) (a : Atom) : Bool :=
 btw a.Relation 0 (l.length - 1) && (decide ((a.Terms.length : Int) = arity l a.Relation) && ((a.Terms.all fun v => btw v (-10) (n - 1)) && !(before.any fun b => decide (b.Relation = a.Relation))))
def vAtom (l : List Relation) (q : Query) (i : Nat) : Bool := match q.Atoms[i]? with
 | none => true
 | some a => vAt l q.VariableCount (q.Atoms.take i) a
def occ (az : List Atom) : Int -> Bool := fun v => az.any fun a => a.Terms.contains v
def vQuery (l : List Relation) (q : Query) : Bool :=
 vRels l && (btw q.VariableCount 0 4 && (btw q.Atoms.length 1 3 && (((List.range q.Atoms.length).all (vAtom l q)) && (((List.range 4).all fun v => decide (q.VariableCount <= ((v : Nat) : Int)) || occ q.Atoms ((v : Nat) : Int)) && asc q.VariableCount q.Free))))
theorem vAtom_get {l : List Relation} {q : Query} {i : Nat} (h : i < q.Atoms.length) : vAtom l q i = vAt l q.VariableCount (q.Atoms.take i) q.Atoms[i] := by
 unfold vAtom; rw [zE h]
theorem all_false {n i : Nat} {p : Nat -> Bool} (h : i < n) (hp : p i = false) : (List.range n).all p = false := by
 rw [Bool.eq_false_iff]
 intro ha
 have := List.all_eq_true.1 ha i (List.mem_range.2 h)
 rw [hp] at this; cases this
theorem occ_succ {az : List Atom} {i : Nat} (h : i < az.length) {v : Int} : occ (az.take (i + 1)) v = (occ (az.take i) v || az[i].Terms.contains v) := by
 unfold occ; rw [take_succ' h, List.any_append]; simp
theorem has_succ {t : List Int} {k : Nat} (h : k < t.length) {v : Int} : (t.take (k + 1)).contains v = ((t.take k).contains v || decide (v = t[k])) := by
 rw [Bool.eq_iff_iff, List.contains_iff_mem, take_succ' h, List.mem_append, List.mem_singleton, Bool.or_eq_true, List.contains_iff_mem, decide_eq_true_eq]
section
variable {l : List Relation} {q : Query}
theorem specTerms {a : Atom} {mt : List Bool} {X : Int -> Bool} (ht : a.Terms.length <= 1048576) (hn : 0 <= q.VariableCount /\ q.VariableCount <= 4) (hm : mt.length = 4) (hx : ∀ v, v < 4 -> mt[v]? = some (X ((v : Nat) : Int))) :
  Ens (iter (f80_4 q a) (mt, 0)) fun o => match o with
   | .inl m => (a.Terms.all fun v => btw v (-10) (q.VariableCount - 1)) = true /\ m.length = 4 /\ ∀ v, v < 4 -> m[v]? = some (X ((v : Nat) : Int) || a.Terms.contains ((v : Nat) : Int))
   | .inr b => b = false /\ (a.Terms.all fun v => btw v (-10) (q.VariableCount - 1)) = false := by
 refine iter_up (f := f80_4 q a) a.Terms.length (fun k s => s.2 = (k : Int) /\ ((a.Terms.take k).all fun v => btw v (-10) (q.VariableCount - 1)) = true /\ s.1.length = 4 /\ ∀ v, v < 4 -> s.1[v]? = some (X ((v : Nat) : Int) || (a.Terms.take k).contains ((v : Nat) : Int))) _ (fun k s hk hI => ?_) (fun s hI => ?_) (mt, 0) ⟨rfl, by simp, hm, fun v hv => by simp [hx v hv]⟩
 ·obtain ⟨m, x⟩ := s
  obtain ⟨e1, e2, e3, e4⟩ := hI
  dsimp only at e1 e3 e4
  subst e1
  simp only [f80_4]
  rw [if_pos (by omega), ix_nat hk, bS, w64_of (by omega), specIn, bS]
  cases hb : btw a.Terms[k] (-10) (q.VariableCount - 1)
  ·refine ⟨_, rfl, rfl, ?_⟩
   rw [Bool.eq_false_iff]
   intro ha
   have := List.all_eq_true.1 ha _ (List.getElem_mem hk)
   rw [hb] at this; cases this
  ·have hb' := hb
   unfold btw at hb'; simp only [Bool.and_eq_true, decide_eq_true_eq] at hb'
   have ha : ((a.Terms.take (k + 1)).all fun v => btw v (-10) (q.VariableCount - 1)) = true := by
    rw [take_succ' hk, List.all_append, e2]; simp [hb]
   simp only [not_true_eq_false, if_false]
   rw [w64_succ (by omega)]
   by_cases c : a.Terms[k] >= 0
   ·have hi : ix m a.Terms[k] = some (m[a.Terms[k].toNat]'(by omega)) := by rw [ix_of c, zE (by omega)]
    rw [if_pos c, hi]
    simp only [bS]
    refine ⟨_, rfl, rfl, ha, by simp [e3], fun v hv => ?_⟩
    dsimp only
    rw [List.getElem?_set]
    by_cases e : a.Terms[k].toNat = v
    ·rw [if_pos e, if_pos (by omega)]
     have : ((v : Nat) : Int) = a.Terms[k] := by omega
     rw [has_succ hk]
     simp [this]
    ·rw [if_neg e, e4 v hv, has_succ hk]
     have : ¬ ((v : Nat) : Int) = a.Terms[k] := by omega
     simp [this]
   ·rw [if_neg c]
    simp only [bS]
    refine ⟨_, rfl, rfl, ha, e3, fun v hv => ?_⟩
    dsimp only
    rw [e4 v hv, has_succ hk]
    have : ¬ ((v : Nat) : Int) = a.Terms[k] := by omega
    simp [this]
 ·obtain ⟨m, x⟩ := s
  obtain ⟨e1, e2, e3, e4⟩ := hI
  dsimp only at e1 e3 e4
  subst e1
  rw [List.take_of_length_le (Nat.le_refl _)] at e2 e4
  simp only [f80_4]
  rw [if_neg (by omega)]
  exact ⟨_, rfl, e2, e3, e4⟩
theorem specEarlier {a : Atom} {i : Nat} (hi : i <= q.Atoms.length) (hq : q.Atoms.length <= 1048576) : iter (f80_3 q (i : Int) a) 0 = some (if ((q.Atoms.take i).any fun b => decide (b.Relation = a.Relation)) = true then .inr false else .inl ()) := by
 have e : (q.Atoms.take i).length = i := by simp; omega
 refine iter_ex (q.Atoms.take i) (fun b => decide (b.Relation = a.Relation)) false (fun k hk => ?_) ?_
 ·rw [e] at hk
  simp only [f80_3]
  rw [if_pos (by omega), ix_nat (by omega : k < q.Atoms.length), bS, w64_succ (by omega), List.getElem_take]
  by_cases c : q.Atoms[k].Relation = a.Relation
  ·rw [if_pos c, if_pos (by simp [c])]
  ·rw [if_neg c, if_neg (by simp [c])]
 ·simp only [f80_3]
  rw [e, if_neg (by omega)]
theorem specAtoms (hl : Big l.length) (hq : FitsQ q) (hn : 0 <= q.VariableCount /\ q.VariableCount <= 4) :
  Ens (iter (f80_0 l q) ([false, false, false, false], 0)) fun o => match o with
   | .inl m => (List.range q.Atoms.length).all (vAtom l q) = true /\ m.length = 4 /\ ∀ v, v < 4 -> m[v]? = some (occ q.Atoms ((v : Nat) : Int))
   | .inr b => b = false /\ (List.range q.Atoms.length).all (vAtom l q) = false := by
 obtain ⟨q1, q2, q3⟩ := hq
 refine iter_up (f := f80_0 l q) q.Atoms.length (fun i s => s.2 = (i : Int) /\ (∀ j, j < i -> vAtom l q j = true) /\ s.1.length = 4 /\ ∀ v, v < 4 -> s.1[v]? = some (occ (q.Atoms.take i) ((v : Nat) : Int))) _ (fun i s hi hI => ?_) (fun s hI => ?_) _ ⟨rfl, fun j hj => by omega, rfl, fun v hv => ?_⟩
 ·obtain ⟨m, x⟩ := s
  obtain ⟨e1, e2, e3, e4⟩ := hI
  dsimp only at e1 e3 e4
  subst e1
  have hv := vAtom_get (l := l) hi
  simp only [f80_0]
  rw [if_pos (by omega), ix_nat hi, bS, w64_of (by omega), specIn, bS]
  have ht := q2 _ (List.getElem_mem hi)
  unfold vAt at hv
  cases hb : btw q.Atoms[i].Relation 0 (l.length - 1)
  ·rw [hb] at hv
   exact ⟨_, rfl, rfl, all_false hi (by rw [hv]; rfl)⟩
  ·obtain ⟨x, h1, _, h2, _⟩ := ix_rel hb
   rw [hb] at hv
   rw [h1]
   simp only [not_true_eq_false, if_false, bS]
   rw [h2]
   by_cases ha : (q.Atoms[i].Terms.length : Int) = arity l q.Atoms[i].Relation
   ·simp only [ha, not_true_eq_false, if_false, bS, ne_eq, decide_false, Bool.false_eq_true]
    rw [specEarlier (by omega) q1]
    cases hd : (q.Atoms.take i).any fun b => decide (b.Relation = q.Atoms[i].Relation)
    ·simp only [Bool.false_eq_true, if_false, bS]
     obtain ⟨o, ho, hQ⟩ := specTerms (q := q) (a := q.Atoms[i]) (mt := m) (X := occ (q.Atoms.take i)) ht hn e3 e4
     rw [ho]
     cases o with
     | inl m' =>
      obtain ⟨g1, g2, g3⟩ := hQ
      simp only [bS]
      rw [w64_succ (by omega)]
      refine ⟨_, rfl, rfl, fun j hj => ?_, g2, fun v hv => ?_⟩
      ·by_cases e : j = i
       ·subst e; rw [hv, ha, g1, hd]; simp
       ·exact e2 j (by omega)
      ·rw [g3 v hv, occ_succ hi]
     | inr b =>
      obtain ⟨rfl, g⟩ := hQ
      exact ⟨_, rfl, rfl, all_false hi (by rw [hv, g]; simp)⟩
    ·simp only [if_true, bS]
     exact ⟨_, rfl, rfl, all_false hi (by rw [hv, hd]; simp)⟩
   ·simp only [ha, not_true_eq_false, not_false_eq_true, if_false, bS, ne_eq, decide_true, if_true]
    exact ⟨_, rfl, rfl, all_false hi (by rw [hv]; simp [ha])⟩
 ·obtain ⟨m, x⟩ := s
  obtain ⟨e1, e2, e3, e4⟩ := hI
  dsimp only at e1 e3 e4
  subst e1
  rw [List.take_of_length_le (Nat.le_refl _)] at e4
  simp only [f80_0]
  rw [if_neg (by omega)]
  exact ⟨_, rfl, List.all_eq_true.2 fun j hj => e2 j (List.mem_range.1 hj), e3, e4⟩
 ·simp only [List.take_zero, occ, List.any_nil]
  rcases v with _ | _ | _ | _ | v
  ·rfl
  ·rfl
  ·rfl
  ·rfl
  ·omega
theorem specQ (hl : Big l.length) (hq : FitsQ q) : f80 l q = some (vQuery l q) := by
 unfold f80 vQuery
 rw [specRels hl, bS]
 cases vRels l
 ·simp
 simp only [not_true_eq_false, if_false, specIn, bS, Bool.true_and]
 cases hc : btw q.VariableCount 0 4
 ·simp
 cases hn : btw (q.Atoms.length : Int) 1 3
 ·simp
 have hc' := hc
 unfold btw at hc'; simp only [Bool.and_eq_true, decide_eq_true_eq] at hc'
 simp only [not_true_eq_false, if_false, bS, decide_false, Bool.false_eq_true, Bool.true_and]
 rw [mkl_ok (by omega) (by omega) (by omega), bS, show List.replicate (4 : Int).toNat false = [false, false, false, false] from rfl]
 obtain ⟨o, ho, hQ⟩ := specAtoms hl hq hc'
 rw [ho]
 cases o with
 | inr b => obtain ⟨rfl, g⟩ := hQ; rw [g]; simp
 | inl m =>
  obtain ⟨g1, g2, g3⟩ := hQ
  rw [g1]
  simp only [bS, Bool.true_and]
  rw [iter_ex (List.range q.VariableCount.toNat) (fun v => !occ q.Atoms ((v : Nat) : Int)) false (fun v hv => by
   simp only [List.length_range] at hv
   simp only [List.getElem_range]
   simp only [f80_1]
   rw [if_pos (by omega), ix_cast, g3 v (by omega), bS, w64_succ (by omega)]
   cases occ q.Atoms ((v : Nat) : Int) <;> simp) (by
   simp only [f80_1, List.length_range]
   rw [if_neg (by omega)])]
  have ea : ((List.range 4).all fun v => decide (q.VariableCount <= ((v : Nat) : Int)) || occ q.Atoms ((v : Nat) : Int)) = !((List.range q.VariableCount.toNat).any fun v => !occ q.Atoms ((v : Nat) : Int)) := by
   rw [any_not, Bool.not_not, Bool.eq_iff_iff, List.all_eq_true, List.all_eq_true]
   simp only [List.mem_range, Bool.or_eq_true, decide_eq_true_eq]
   constructor
   ·intro h v hv
    exact (h v (by omega)).resolve_left (by omega)
   ·intro h v hv
    by_cases c : q.VariableCount <= ((v : Nat) : Int)
    ·exact .inl c
    ·exact .inr (h v (by omega))
  rw [ea]
  cases (List.range q.VariableCount.toNat).any fun v => !occ q.Atoms ((v : Nat) : Int)
  ·simp only [Bool.false_eq_true, if_false, bS, Bool.not_false, Bool.true_and]
   have hF := hq.2.2
   rw [iter_adj (fun v => btw v 0 (q.VariableCount - 1)) (fun a b => decide (a < b)) q.Free false (fun i hi => by
    simp only [f80_2]
    rw [if_pos (by omega), ix_nat hi, w64_succ (by omega), w64_of (n := q.VariableCount - 1) (by omega)]
    simp only [bS, specIn]
    cases btw q.Free[i] 0 (q.VariableCount - 1)
    ·simp
    ·by_cases h0 : i = 0
     ·subst h0; simp
     ·have e : ix q.Free (w64 ((i : Int) - 1)) = some (q.Free[i - 1]'(by omega)) := by rw [w64_of (by omega), show (i : Int) - 1 = ((i - 1 : Nat) : Int) by omega, ix_nat (by omega)]
      simp only [e]
      have : 0 < i := by omega
      by_cases hb : q.Free[i - 1]'(by omega) < q.Free[i]
      ·simp [h0, this, hb, Int.not_le.2 hb]
      ·simp [h0, this, hb, Int.not_lt.1 hb]) (by
    simp only [f80_2]
    rw [if_neg (by omega)])]
   unfold asc
   cases good (fun v => btw v 0 (q.VariableCount - 1)) (fun a b => decide (a < b)) q.Free <;> simp
  ·simp
theorem containsA {s : List Atom} {f : Atom -> Option Bool} {p : Atom -> Bool} (h : Big s.length) (hf : ∀ a ∈ s, f a = some (p a)) : f165 s f = some (s.any p) := by
 unfold f165 f206
 obtain ⟨o, h1, h2⟩ := iter_idx (f := f206_0 s f) s p (fun i hi => by
  simp only [f206_0]
  rw [if_pos (by omega), ix_nat hi, w64_succ (by omega)]
  simp only [bS, hf _ (List.getElem_mem hi)]
  split <;> rfl) (by
  simp only [f206_0]
  rw [if_neg (by omega)])
 rw [h1]
 cases o with
 | inl _ => dsimp only at h2; rw [h2]; rfl
 | inr x => dsimp only at h2; rw [h2.2]; simp; omega
theorem impAtoms (hl : Big l.length) (hv : vRels l = true) (hq : FitsQ q) (hn : 0 <= q.VariableCount /\ q.VariableCount <= 4) :
  Ens (iter (f115_0 l q) ([], 0)) fun o => match o with
   | .inl m => (List.range q.Atoms.length).all (vAtom l q) = true /\ m = nfl (occ q.Atoms)
   | .inr b => b = false /\ (List.range q.Atoms.length).all (vAtom l q) = false := by
 obtain ⟨q1, q2, q3⟩ := hq
 refine iter_up (f := f115_0 l q) q.Atoms.length (fun i s => s.2 = (i : Int) /\ (∀ j, j < i -> vAtom l q j = true) /\ s.1 = nfl (occ (q.Atoms.take i))) _ (fun i s hi hI => ?_) (fun s hI => ?_) _ ⟨rfl, fun j hj => by omega, nfl_nil.symm⟩
 ·obtain ⟨m, x⟩ := s
  obtain ⟨e1, e2, e3⟩ := hI
  dsimp only at e1 e3
  subst e1; subst e3
  have hva := vAtom_get (l := l) hi
  simp only [f115_0]
  rw [if_pos (by omega), ix_nat hi, bS, w64_of (by omega), impIn, bS]
  have ht := q2 _ (List.getElem_mem hi)
  unfold vAt at hva
  cases hb : btw q.Atoms[i].Relation 0 (l.length - 1)
  ·rw [hb] at hva
   exact ⟨_, rfl, rfl, all_false hi (by rw [hva]; rfl)⟩
  ·obtain ⟨x, h1, _, h2, _⟩ := ix_rel hb
   rw [hb] at hva
   rw [h1]
   simp only [not_true_eq_false, if_false, bS]
   rw [h2]
   by_cases ha : (q.Atoms[i].Terms.length : Int) = arity l q.Atoms[i].Relation
   ·have h3 := vRels_arity hv hb
    have e0 : (q.Atoms.take ((i : Nat) : Int).toNat).drop (0 : Int).toNat = q.Atoms.take i := by simp
    rw [if_neg (by simp [ha]), cutL_ok (by omega) (by omega) (by omega), e0, bS]
    rw [containsA (p := fun b => decide (b.Relation = q.Atoms[i].Relation)) (by simp; omega) (fun b _ => by
     unfold f166
     exact congrArg some (decide_eq_decide.2 ⟨fun h => by first | exact h | exact h.symm, fun h => by first | exact h | exact h.symm⟩))]
    cases hd : (q.Atoms.take i).any fun b => decide (b.Relation = q.Atoms[i].Relation)
    ·simp only [Bool.false_eq_true, if_false, bS]
     rw [iter_ex q.Atoms[i].Terms (fun v => !btw v (-10) (q.VariableCount - 1)) false (fun k hk => by
      simp only [f115_1]
      rw [if_pos (by omega), ix_nat hk, w64_succ (by omega), w64_of (n := q.VariableCount - 1) (by omega)]
      simp only [bS, impIn]
      cases btw q.Atoms[i].Terms[k] (-10) (q.VariableCount - 1) <;> simp) (by
      simp only [f115_1]
      rw [if_neg (by omega)]), any_not]
     cases g1 : q.Atoms[i].Terms.all fun v => btw v (-10) (q.VariableCount - 1)
     ·simp only [Bool.not_false, if_true, bS]
      exact ⟨_, rfl, rfl, all_false hi (by rw [hva, g1]; simp)⟩
     ·simp only [Bool.not_true, Bool.false_eq_true, if_false, bS]
      have n1 := nfl_len (X := occ (q.Atoms.take i))
      have n2 := nfl_len (X := q.Atoms[i].Terms.contains)
      rw [impVars (by omega), bS, avars_nfl, unionI (by omega) nfl_in nfl_in, bS, w64_succ (by omega)]
      refine ⟨_, rfl, rfl, fun j hj => ?_, ?_⟩
      ·by_cases e : j = i
       ·subst e; rw [hva, ha, g1, hd]; simp
       ·exact e2 j (by omega)
      ·refine nfl_congr fun v hv => ?_
       rw [occ_succ hi]
       unfold cupX
       congr 1
       ·rw [Bool.eq_iff_iff, List.contains_iff_mem, nfl_mem]; exact ⟨fun h => h.1, fun h => ⟨h, hv⟩⟩
       ·rw [Bool.eq_iff_iff, List.contains_iff_mem, nfl_mem]; exact ⟨fun h => h.1, fun h => ⟨h, hv⟩⟩
    ·simp only [if_true, bS]
     exact ⟨_, rfl, rfl, all_false hi (by rw [hva, hd]; simp)⟩
   ·rw [if_pos ha]
    exact ⟨_, rfl, rfl, all_false hi (by rw [hva]; simp [ha])⟩
 ·obtain ⟨m, x⟩ := s
  obtain ⟨e1, e2, e3⟩ := hI
  dsimp only at e1 e3
  subst e1; subst e3
  simp only [f115_0]
  rw [if_neg (by omega)]
  exact ⟨_, rfl, List.all_eq_true.2 fun j hj => e2 j (List.mem_range.1 hj), by rw [List.take_of_length_le (Nat.le_refl _)]⟩
theorem nfl_count {X : Int -> Bool} {n : Int} (h0 : 0 <= n) (h4 : n <= 4) (h : ∀ v, 0 <= v -> v < 4 -> X v = true -> v < n) : decide (((nfl X).length : Int) = n) = ((List.range 4).all fun v => decide (n <= ((v : Nat) : Int)) || X ((v : Nat) : Int)) := by
 have h0' := h 0
 have h1 := h 1
 have h2 := h 2
 have h3 := h 3
 unfold nfl
 simp only [List.range, List.range.loop, List.flatMap_cons, List.flatMap_nil, List.append_nil, List.length_append, Int.ofNat_zero, Int.natCast_zero, Int.natCast_one, List.all_cons, List.all_nil]
 have e2 : ((2 : Nat) : Int) = 2 := rfl
 have e3 : ((3 : Nat) : Int) = 3 := rfl
 rw [e2, e3]
 generalize X 0 = a0 at *
 generalize X 1 = a1 at *
 generalize X 2 = a2 at *
 generalize X 3 = a3 at *
 have : n = 0 \/ n = 1 \/ n = 2 \/ n = 3 \/ n = 4 := by omega
 rcases this with rfl | rfl | rfl | rfl | rfl <;> revert h0' h1 h2 h3 <;> cases a0 <;> cases a1 <;> cases a2 <;> cases a3 <;> simp
theorem impQ (hl : Big l.length) (hq : FitsQ q) : f115 l q = some (vQuery l q) := by
 unfold f115 vQuery
 rw [impRels hl, bS]
 cases hv : vRels l
 ·simp
 simp only [not_true_eq_false, if_false, impIn, bS, Bool.true_and]
 cases hc : btw q.VariableCount 0 4
 ·simp
 cases hn : btw (q.Atoms.length : Int) 1 3
 ·simp
 have hc' := hc
 unfold btw at hc'; simp only [Bool.and_eq_true, decide_eq_true_eq] at hc'
 have hF := hq.2.2
 have eS := impSet (l := q.Free) (n := q.VariableCount.toNat) (by omega) (by omega)
 rw [Int.toNat_of_nonneg hc'.1] at eS
 simp only [not_true_eq_false, if_false, bS, Bool.false_eq_true, Bool.true_and, eS]
 cases asc q.VariableCount q.Free
 ·simp
 simp only [not_true_eq_false, decide_false, if_false, bS, Bool.false_eq_true, Bool.and_true]
 obtain ⟨o, ho, hQ⟩ := impAtoms hl hv hq hc'
 rw [ho]
 cases o with
 | inr b => obtain ⟨rfl, g⟩ := hQ; rw [g]; simp
 | inl m =>
  obtain ⟨g1, rfl⟩ := hQ
  rw [g1]
  simp only [bS, Bool.true_and]
  congr 1
  refine nfl_count hc'.1 hc'.2 fun v h0 h4 hx => ?_
  unfold occ at hx
  obtain ⟨a, ha, hx⟩ := List.any_eq_true.1 hx
  obtain ⟨i, hi, rfl⟩ := List.mem_iff_getElem.1 ha
  have := List.all_eq_true.1 g1 i (List.mem_range.2 hi)
  rw [vAtom_get hi] at this
  unfold vAt at this
  simp only [Bool.and_eq_true] at this
  have := List.all_eq_true.1 this.2.2.1 v (by simpa using hx)
  unfold btw at this; simp only [Bool.and_eq_true, decide_eq_true_eq] at this
  omega
end
end
section
def uni : List Int -> List Int -> List Int -> Option (List Int)
 | t :: ts, v :: vs, x => if t < 0 then (if -1 - t = v then uni ts vs x else none) else if x.getD t.toNat 0 < 0 then uni ts vs (x.set t.toNat v) else if x.getD t.toNat 0 = v then uni ts vs x else none
 | _, _, x => some x
theorem uni_len : ∀ {ts vs x y : List Int}, uni ts vs x = some y -> y.length = x.length
 | [], _, x, y, h => by simp [uni] at h; rw [h]
 | _ :: _, [], x, y, h => by simp [uni] at h; rw [h]
 | t :: ts, v :: vs, x, y, h => by
  simp only [uni] at h
  split at h
  ·split at h
   ·exact uni_len h
   ·cases h
  ·split at h
   ·rw [uni_len h]; simp
   ·split at h
    ·exact uni_len h
    ·cases h
def step (F : List Fact) (a : Atom) (x : List Int) (i : Nat) : Option (List Int) := match F[i]? with
 | some f => if f.Relation = a.Relation then uni a.Terms f.Values x else none
 | none => none
end
section
def atomsSize (l : List Atom) : Nat := l.length + (l.map (·.Terms.length)).sum
def querySize (q : Query) : Nat := atomsSize q.Atoms + q.Free.length
theorem szAtom {a : Atom} {n : Int} (h : ok a) (h0 : 0 <= n) (h1 : n <= 1048576) : f104 a n = some (lft n a.Terms.length) := by
 unfold f104
 rw [szI h.2.1 h0 h1, bS]
 split
 ·rename_i hlt; rw [lft_bad hlt]
 ·rfl
theorem szAtoms {a : List Atom} {n : Int} (h : ok a) (h0 : 0 <= n) (h1 : n <= 1048576) : f40 a n = some (lft n (atomsSize a)) := by
 obtain ⟨h, h'⟩ := h
 unfold f40 atomsSize
 rw [w64_of (by omega)]
 by_cases hc : n < (a.length : Int)
 ·rw [if_pos (by omega)]
  unfold lft
  rw [if_neg (by omega)]
 ·rw [if_neg (by omega)]
  rw [iter_sz (fun x : Atom => x.Terms.length) a _ (by omega) (fun i hi b hb hb' => by
   simp only [f40_0]
   rw [if_pos (by omega), ix_nat hi, w64_succ (by omega)]
   simp only [bS, szAtom (h' _ (List.getElem_mem hi)) hb (by omega)]
   split <;> rfl) (fun b => by
   simp only [f40_0]
   rw [if_neg (by omega)]), lft_sub hc]
  split
  ·rename_i hlt
   rw [lft_bad hlt]; rfl
  ·rfl
theorem lftq {n : Int} {a b : Nat} (h : ¬ lft n a < 0) : lft (lft n a) b = lft n (a + b) := by
 obtain ⟨e, h'⟩ := lft_pos h
 rw [e, lft_sub (by omega)]
theorem lftq_neg {n : Int} {a b : Nat} (h : lft n a < 0) : lft n (a + b) = -1 := by
 have := lft_neg.1 h
 unfold lft; rw [if_neg (by omega)]
theorem szQ {q : Query} {n : Int} (h : ok q) (h0 : 0 <= n) (h1 : n <= 1048576) : f7 q n = some (lft n (querySize q)) := by
 unfold f7 querySize
 rw [szAtoms h.2.1 h0 h1, bS]
 by_cases c1 : lft n (atomsSize q.Atoms) < 0
 ·rw [if_pos c1, lftq_neg c1]
 ·rw [if_neg c1]
  have b1 := lft_pos c1
  rw [szI h.2.2.1 (by omega) (by omega), bS, lftq c1]
  split
  ·rename_i hlt; rw [lft_bad hlt]
  ·rfl
theorem q_fits {q : Query} (h : querySize q <= 1048576) : FitsQ q := by
 unfold querySize atomsSize at h
 refine ⟨by omega, fun x hx => ?_, by omega⟩
 have := mem_le_sum (s := fun x : Atom => x.Terms.length) hx
 omega
theorem toAtm {a : Atom} (h : a.Terms.length <= 1048576) : f114 a = some a := by
 unfold f114
 rw [toI h]; rfl
theorem toAtoms {a : List Atom} (h : a.length <= 1048576) (h' : ∀ x ∈ a, x.Terms.length <= 1048576) : f49 a = some a := by
 unfold f49
 rw [mkl_ok (by omega) (by omega) (by omega)]
 have : iter (f49_0 a) (List.replicate (a.length : Int).toNat ({ Relation := 0, Terms := [] } : Atom), 0) = some a := iter_copy (by simp) (fun i hi out ho => by
  simp only [f49_0]
  rw [if_pos (by omega), ix_nat hi, ix_nat ho, Int.toNat_natCast, w64_succ (by omega)]
  simp only [bS, toAtm (h' _ (List.getElem_mem hi))]) (fun out => by
  simp only [f49_0]
  rw [if_neg (by omega)])
 simp only [bS, this]
theorem toQ {q : Query} (h : FitsQ q) : f10 q = some q := by
 unfold f10
 rw [toAtoms h.1 h.2.1, bS, toI h.2.2]; rfl
theorem eqAtm {a : Atom} (h : a.Terms.length <= 1048576) : f125 a a = some true := by
 unfold f125
 rw [if_neg (by simp), eqI (by omega)]; simp
theorem eqAtoms {a : List Atom} (h : a.length <= 1048576) (h' : ∀ x ∈ a, x.Terms.length <= 1048576) : f62 a a = some true := by
 unfold f62
 rw [if_neg (by simp)]
 rw [iter_ex (List.range a.length) (fun _ => false) false (fun i hi => by
  simp only [f62_0]
  simp only [List.length_range] at hi
  rw [if_pos (by omega), ix_nat hi, w64_succ (by omega)]
  simp only [bS, eqAtm (h' _ (List.getElem_mem hi))]
  simp) (by
  simp only [f62_0]
  rw [if_neg (by simp)])]
 simp
theorem eqQ {q : Query} (h : FitsQ q) : f14 q q = some true := by
 unfold f14
 have := h.2.2
 rw [if_neg (by simp), eqAtoms h.1 h.2.1, bS, if_neg (by simp), eqI (by omega)]; simp
end
section
end
section
def QM (q : Query) : Prop := q.Atoms.length <= 40 /\ (∀ a ∈ q.Atoms, a.Terms.length <= 40) /\ q.Free.length <= 40
theorem QM.fits {q : Query} (h : QM q) : FitsQ q := ⟨by have := h.1; omega, fun a ha => by have := h.2.1 a ha; omega, by have := h.2.2; omega⟩
end
section
end
section
def sg (a b : Int) : List Relation := [⟨[114], 2, 1⟩, ⟨[115], 2, 1⟩, ⟨[116], 2, a⟩, ⟨[117], 3, b⟩]
variable {a b : Int}
section
variable {l : List Relation} {o : List (List UInt8)} {i : Nat} {w : List UInt8} {v : Int} {az : List Atom} {fr ts : List Int} {r : Int} {j : Nat}
end
end
section
variable {a b : Int}
end
section
theorem copyQ {q : Query} (h : QM q) : f43 q = some q := by
 unfold f43
 have h1 := h.1
 have h3 := h.2.2
 rw [app_fits (by simp; omega), bS, List.nil_append]
 have it := iter_steps (f := f43_0 q) (fun i => (q.VariableCount, q.Atoms.take i, q.Free, (i : Int))) q.Atoms.length (q.VariableCount, q.Atoms, q.Free) (fun i hi => by
  have h2 := h.2.1 _ (List.getElem_mem hi)
  simp only [f43_0]
  rw [if_pos (by omega), ix_nat hi, bS, app_fits (by simp; omega), bS, app_fits (by simp; omega), bS, w64_succ (by omega), take_succ' hi]
  simp) (by
  simp only [f43_0]
  rw [if_neg (by omega), List.take_of_length_le (Nat.le_refl _)])
 simp only [List.take_zero, Int.natCast_zero, Int.ofNat_zero] at it
 erw [it]
 rfl
end
section
def SigsG (l : List Relation) : Prop := ∃ a b : Int, l = sg a b /\ (a = 0 \/ a = 1 \/ a = 2) /\ (b = 1 \/ b = 2)
theorem SigsG.small {l : List Relation} (h : SigsG l) : l.length = 4 /\ ∀ x ∈ l, x.Name.length <= 100 := by
 obtain ⟨a, b, rfl, _⟩ := h
 refine ⟨rfl, fun x hx => ?_⟩
 simp only [sg, List.mem_cons, List.not_mem_nil, or_false] at hx
 rcases hx with rfl | rfl | rfl | rfl <;> simp
def QB (q : Query) : Prop := q.Atoms.length <= 100 /\ (∀ a ∈ q.Atoms, a.Terms.length <= 100) /\ q.Free.length <= 100
theorem QB.fits {q : Query} (h : QB q) : FitsQ q := ⟨by have := h.1; omega, fun a ha => by have := h.2.1 a ha; omega, by have := h.2.2; omega⟩
end
section
variable {n : Nat} {sk : Nat -> Nat -> Bool}
theorem blk_mem {i x : Nat} {j : Int} : j ∈ blk sk i x ↔ ∃ k : Nat, k < x /\ j = k /\ sk i k = true := by
 unfold blk
 rw [List.mem_flatMap]
 constructor
 ·rintro ⟨k, hk, h⟩
  split at h
  ·rename_i c
   exact ⟨k, List.mem_range.1 hk, by simpa using h, c⟩
  ·cases h
 ·rintro ⟨k, h1, h2, h3⟩
  exact ⟨k, List.mem_range.2 h1, by rw [if_pos h3]; simp [h2]⟩
theorem mem_blks {y x : Nat} {B : List Int} : B ∈ blks sk y x ↔ ∃ s, s < y /\ start sk s = true /\ B = blk sk s x := by
 unfold blks
 rw [List.mem_flatMap]
 constructor
 ·rintro ⟨k, hk, h⟩
  split at h
  ·rename_i c
   exact ⟨k, List.mem_range.1 hk, c, by simpa using h⟩
  ·cases h
 ·rintro ⟨k, h1, h2, h3⟩
  exact ⟨k, List.mem_range.2 h1, by rw [if_pos h2]; simp [h3]⟩
end
section
def Sm (d : Database) : Prop := d.Relations.length <= 4 /\ d.Facts.length <= 13 /\ ∀ x ∈ d.Facts, x.Values.length <= 4
theorem Sm.fits {d : Database} (h : Sm d) : Fits d := ⟨by have := h.1; omega, by have := h.2.1; omega, fun x hx => by have := h.2.2 x hx; omega⟩
end
section
def none4 : Int -> Bool := fun _ => false
def bl (n : Nat) (X : Int -> Bool) : List Bool := (List.range n).map fun v => X ((v : Nat) : Int)
theorem bl_len {n : Nat} {X : Int -> Bool} : (bl n X).length = n := by simp [bl]
theorem bl_get {n : Nat} {X : Int -> Bool} {v : Nat} (h : v < n) : ix (bl n X) ((v : Nat) : Int) = some (X ((v : Nat) : Int)) := by
 rw [ix_nat (by rw [bl_len]; exact h)]; simp [bl]
theorem bl_congr {n : Nat} {X Y : Int -> Bool} (h : ∀ v : Nat, v < n -> X ((v : Nat) : Int) = Y ((v : Nat) : Int)) : bl n X = bl n Y := by
 unfold bl
 refine List.map_congr_left fun v hv => h v (List.mem_range.1 hv)
theorem bl_set {n : Nat} {X : Int -> Bool} {b : Nat} : (bl n X).set b true = bl n (fun v => X v || decide (v = ((b : Nat) : Int))) := by
 apply List.ext_getElem
 ·simp [bl]
 ·intro i h1 h2
  rw [List.getElem_set]
  simp only [bl, List.getElem_map, List.getElem_range]
  by_cases e : b = i
  ·subst e; simp
  ·rw [if_neg e]
   have : ¬ ((i : Nat) : Int) = ((b : Nat) : Int) := by omega
   simp [this]
theorem bl_none {n : Nat} : List.replicate n false = bl n none4 := by
 unfold bl none4
 apply List.ext_getElem
 ·simp
 ·intro i h1 h2; simp
end
section
section
variable {l : List Relation} {q : Query}
structure VQy (l : List Relation) (q : Query) : Prop where
 big : Big l.length
 fits : FitsQ q
 rels : vRels l = true
 n1 : 1 <= q.Atoms.length
 n3 : q.Atoms.length <= 3
 terms : ∀ a ∈ q.Atoms, a.Terms.length <= 3
 free : In4 q.Free.contains
 free4 : q.Free.length <= 4
theorem asc_len4 {n : Int} {f : List Int} (h : asc n f = true) (hn : n <= 4) : In4 f.contains /\ f.length <= 4 := by
 have hg := h
 unfold asc at hg
 have e : ∀ i (hi : i < f.length), (i : Int) <= f[i] /\ f[i] <= n - 1 := by
  intro i
  induction i with
  | zero =>
   intro hi
   have := (good_of hg hi).1
   unfold btw at this; simp only [Bool.and_eq_true, decide_eq_true_eq] at this
   omega
  | succ i ih =>
   intro hi
   have := good_of hg hi
   have g1 := this.1
   have g2 := this.2 (by omega)
   unfold btw at g1; simp only [Bool.and_eq_true, decide_eq_true_eq, Nat.add_sub_cancel] at g1 g2
   have := ih (by omega)
   omega
 refine ⟨fun v hv => ?_, ?_⟩
 ·rw [List.contains_iff_mem] at hv
  obtain ⟨i, hi, rfl⟩ := List.mem_iff_getElem.1 hv
  have := e i hi
  unfold btw; simp; omega
 ·apply Classical.byContradiction
  intro hc
  have := e (f.length - 1) (by omega)
  omega
theorem vq_of (hl : Big l.length) (hq : FitsQ q) (h : vQuery l q = true) : VQy l q := by
 unfold vQuery at h
 simp only [Bool.and_eq_true] at h
 obtain ⟨h1, h2, h3, h4, _, h5⟩ := h
 unfold btw at h2 h3; simp only [Bool.and_eq_true, decide_eq_true_eq] at h2 h3
 obtain ⟨f1, f2⟩ := asc_len4 h5 (by omega)
 refine ⟨hl, hq, h1, by omega, by omega, fun a ha => ?_, f1, f2⟩
 obtain ⟨i, hi, rfl⟩ := List.mem_iff_getElem.1 ha
 have := List.all_eq_true.1 h4 i (List.mem_range.2 hi)
 rw [vAtom_get hi] at this
 unfold vAt at this
 simp only [Bool.and_eq_true, decide_eq_true_eq] at this
 have := vRels_arity h1 this.1
 omega
theorem kvars_in {a : Atom} : In4 (kvars l a).contains := by
 unfold kvars; split
 ·rw [avars_nfl]; exact nfl_in
 ·intro v hv; simp at hv
theorem avars_in {t : List Int} : In4 (avars t).contains := nfl_in
def atomAt (q : Query) (i : Nat) : Atom := q.Atoms.getD i default
theorem atom_get {i : Nat} (h : i < q.Atoms.length) : atomAt q i = q.Atoms[i] := by
 unfold atomAt; rw [zD, zE h]; rfl
def ruleA (l : List Relation) (q : Query) (skip : Int) (i : Nat) : Rule := ⟨fun X => decide (((i : Nat) : Int) ≠ skip) && (kvars l (atomAt q i)).all X, (avars (atomAt q i).Terms).contains⟩
def rulesA (l : List Relation) (q : Query) (skip : Int) : List Rule := (List.range q.Atoms.length).map (ruleA l q skip)
theorem rulesA_len {skip : Int} : (rulesA l q skip).length = q.Atoms.length := by simp [rulesA]
theorem rulesA_get {skip : Int} {i : Nat} (h : i < (rulesA l q skip).length) : (rulesA l q skip)[i] = ruleA l q skip i := by simp [rulesA]
theorem rulesA_mono {skip : Int} : ∀ r ∈ rulesA l q skip, r.mono := by
 intro r hr
 unfold rulesA at hr
 obtain ⟨i, _, rfl⟩ := List.mem_map.1 hr
 intro X Y h hc
 simp only [ruleA, Bool.and_eq_true] at hc ⊢
 exact ⟨hc.1, List.all_eq_true.2 fun v hv => h v (List.all_eq_true.1 hc.2 v hv)⟩
theorem rulesA_in {skip : Int} : ∀ r ∈ rulesA l q skip, In4 r.a := by
 intro r hr
 unfold rulesA at hr
 obtain ⟨i, _, rfl⟩ := List.mem_map.1 hr
 exact avars_in
def closX (l : List Relation) (q : Query) (skip : Int) (X : Int -> Bool) : Int -> Bool := cl (rulesA l q skip) X
theorem closX_in {skip : Int} {X : Int -> Bool} (h : In4 X) : In4 (closX l q skip X) := passes_in h rulesA_in
def setOf (q : Query) (vars : List Int) : Int -> Bool := (nfl (cupX vars.contains q.Free.contains)).contains
theorem setOf_in {vars : List Int} : In4 (setOf q vars) := nfl_in
theorem nfl_setOf {vars : List Int} : nfl (setOf q vars) = nfl (cupX vars.contains q.Free.contains) := nfl_idem
variable (V : VQy l q)
include V
theorem small {i : Nat} (hi : i < q.Atoms.length) : q.Atoms[i].Terms.length <= 3 := V.terms _ (List.getElem_mem hi)
theorem roundSpec {skip : Int} {X : Int -> Bool} (hX : In4 X) : iter (f205_1 l q skip) (nfl X, 0) = some (nfl (pass (rulesA l q skip) X)) := by
 have := iter_steps (f := f205_1 l q skip) (fun i => (nfl (pass ((rulesA l q skip).take i) X), (i : Int))) q.Atoms.length (nfl (pass (rulesA l q skip) X)) (fun i hi => by
  have hl := rulesA_len (l := l) (q := q) (skip := skip)
  have n3 := V.n3
  rw [pass_take (by omega), rulesA_get]
  have hin : In4 (pass ((rulesA l q skip).take i) X) := pass_in hX fun r hr => rulesA_in r (List.mem_of_mem_take hr)
  generalize pass ((rulesA l q skip).take i) X = Y at hin
  have hs := small V hi
  have k4 := kvars_len (l := l) (a := q.Atoms[i])
  have a4 := avars_len (t := q.Atoms[i].Terms)
  have y4 := nfl_len (X := Y)
  simp only [f205_1]
  rw [if_pos (by omega), ix_nat hi, w64_succ (by omega)]
  unfold fire ruleA
  rw [atom_get hi]
  by_cases c : ((i : Nat) : Int) ≠ skip
  ·rw [if_pos c]
   simp only [c, decide_true, Bool.true_and, bS]
   rw [specKV V.big (by omega), bS, has14 (by omega) (by omega), bS, nfl_has hin, specVars (by omega)]
   cases (kvars l q.Atoms[i]).all Y
   ·simp
   ·simp only [if_true, bS]
    rw [bothS (by omega) (by omega), nfl_has hin]; simp [c]
  ·rw [if_neg c]
   simp [c]) (by
  simp only [f205_1]
  rw [if_neg (by omega), List.take_of_length_le (by rw [rulesA_len]; omega)])
 simp only [List.take_zero, pass, List.foldl_nil, Int.natCast_zero, Int.ofNat_zero] at this
 exact this
theorem roundImp {skip : Int} {X : Int -> Bool} (hX : In4 X) : iter (f208_1 l q.Atoms skip) (nfl X, 0) = some (nfl (pass (rulesA l q skip) X)) := by
 have := iter_steps (f := f208_1 l q.Atoms skip) (fun i => (nfl (pass ((rulesA l q skip).take i) X), (i : Int))) q.Atoms.length (nfl (pass (rulesA l q skip) X)) (fun i hi => by
  have hl := rulesA_len (l := l) (q := q) (skip := skip)
  have n3 := V.n3
  rw [pass_take (by omega), rulesA_get]
  have hin : In4 (pass ((rulesA l q skip).take i) X) := pass_in hX fun r hr => rulesA_in r (List.mem_of_mem_take hr)
  generalize pass ((rulesA l q skip).take i) X = Y at hin
  have hs := small V hi
  have k4 := kvars_len (l := l) (a := q.Atoms[i])
  have a4 := avars_len (t := q.Atoms[i].Terms)
  have y4 := nfl_len (X := Y)
  simp only [f208_1]
  rw [if_pos (by omega), ix_nat hi, w64_succ (by omega)]
  unfold fire ruleA
  rw [atom_get hi]
  by_cases c : ((i : Nat) : Int) ≠ skip
  ·rw [bS, if_pos c]
   simp only [c, decide_true, Bool.true_and, bS]
   rw [impKV V.big (by omega), bS, subset (by omega) (by omega), bS, nfl_has hin, impVars (by omega)]
   have e : (kvars l q.Atoms[i]).all Y = (kvars l q.Atoms[i]).all Y := rfl
   cases (kvars l q.Atoms[i]).all Y
   ·simp
   ·simp only [if_true, bS]
    rw [unionI (by omega) nfl_in avars_in, nfl_has hin]; simp [c]
  ·rw [bS, if_neg c]
   simp [c]) (by
  simp only [f208_1]
  rw [if_neg (by omega), List.take_of_length_le (by rw [rulesA_len]; omega)])
 simp only [List.take_zero, pass, List.foldl_nil, Int.natCast_zero, Int.ofNat_zero] at this
 exact this
theorem closSpec {skip : Int} {vars : List Int} (hv : vQuery l q = true) (hb : Big vars.length) : f205 l q skip vars = some (nfl (closX l q skip (setOf q vars))) := by
 unfold f205
 have f4 := V.free4
 rw [specQ V.big V.fits, hv, bS, if_neg (by simp), bothS hb (by omega), bS, <- nfl_setOf]
 have := iter_steps (f := f205_0 l q skip) (fun i => (nfl (passes (rulesA l q skip) i (setOf q vars)), (i : Int))) q.Atoms.length (nfl (closX l q skip (setOf q vars))) (fun i hi => by
  have n3 := V.n3
  simp only [f205_0]
  rw [if_pos (by omega), roundSpec V (passes_in setOf_in rulesA_in), bS, w64_succ (by omega)]; rfl) (by
  simp only [f205_0]
  rw [if_neg (by omega)]
  unfold closX cl
  rw [rulesA_len])
 simp only [passes, Int.natCast_zero, Int.ofNat_zero] at this
 erw [this]; rfl
theorem closImp {skip : Int} {vars : List Int} (hb : vars.length <= 12) (hi : In4 vars.contains) : f208 l q.Atoms skip vars = some (nfl (closX l q skip vars.contains)) := by
 unfold f208
 rw [unionI (by rw [List.length_nil]; omega) hi (fun v hv => by simp at hv), bS]
 have e : nfl (cupX vars.contains ([] : List Int).contains) = nfl vars.contains := nfl_congr fun v _ => by simp [cupX]
 rw [e]
 refine Ens.eq (Q := fun r => r = nfl (closX l q skip vars.contains)) (Ens.bind (Q := fun r => r = nfl (closX l q skip vars.contains)) ?_ fun a h => Ens.of h) _ fun _ h => h
 refine iter_up (f := f208_0 l q.Atoms skip) 5 (fun j s => s = nfl (passes (rulesA l q skip) j vars.contains) /\ j <= s.length) _ (fun j s hj ⟨h1, h2⟩ => ?_) (fun s ⟨h1, h2⟩ => ?_) _ ⟨rfl, by omega⟩
 ·subst h1
  have hin := passes_in (n := j) hi (rulesA_in (l := l) (q := q) (skip := skip))
  simp only [f208_0]
  rw [roundImp V hin, bS]
  have hle := pass_le (L := rulesA l q skip) (X := passes (rulesA l q skip) j vars.contains)
  by_cases c : (nfl (pass (rulesA l q skip) (passes (rulesA l q skip) j vars.contains))).length <= (nfl (passes (rulesA l q skip) j vars.contains)).length
  ·have e := nfl_len_lt hle c (pass_in hin rulesA_in)
   rw [<- e, if_pos rfl]
   exact ⟨_, rfl, by rw [passes_stop rulesA_mono e.symm]; rfl⟩
  ·rw [if_neg (by omega)]
   exact ⟨_, rfl, rfl, by omega⟩
 ·have := nfl_len (X := passes (rulesA l q skip) 5 vars.contains)
  rw [<- h1] at this
  omega
end
end
section
section
variable {l : List Relation} {q : Query}
def plus (l : List Relation) (q : Query) (k : Nat) : Int -> Bool := closX l q (k : Int) (setOf q (kvars l (atomAt q k)))
theorem plus_in {k : Nat} : In4 (plus l q k) := closX_in setOf_in
def outer (l : List Relation) (q : Query) (k i : Nat) : Int -> Bool := fun v => (avars (atomAt q i).Terms).contains v && !plus l q k v
theorem outer_in {k i : Nat} : In4 (outer l q k i) := fun v hv => by
 unfold outer at hv; simp only [Bool.and_eq_true] at hv
 exact avars_in v hv.1
def ruleS (l : List Relation) (q : Query) (k i : Nat) : Rule := ⟨fun X => decide (i = k) || (avars (atomAt q i).Terms).any X, outer l q k i⟩
def rulesS (l : List Relation) (q : Query) (k : Nat) : List Rule := (List.range q.Atoms.length).map (ruleS l q k)
def ruleI (l : List Relation) (q : Query) (k i : Nat) : Rule := ⟨fun X => (nfl (outer l q k i)).any X, outer l q k i⟩
def rulesI (l : List Relation) (q : Query) (k : Nat) : List Rule := (List.range q.Atoms.length).map (ruleI l q k)
theorem rulesS_len {k : Nat} : (rulesS l q k).length = q.Atoms.length := by simp [rulesS]
theorem rulesI_len {k : Nat} : (rulesI l q k).length = q.Atoms.length := by simp [rulesI]
theorem rulesS_get {k i : Nat} (h : i < (rulesS l q k).length) : (rulesS l q k)[i] = ruleS l q k i := by simp [rulesS]
theorem rulesI_get {k i : Nat} (h : i < (rulesI l q k).length) : (rulesI l q k)[i] = ruleI l q k i := by simp [rulesI]
theorem any_le {t : List Int} {X Y : Int -> Bool} (h : Le4 X Y) (ha : t.any X = true) : t.any Y = true := by
 obtain ⟨v, hv, hx⟩ := List.any_eq_true.1 ha
 exact List.any_eq_true.2 ⟨v, hv, h v hx⟩
theorem rulesS_mono {k : Nat} : ∀ r ∈ rulesS l q k, r.mono := by
 intro r hr
 obtain ⟨i, _, rfl⟩ := List.mem_map.1 hr
 intro X Y h hc
 simp only [ruleS, Bool.or_eq_true] at hc ⊢
 exact hc.imp id (any_le h)
theorem rulesI_mono {k : Nat} : ∀ r ∈ rulesI l q k, r.mono := by
 intro r hr
 obtain ⟨i, _, rfl⟩ := List.mem_map.1 hr
 intro X Y h hc
 exact any_le h hc
theorem rulesS_in {k : Nat} : ∀ r ∈ rulesS l q k, In4 r.a := by
 intro r hr
 obtain ⟨i, _, rfl⟩ := List.mem_map.1 hr
 exact outer_in
theorem rulesI_in {k : Nat} : ∀ r ∈ rulesI l q k, In4 r.a := by
 intro r hr
 obtain ⟨i, _, rfl⟩ := List.mem_map.1 hr
 exact outer_in
theorem none4_in : In4 none4 := fun v hv => by cases hv
def reach (l : List Relation) (q : Query) (k : Nat) : Int -> Bool := cl (rulesS l q k) none4
theorem reach_in {k : Nat} : In4 (reach l q k) := passes_in none4_in rulesS_in
theorem cl_clo {L : List Rule} (hm : ∀ r ∈ L, r.mono) {X : Int -> Bool} : Clo L (cl L X) := passes_clo hm (Nat.le_refl _)
theorem reach_imp {k : Nat} (hk : k < q.Atoms.length) : cl (rulesI l q k) (outer l q k k) = reach l q k := by
 have hno : Le4 (cl (rulesI l q k) (outer l q k k)) (fun v => !plus l q k v) := passes_least rulesI_mono (fun r hr hc v hv => by
  obtain ⟨i, _, rfl⟩ := List.mem_map.1 hr
  simp only [ruleI, outer, Bool.and_eq_true] at hv
  exact hv.2) (fun v hv => by
  simp only [outer, Bool.and_eq_true] at hv; exact hv.2)
 refine cl_uniq rulesS_mono ?_ (fun v hv => by cases hv) (fun Z hz _ => ?_)
 ·intro r hr hc
  obtain ⟨i, hi, rfl⟩ := List.mem_map.1 hr
  simp only [ruleS, Bool.or_eq_true, decide_eq_true_eq] at hc
  rcases hc with rfl | hc
  ·exact passes_le
  ·refine cl_clo (L := rulesI l q k) rulesI_mono (X := outer l q k k) (ruleI l q k i) (List.mem_map.2 ⟨i, hi, rfl⟩) ?_
   obtain ⟨v, hv, hx⟩ := List.any_eq_true.1 hc
   have h1 := hno v hx
   have hv' : (avars (atomAt q i).Terms).contains v = true := by rw [List.contains_iff_mem]; exact hv
   refine List.any_eq_true.2 ⟨v, nfl_mem.2 ⟨?_, avars_in v hv'⟩, hx⟩
   unfold outer; rw [hv']; exact h1
 ·refine passes_least rulesI_mono (fun r hr hc => ?_) ?_
  ·obtain ⟨i, hi, rfl⟩ := List.mem_map.1 hr
   refine hz (ruleS l q k i) (List.mem_map.2 ⟨i, hi, rfl⟩) ?_
   simp only [ruleS, Bool.or_eq_true]
   obtain ⟨v, hv, hx⟩ := List.any_eq_true.1 hc
   have hv := (nfl_mem.1 hv).1
   unfold outer at hv; simp only [Bool.and_eq_true] at hv
   exact .inr (List.any_eq_true.2 ⟨v, by simpa using hv.1, hx⟩)
  ·exact hz (ruleS l q k k) (List.mem_map.2 ⟨k, List.mem_range.2 hk, rfl⟩) (by simp [ruleS])
theorem fireS {k i : Nat} {Y : Int -> Bool} : fire Y (ruleS l q k i) = if (decide (i = k) || (avars (atomAt q i).Terms).any Y) = true then cupX Y (outer l q k i) else Y := rfl
theorem fireI {k i : Nat} {Y : Int -> Bool} : fire Y (ruleI l q k i) = if (nfl (outer l q k i)).any Y = true then cupX Y (outer l q k i) else Y := rfl
theorem keyClos {k : Nat} (V : VQy l q) (hv : vQuery l q = true) (hk : k < q.Atoms.length) : f204 l q (k : Int) = some (nfl (plus l q k)) := by
 unfold f204
 have n3 := V.n3
 have hb : btw (k : Int) 0 (w64 ((q.Atoms.length : Int) - 1)) = true := by rw [w64_of (by omega)]; unfold btw; simp; omega
 rw [specQ V.big V.fits, hv, bS, if_neg (by simp), specIn, hb]
 simp only [bS, not_true_eq_false, decide_false, Bool.false_eq_true, if_false]
 have hs := V.terms _ (List.getElem_mem hk)
 have k4 := kvars_len (l := l) (a := q.Atoms[k])
 rw [ix_nat hk, bS, specKV V.big (by omega), bS, closSpec V hv (by omega)]
 unfold plus; rw [atom_get hk]; rfl
theorem attRound {k : Nat} {X : Int -> Bool} (V : VQy l q) (hk : k < q.Atoms.length) (hX : In4 X) : iter (f161_1 q (k : Int) (nfl (plus l q k))) (nfl X, 0) = some (nfl (pass (rulesS l q k) X)) := by
 have := iter_steps (f := f161_1 q (k : Int) (nfl (plus l q k))) (fun i => (nfl (pass ((rulesS l q k).take i) X), (i : Int))) q.Atoms.length (nfl (pass (rulesS l q k) X)) (fun i hi => by
  have hl := rulesS_len (l := l) (q := q) (k := k)
  have n3 := V.n3
  rw [pass_take (by omega), rulesS_get]
  have hin : In4 (pass ((rulesS l q k).take i) X) := pass_in hX fun r hr => rulesS_in r (List.mem_of_mem_take hr)
  generalize pass ((rulesS l q k).take i) X = Y at hin
  have hs := V.terms _ (List.getElem_mem hi)
  have a4 := avars_len (t := q.Atoms[i].Terms)
  have y4 := nfl_len (X := Y)
  have p4 := nfl_len (X := plus l q k)
  simp only [f161_1]
  rw [if_pos (by omega), ix_nat hi, w64_succ (by omega), bS, specVars (by omega), bS]
  rw [fireS]
  unfold outer
  rw [atom_get hi]
  generalize hA : avars q.Atoms[i].Terms = A at a4
  have inA : In4 A.contains := by rw [<- hA]; exact avars_in
  rw [iter_foldl A (fun b v => b || Y v) id (fun j hj b => by
   simp only [f161_2]
   rw [if_pos (by omega), ix_nat hj, w64_succ (by omega), bS, hasI (by omega), nfl_has hin]
   cases b <;> simp) (fun b => by
   simp only [f161_2]
   rw [if_neg (by omega)]; rfl), foldl_any, bS]
  dsimp only [id]
  have ek : decide (((i : Nat) : Int) = (k : Int)) = decide (i = k) := decide_eq_decide.2 ⟨fun h => by omega, fun h => by omega⟩
  rw [ek]
  cases hc : (decide (i = k) || A.any Y)
  ·have : iter (f161_3 (nfl (plus l q k)) A false) (nfl Y, 0) = some (nfl Y) := iter_steps (fun _ => (nfl Y, 0)) 0 _ (fun i hi => by omega) (by
    simp only [f161_3]
    by_cases c : (0 : Int) < A.length
    ·rw [if_pos c]; rfl
    ·rw [if_neg c]; rfl)
   rw [this]; simp
  ·have := iter_steps (f := f161_3 (nfl (plus l q k)) A true) (fun j => (nfl (fun v => Y v || ((A.take j).contains v && !plus l q k v)), (j : Int))) A.length (nfl (cupX Y fun v => A.contains v && !plus l q k v)) (fun j hj => by
    have z4 := nfl_len (X := fun v => Y v || ((A.take j).contains v && !plus l q k v))
    have zin : In4 (fun v => Y v || ((A.take j).contains v && !plus l q k v)) := fun v hv => by
     simp only [Bool.or_eq_true, Bool.and_eq_true] at hv
     rcases hv with hv | hv
     ·exact hin v hv
     ·exact inA v (by rw [List.contains_iff_mem] at hv ⊢; exact List.mem_of_mem_take hv.1)
    simp only [f161_3]
    rw [if_pos (by omega), bS, if_pos rfl, ix_nat hj, bS, hasI (by omega), nfl_has plus_in, bS, w64_succ (by omega)]
    cases hp : plus l q k A[j]
    ·simp only [Bool.false_eq_true, not_false_eq_true, if_true]
     rw [bothS (by omega) (by simp), nfl_has zin]
     simp only [bS]
     congr 3
     refine nfl_congr fun v _ => ?_
     unfold cupX
     rw [has_succ hj]
     by_cases e : v = A[j]
     ·subst e; simp [hp]
     ·simp [e]
    ·simp only [not_true_eq_false, if_false, bS]
     congr 3
     refine nfl_congr fun v _ => ?_
     rw [has_succ hj]
     by_cases e : v = A[j]
     ·subst e; simp [hp]
     ·simp [e]) (by
    simp only [f161_3]
    rw [if_neg (by omega), List.take_of_length_le (Nat.le_refl _)]; rfl)
   have e0 : nfl (fun v => Y v || ((A.take 0).contains v && !plus l q k v)) = nfl Y := nfl_congr fun v _ => by simp
   simp only [e0, Int.natCast_zero, Int.ofNat_zero] at this
   rw [this]; simp) (by
  simp only [f161_1]
  rw [if_neg (by omega), List.take_of_length_le (by rw [rulesS_len]; omega)])
 simp only [List.take_zero, pass, List.foldl_nil, Int.natCast_zero, Int.ofNat_zero] at this
 exact this
theorem attSpec {k : Nat} (V : VQy l q) (hv : vQuery l q = true) (hk : k < q.Atoms.length) : f161 l q (k : Int) = some (nfl (reach l q k)) := by
 unfold f161
 have n3 := V.n3
 have hb : btw (k : Int) 0 (w64 ((q.Atoms.length : Int) - 1)) = true := by rw [w64_of (by omega)]; unfold btw; simp; omega
 rw [specQ V.big V.fits, hv, bS, if_neg (by simp), specIn, hb]
 simp only [bS, not_true_eq_false, decide_false, Bool.false_eq_true, if_false]
 rw [keyClos V hv hk, bS]
 have := iter_steps (f := f161_0 q (k : Int) (nfl (plus l q k))) (fun i => (nfl (passes (rulesS l q k) i none4), (i : Int))) (q.Atoms.length + 1) (nfl (reach l q k)) (fun i hi => by
  simp only [f161_0]
  rw [if_pos (by omega), attRound V hk (passes_in none4_in rulesS_in), bS, w64_succ (by omega)]; rfl) (by
  simp only [f161_0]
  rw [if_neg (by omega), passes_cl rulesS_mono (by rw [rulesS_len]; omega)]; rfl)
 simp only [passes, Int.natCast_zero, Int.ofNat_zero] at this
 have e0 : nfl none4 = [] := nfl_nil
 rw [e0] at this
 rw [this]; rfl
theorem withoutI {a b : List Int} (ha : a.length <= 1048576) (hb : Big b.length) : f56 a b = some (a.filter fun v => !b.contains v) := by
 unfold f56
 rw [iter_flat a (fun v => if (!b.contains v) = true then [v] else []) id (fun i hi => by
  have el : ((a.take i).flatMap fun v => if (!b.contains v) = true then [v] else []).length <= i := by
   have := take_flat_le (l := a) (i := i) (g := fun v => if (!b.contains v) = true then [v] else []) (m := 1) (fun a => by split <;> simp)
   omega
  generalize ((a.take i).flatMap fun v => if (!b.contains v) = true then [v] else []) = out at el ⊢
  simp only [f56_0]
  rw [if_pos (by omega), ix_nat hi, bS, containsI hb, bS, w64_succ (by omega)]
  cases b.contains a[i]
  ·simp only [Bool.false_eq_true, not_false_eq_true, if_true, Bool.not_false]
   rw [app_fits (by simp; omega)]; rfl
  ·simp) (by
  simp only [f56_0]
  rw [if_neg (by omega)]; rfl)]
 rw [bS]
 congr 1
 dsimp only [id]
 clear ha
 induction a with
 | nil => rfl
 | cons x a ih =>
  rw [List.flatMap_cons, ih, List.filter_cons]
  split <;> simp
theorem nfl_filter {X : Int -> Bool} {p : Int -> Bool} : (nfl X).filter p = nfl (fun v => X v && p v) := by
 refine up_ext (nfl_up.filter _) nfl_up fun y => ?_
 rw [List.mem_filter, nfl_mem, nfl_mem, Bool.and_eq_true]
 exact ⟨fun h => ⟨⟨h.1.1, h.2⟩, h.1.2⟩, fun h => ⟨⟨h.1.1, h.2⟩, h.1.2⟩⟩
theorem filter_lt {a : List Int} {p : Int -> Bool} : decide (((a.filter fun v => !p v).length : Int) < a.length) = a.any p := by
 rw [Bool.eq_iff_iff, decide_eq_true_eq]
 rw [show (((a.filter fun v => !p v).length : Int) < a.length) ↔ (a.filter fun v => !p v).length < a.length by omega]
 rw [List.length_filter_lt_length_iff_exists, List.any_eq_true]
 constructor
 ·rintro ⟨v, h1, h2⟩; exact ⟨v, h1, by simpa using h2⟩
 ·rintro ⟨v, h1, h2⟩; exact ⟨v, h1, by simpa using h2⟩
theorem outer_nfl {k i : Nat} : (avars (atomAt q i).Terms).filter (fun v => !plus l q k v) = nfl (outer l q k i) := by
 rw [avars_nfl, nfl_filter]
 refine nfl_congr fun v hv => ?_
 unfold outer
 congr 1
 rw [Bool.eq_iff_iff, List.contains_iff_mem, List.contains_iff_mem, avars_nfl, nfl_mem, List.contains_iff_mem]
 exact ⟨fun h => ⟨h, hv⟩, fun h => h.1⟩
theorem attRoundI {k : Nat} {X : Int -> Bool} (V : VQy l q) (hX : In4 X) : iter (f168_1 q.Atoms (nfl (plus l q k))) (nfl X, 0) = some (nfl (pass (rulesI l q k) X)) := by
 have := iter_steps (f := f168_1 q.Atoms (nfl (plus l q k))) (fun i => (nfl (pass ((rulesI l q k).take i) X), (i : Int))) q.Atoms.length (nfl (pass (rulesI l q k) X)) (fun i hi => by
  have hl := rulesI_len (l := l) (q := q) (k := k)
  have n3 := V.n3
  rw [pass_take (by omega), rulesI_get]
  have hin : In4 (pass ((rulesI l q k).take i) X) := pass_in hX fun r hr => rulesI_in r (List.mem_of_mem_take hr)
  generalize pass ((rulesI l q k).take i) X = Y at hin
  have hs := V.terms _ (List.getElem_mem hi)
  have a4 := avars_len (t := q.Atoms[i].Terms)
  have y4 := nfl_len (X := Y)
  have p4 := nfl_len (X := plus l q k)
  have o4 := nfl_len (X := outer l q k i)
  simp only [f168_1]
  have eo := outer_nfl (l := l) (q := q) (k := k) (i := i)
  rw [atom_get hi] at eo
  rw [if_pos (by omega), ix_nat hi, w64_succ (by omega), bS, impVars (by omega), bS, withoutI (by omega) (by omega), nfl_has plus_in, eo, bS, withoutI (by omega) (by omega), nfl_has hin, bS]
  have hlt := filter_lt (a := nfl (outer l q k i)) (p := Y)
  rw [fireI]
  cases hc : (nfl (outer l q k i)).any Y
  ·rw [hc] at hlt
   rw [if_neg (by simpa using hlt)]; rfl
  ·rw [hc] at hlt
   rw [if_pos (by simpa using hlt), unionI (by omega) nfl_in nfl_in, nfl_has hin, nfl_has outer_in]; rfl) (by
  simp only [f168_1]
  rw [if_neg (by omega), List.take_of_length_le (by rw [rulesI_len]; omega)])
 simp only [List.take_zero, pass, List.foldl_nil, Int.natCast_zero, Int.ofNat_zero] at this
 exact this
theorem attImp {k : Nat} (V : VQy l q) (hk : k < q.Atoms.length) : f168 l q.Atoms q.Free (k : Int) = some (nfl (reach l q k)) := by
 unfold f168
 have n3 := V.n3
 have f4 := V.free4
 have hs := V.terms _ (List.getElem_mem hk)
 have k4 := kvars_len (l := l) (a := q.Atoms[k])
 have a4 := avars_len (t := q.Atoms[k].Terms)
 have p4 := nfl_len (X := plus l q k)
 have ef : [q.Free, kvars l q.Atoms[k]].flatten = q.Free ++ kvars l q.Atoms[k] := by simp
 rw [ix_nat hk, bS, impKV V.big (by omega), bS, concatN (by simp) (by rw [ef, List.length_append]; omega), ef, bS]
 rw [closImp V (by rw [List.length_append]; omega) (fun v hv => by
  rw [List.contains_iff_mem, List.mem_append] at hv
  rcases hv with hv | hv
  ·exact V.free v (by rw [List.contains_iff_mem]; exact hv)
  ·exact kvars_in v (by rw [List.contains_iff_mem]; exact hv))]
 have e : (q.Free ++ kvars l q.Atoms[k]).contains = setOf q (kvars l (atomAt q k)) := by
  funext v
  unfold setOf
  rw [atom_get hk, Bool.eq_iff_iff, List.contains_iff_mem, List.mem_append, List.contains_iff_mem, nfl_mem]
  unfold cupX
  simp only [Bool.or_eq_true, List.contains_iff_mem]
  constructor
  ·rintro (h | h)
   ·exact ⟨.inr h, V.free v (by rw [List.contains_iff_mem]; exact h)⟩
   ·exact ⟨.inl h, kvars_in v (by rw [List.contains_iff_mem]; exact h)⟩
  ·rintro ⟨h | h, _⟩
   ·exact .inr h
   ·exact .inl h
 rw [e]
 change ((some (nfl (plus l q k))).bind _) = _
 have eo := outer_nfl (l := l) (q := q) (k := k) (i := k)
 rw [atom_get hk] at eo
 rw [bS, impVars (by omega), bS, withoutI (by omega) (by omega), nfl_has plus_in, eo, bS, <- reach_imp hk]
 refine Ens.eq (Q := fun r => r = nfl (cl (rulesI l q k) (outer l q k k))) (Ens.bind (Q := fun r => r = nfl (cl (rulesI l q k) (outer l q k k))) ?_ fun a h => Ens.of h) _ fun _ h => h
 refine iter_up (f := f168_0 q.Atoms (nfl (plus l q k))) 5 (fun j s => s = nfl (passes (rulesI l q k) j (outer l q k k)) /\ j <= s.length) _ (fun j s hj ⟨h1, h2⟩ => ?_) (fun s ⟨h1, h2⟩ => ?_) _ ⟨rfl, by omega⟩
 ·subst h1
  have hin := passes_in (n := j) (outer_in (l := l) (q := q) (k := k) (i := k)) (rulesI_in (l := l) (q := q) (k := k))
  simp only [f168_0]
  rw [attRoundI V hin, bS]
  have hle := pass_le (L := rulesI l q k) (X := passes (rulesI l q k) j (outer l q k k))
  by_cases c : (nfl (pass (rulesI l q k) (passes (rulesI l q k) j (outer l q k k)))).length <= (nfl (passes (rulesI l q k) j (outer l q k k))).length
  ·have e := nfl_len_lt hle c (pass_in hin rulesI_in)
   rw [<- e, if_pos rfl]
   exact ⟨_, rfl, by rw [passes_stop rulesI_mono e.symm]⟩
  ·rw [if_neg (by omega)]
   exact ⟨_, rfl, rfl, by omega⟩
 ·have := nfl_len (X := passes (rulesI l q k) 5 (outer l q k k))
  rw [<- h1] at this
  omega
def att (l : List Relation) (q : Query) (i k : Nat) : Bool := decide (i ≠ k) && (avars (atomAt q k).Terms).any (reach l q i)
def hAtt (l : List Relation) (q : Query) (i k : Int) : Bool := vQuery l q && (btw i 0 (q.Atoms.length - 1) && (btw k 0 (q.Atoms.length - 1) && att l q i.toNat k.toNat))
theorem btw_nat {i : Int} {n : Nat} (h : btw i 0 ((n : Int) - 1) = true) : ∃ k : Nat, i = k /\ k < n := by
 unfold btw at h; simp only [Bool.and_eq_true, decide_eq_true_eq] at h
 exact ⟨i.toNat, by omega, by omega⟩
theorem hasSpec {i k : Int} (hl : Big l.length) (hq : FitsQ q) : f105 l q i k = some (hAtt l q i k) := by
 unfold f105 hAtt
 rw [specQ hl hq, bS]
 have hn := hq.1
 cases hv : vQuery l q
 ·simp
 have V := vq_of hl hq hv
 rw [w64_of (by omega)]
 simp only [specIn, not_true_eq_false, if_false, bS, Bool.true_and]
 cases hi : btw i 0 ((q.Atoms.length : Int) - 1)
 ·simp
 cases hk : btw k 0 ((q.Atoms.length : Int) - 1)
 ·simp
 obtain ⟨i, rfl, hi'⟩ := btw_nat hi
 obtain ⟨k, rfl, hk'⟩ := btw_nat hk
 simp only [not_true_eq_false, if_false, bS, Int.toNat_natCast, Bool.true_and]
 unfold att
 have ek : decide (((i : Nat) : Int) = (k : Int)) = decide (i = k) := decide_eq_decide.2 ⟨fun h => by omega, fun h => by omega⟩
 rw [ek]
 by_cases c : i = k
 ·simp [c]
 have hs := V.terms _ (List.getElem_mem hk')
 have a4 := avars_len (t := q.Atoms[k].Terms)
 have r4 := nfl_len (X := reach l q i)
 simp only [c, decide_false, Bool.false_eq_true, if_false]
 rw [attSpec V hv hi', bS, ix_nat hk', bS, specVars (by omega), bS, atom_get hk']
 rw [iter_ex (avars q.Atoms[k].Terms) (reach l q i) true (fun j hj => by
  simp only [f105_0]
  rw [if_pos (by omega), ix_nat hj, bS, hasI (by omega), nfl_has reach_in, w64_succ (by omega)]
  cases reach l q i (avars q.Atoms[k].Terms)[j] <;> simp) (by
  simp only [f105_0]
  rw [if_neg (by omega)])]
 cases (avars q.Atoms[k].Terms).any (reach l q i) <;> simp [c]
theorem hasImp {i k : Int} (hl : Big l.length) (hq : FitsQ q) : f116 l q i k = some (hAtt l q i k) := by
 unfold f116 hAtt
 rw [impQ hl hq, bS]
 have hn := hq.1
 cases hv : vQuery l q
 ·simp
 have V := vq_of hl hq hv
 rw [w64_of (by omega)]
 simp only [impIn, if_true, bS, Bool.true_and]
 cases hi : btw i 0 ((q.Atoms.length : Int) - 1)
 ·simp
 cases hk : btw k 0 ((q.Atoms.length : Int) - 1)
 ·simp
 obtain ⟨i, rfl, hi'⟩ := btw_nat hi
 obtain ⟨k, rfl, hk'⟩ := btw_nat hk
 simp only [if_true, bS, Int.toNat_natCast, Bool.true_and]
 unfold f120 att
 have hs := V.terms _ (List.getElem_mem hk')
 have a4 := avars_len (t := q.Atoms[k].Terms)
 have r4 := nfl_len (X := reach l q i)
 rw [ix_nat hk', bS, impVars (by omega), bS, atom_get hk']
 by_cases c : i = k
 ·simp [c]
 rw [if_pos (by omega), attImp V hi', bS, withoutI (by omega) (by omega), nfl_has reach_in, bS, filter_lt]
 simp [c]
end
end
section
section
variable {l : List Relation} {q : Query}
def ruleP (l : List Relation) (q : Query) (i a : Nat) : Rule := ⟨fun X => decide (a = i) || X ((a : Nat) : Int), fun b => hAtt l q ((a : Nat) : Int) b⟩
def rulesP (l : List Relation) (q : Query) (i : Nat) : List Rule := (List.range q.Atoms.length).map (ruleP l q i)
theorem rulesP_len {i : Nat} : (rulesP l q i).length = q.Atoms.length := by simp [rulesP]
theorem rulesP_get {i k : Nat} (h : k < (rulesP l q i).length) : (rulesP l q i)[k] = ruleP l q i k := by simp [rulesP]
theorem rulesP_mono {i : Nat} : ∀ r ∈ rulesP l q i, r.mono := by
 intro r hr
 obtain ⟨a, _, rfl⟩ := List.mem_map.1 hr
 intro X Y h hc
 simp only [ruleP, Bool.or_eq_true] at hc ⊢
 exact hc.imp id (h _)
theorem fireP {i a : Nat} {Y : Int -> Bool} : fire Y (ruleP l q i a) = if (decide (a = i) || Y ((a : Nat) : Int)) = true then cupX Y (fun b => hAtt l q ((a : Nat) : Int) b) else Y := rfl
def pathTo (l : List Relation) (q : Query) (i : Nat) : Int -> Bool := cl (rulesP l q i) none4
def hPath (l : List Relation) (q : Query) (i k : Int) : Bool := vQuery l q && (btw i 0 (q.Atoms.length - 1) && (btw k 0 (q.Atoms.length - 1) && pathTo l q i.toNat k))
theorem hAtt_self {a : Int} : hAtt l q a a = false := by unfold hAtt att; simp
theorem hAtt_rng {a b : Int} (h : hAtt l q a b = true) : ∃ k : Nat, b = k /\ k < q.Atoms.length := by
 unfold hAtt at h; simp only [Bool.and_eq_true] at h
 exact btw_nat h.2.2.1
theorem pathInner {i a : Nat} {X : Int -> Bool} (V : VQy l q) (ha : a < q.Atoms.length) : iter (f107_2 l q (i : Int) (a : Int)) (bl q.Atoms.length X, 0) = some (bl q.Atoms.length (fire X (ruleP l q i a))) := by
 have n3 := V.n3
 have := iter_steps (f := f107_2 l q (i : Int) (a : Int)) (fun b => (bl q.Atoms.length (fun v => X v || (decide (v < ((b : Nat) : Int)) && ((decide (a = i) || X ((a : Nat) : Int)) && hAtt l q ((a : Nat) : Int) v))), (b : Int))) q.Atoms.length (bl q.Atoms.length (fire X (ruleP l q i a))) (fun b hb => by
  simp only [f107_2]
  rw [if_pos (by omega), bl_get ha, w64_succ (by omega)]
  simp only [hasSpec V.big V.fits, bS]
  rw [hAtt_self]
  have e1 : (if ((a : Nat) : Int) = (i : Int) then some (hAtt l q ((a : Nat) : Int) ((b : Nat) : Int)) else (if (X ((a : Nat) : Int) || (decide (((a : Nat) : Int) < ((b : Nat) : Int)) && ((decide (a = i) || X ((a : Nat) : Int)) && false))) = true then some (hAtt l q ((a : Nat) : Int) ((b : Nat) : Int)) else some false).bind fun x => some x) = some ((decide (a = i) || X ((a : Nat) : Int)) && hAtt l q ((a : Nat) : Int) ((b : Nat) : Int)) := by
   by_cases c : a = i
   ·rw [if_pos (by omega)]; simp [c]
   ·rw [if_neg (by omega)]
    cases X ((a : Nat) : Int) <;> simp [c]
  rw [e1, bS]
  cases hc : ((decide (a = i) || X ((a : Nat) : Int)) && hAtt l q ((a : Nat) : Int) ((b : Nat) : Int))
  ·simp only [Bool.false_eq_true, if_false, bS]
   congr 3
   refine bl_congr fun v hv => ?_
   by_cases e : v = b
   ·subst e
    rw [hc]; simp
   ·have : decide (((v : Nat) : Int) < ((b : Nat) : Int)) = decide (((v : Nat) : Int) < ((b + 1 : Nat) : Int)) := decide_eq_decide.2 ⟨fun h => by omega, fun h => by omega⟩
    rw [this]
  ·simp only [if_true]
   rw [bl_get hb, bS, bS, Int.toNat_natCast, bl_set]
   congr 3
   refine bl_congr fun v hv => ?_
   by_cases e : v = b
   ·subst e
    rw [hc]
    have h1 : decide (((v : Nat) : Int) < ((v + 1 : Nat) : Int)) = true := decide_eq_true (by omega)
    have h2 : decide (((v : Nat) : Int) = ((v : Nat) : Int)) = true := decide_eq_true rfl
    rw [h1, h2]; simp
   ·have h1 : decide (((v : Nat) : Int) < ((b : Nat) : Int)) = decide (((v : Nat) : Int) < ((b + 1 : Nat) : Int)) := decide_eq_decide.2 ⟨fun h => by omega, fun h => by omega⟩
    have h2 : decide (((v : Nat) : Int) = ((b : Nat) : Int)) = false := decide_eq_false (by omega)
    rw [h1, h2, Bool.or_false]) (by
  simp only [f107_2]
  rw [if_neg (by omega)]
  congr 2
  refine bl_congr fun v hv => ?_
  rw [fireP]
  have : ((v : Nat) : Int) < ((q.Atoms.length : Nat) : Int) := by omega
  cases decide (a = i) || X ((a : Nat) : Int)
  ·simp
  ·simp [this, cupX])
 have e0 : bl q.Atoms.length (fun v => X v || (decide (v < ((0 : Nat) : Int)) && ((decide (a = i) || X ((a : Nat) : Int)) && hAtt l q ((a : Nat) : Int) v))) = bl q.Atoms.length X := bl_congr fun v _ => by
  have : decide (((v : Nat) : Int) < ((0 : Nat) : Int)) = false := decide_eq_false (by omega)
  rw [this]; simp
 rw [e0] at this
 exact this
theorem pathRound {i : Nat} {X : Int -> Bool} (V : VQy l q) : iter (f107_1 l q (i : Int)) (bl q.Atoms.length X, 0) = some (bl q.Atoms.length (pass (rulesP l q i) X)) := by
 have n3 := V.n3
 have := iter_steps (f := f107_1 l q (i : Int)) (fun a => (bl q.Atoms.length (pass ((rulesP l q i).take a) X), (a : Int))) q.Atoms.length (bl q.Atoms.length (pass (rulesP l q i) X)) (fun a ha => by
  simp only [f107_1]
  rw [if_pos (by omega), pathInner V ha, bS, w64_succ (by omega), pass_take (by rw [rulesP_len]; exact ha), rulesP_get]) (by
  simp only [f107_1]
  rw [if_neg (by omega), List.take_of_length_le (by rw [rulesP_len]; omega)])
 simp only [List.take_zero, pass, List.foldl_nil, Int.natCast_zero, Int.ofNat_zero] at this
 exact this
theorem pathSpec {i k : Int} (hl : Big l.length) (hq : FitsQ q) : f107 l q i k = some (hPath l q i k) := by
 unfold f107 hPath
 rw [specQ hl hq, bS]
 have hn := hq.1
 cases hv : vQuery l q
 ·simp
 have V := vq_of hl hq hv
 rw [w64_of (by omega)]
 simp only [specIn, not_true_eq_false, if_false, bS, Bool.true_and]
 cases hi : btw i 0 ((q.Atoms.length : Int) - 1)
 ·simp
 cases hk : btw k 0 ((q.Atoms.length : Int) - 1)
 ·simp
 obtain ⟨i, rfl, hi'⟩ := btw_nat hi
 obtain ⟨k, rfl, hk'⟩ := btw_nat hk
 simp only [not_true_eq_false, if_false, bS, Int.toNat_natCast, Bool.true_and, decide_false, Bool.false_eq_true]
 rw [mkl_ok (by omega) (by omega) (by omega), bS, Int.toNat_natCast, bl_none]
 have := iter_steps (f := f107_0 l q (i : Int)) (fun j => (bl q.Atoms.length (passes (rulesP l q i) j none4), (j : Int))) (q.Atoms.length + 1) (bl q.Atoms.length (pathTo l q i)) (fun j hj => by
  simp only [f107_0]
  rw [if_pos (by omega), pathRound V, bS, w64_succ (by omega)]; rfl) (by
  simp only [f107_0]
  rw [if_neg (by omega), passes_cl rulesP_mono (by rw [rulesP_len]; omega)]; rfl)
 simp only [passes, Int.natCast_zero, Int.ofNat_zero] at this
 erw [this]
 rw [bS, bl_get hk']; rfl
theorem bfsRound {i j : Nat} {H : List Int} {v : Int} (V : VQy l q) (hj : j < (((i : Nat) : Int) :: H).length) (hv : v = ((i : Nat) : Int) \/ pathTo l q i v = true)
  (hvr : ∃ a : Nat, v = a /\ a < q.Atoms.length) (hd : H.Nodup) (hr : ∀ x ∈ H, 0 <= x /\ x < q.Atoms.length) (hs : ∀ x ∈ H, pathTo l q i x = true) :
  Ens (iter (f118_1 l q v) (bl q.Atoms.length H.contains, (((i : Nat) : Int) :: H).drop (j + 1), 0)) fun o => ∃ t, o = (bl q.Atoms.length (H ++ t).contains, (((i : Nat) : Int) :: (H ++ t)).drop (j + 1)) /\ (H ++ t).Nodup /\ (∀ x ∈ H ++ t, 0 <= x /\ x < q.Atoms.length) /\ (∀ x ∈ H ++ t, pathTo l q i x = true) /\ ∀ b : Nat, b < q.Atoms.length -> hAtt l q v ((b : Nat) : Int) = true -> ((b : Nat) : Int) ∈ H ++ t := by
 have n3 := V.n3
 refine iter_up (f := f118_1 l q v) q.Atoms.length (fun x s => s.2.2 = (x : Int) /\ ∃ t, s.1 = bl q.Atoms.length (H ++ t).contains /\ s.2.1 = (((i : Nat) : Int) :: (H ++ t)).drop (j + 1) /\ (H ++ t).Nodup /\ (∀ x ∈ H ++ t, 0 <= x /\ x < q.Atoms.length) /\ (∀ x ∈ H ++ t, pathTo l q i x = true) /\ ∀ b : Nat, b < x -> hAtt l q v ((b : Nat) : Int) = true -> ((b : Nat) : Int) ∈ H ++ t) _ (fun x s hx hI => ?_) (fun s hI => ?_) _ ⟨rfl, [], by simp, by simp, by simpa using hd, by simpa using hr, by simpa using hs, fun b hb => by omega⟩
 ·obtain ⟨r, td, y⟩ := s
  obtain ⟨e1, t, e2, e3, d1, d2, d3, d4⟩ := hI
  dsimp only at e1 e2 e3
  subst e1; subst e2; subst e3
  simp only [f118_1]
  rw [if_pos (by omega), bl_get hx, bS, w64_succ (by omega)]
  simp only [hasImp V.big V.fits, bS]
  have hlen := nodup_le d1 d2
  cases hc : (H ++ t).contains ((x : Nat) : Int)
  ·have hnm : ¬ ((x : Nat) : Int) ∈ H ++ t := fun h => by rw [<- List.contains_iff_mem, hc] at h; cases h
   simp only [Bool.false_eq_true, not_false_eq_true, if_true, bS]
   cases ht : hAtt l q v ((x : Nat) : Int)
   ·simp only [Bool.false_eq_true, if_false, bS]
    refine ⟨_, rfl, rfl, t, rfl, rfl, d1, d2, d3, fun b hb hh => ?_⟩
    by_cases e : b = x
    ·subst e; rw [ht] at hh; cases hh
    ·exact d4 b (by omega) hh
   ·simp only [if_true]
    rw [app_fits (by simp only [List.length_drop, List.length_cons, List.length_nil]; omega)]
    simp only [bS, Int.toNat_natCast]
    refine ⟨_, rfl, rfl, t ++ [((x : Nat) : Int)], ?_, ?_, ?_, ?_, ?_, ?_⟩
    ·dsimp only
     rw [bl_set]
     refine bl_congr fun u hu => ?_
     rw [<- List.append_assoc, Bool.eq_iff_iff]
     simp only [Bool.or_eq_true, List.contains_iff_mem, decide_eq_true_eq, List.mem_append, List.mem_singleton]
    ·dsimp only
     have e : ((i : Nat) : Int) :: (H ++ (t ++ [((x : Nat) : Int)])) = (((i : Nat) : Int) :: (H ++ t)) ++ [((x : Nat) : Int)] := by simp
     rw [e, List.drop_append_of_le_length]
     simp only [List.length_cons, List.length_append] at hj ⊢; omega
    ·rw [<- List.append_assoc]
     refine List.nodup_append.2 ⟨d1, by simp, fun a ha b hb e => ?_⟩
     rw [List.mem_singleton] at hb
     subst e; subst hb; exact hnm ha
    ·intro u hu
     rw [<- List.append_assoc] at hu
     rcases List.mem_append.1 hu with hu | hu
     ·exact d2 u hu
     ·rw [List.mem_singleton] at hu; subst hu; omega
    ·intro u hu
     rw [<- List.append_assoc] at hu
     rcases List.mem_append.1 hu with hu | hu
     ·exact d3 u hu
     ·rw [List.mem_singleton] at hu; subst hu
      obtain ⟨a, rfl, ha⟩ := hvr
      refine cl_clo (L := rulesP l q i) rulesP_mono (X := none4) (ruleP l q i a) (List.mem_map.2 ⟨a, List.mem_range.2 ha, rfl⟩) ?_ _ ht
      simp only [ruleP, Bool.or_eq_true, decide_eq_true_eq]
      exact hv.imp (fun h => by omega) id
    ·intro b hb hh
     rw [<- List.append_assoc]
     by_cases e : b = x
     ·subst e; simp
     ·exact List.mem_append_left _ (d4 b (by omega) hh)
  ·simp only [not_true_eq_false, if_false, bS, Bool.false_eq_true]
   refine ⟨_, rfl, rfl, t, rfl, rfl, d1, d2, d3, fun b hb hh => ?_⟩
   by_cases e : b = x
   ·subst e; rwa [List.contains_iff_mem] at hc
   ·exact d4 b (by omega) hh
 ·obtain ⟨r, td, y⟩ := s
  obtain ⟨e1, t, e2, e3, d1, d2, d3, d4⟩ := hI
  dsimp only at e1 e2 e3
  subst e1; subst e2; subst e3
  simp only [f118_1]
  rw [if_neg (by omega)]
  exact ⟨_, rfl, t, rfl, d1, d2, d3, d4⟩
theorem pathImp {i k : Int} (hl : Big l.length) (hq : FitsQ q) : f118 l q i k = some (hPath l q i k) := by
 unfold f118 hPath
 rw [impQ hl hq, bS]
 have hn := hq.1
 cases hv : vQuery l q
 ·simp
 have V := vq_of hl hq hv
 have n1 := V.n1
 have n3 := V.n3
 rw [w64_of (n := (q.Atoms.length : Int) - 1) (by omega)]
 simp only [impIn, not_true_eq_false, if_false, bS, Bool.true_and]
 cases hi : btw i 0 ((q.Atoms.length : Int) - 1)
 ·simp
 cases hk : btw k 0 ((q.Atoms.length : Int) - 1)
 ·simp
 obtain ⟨i, rfl, hi'⟩ := btw_nat hi
 obtain ⟨k, rfl, hk'⟩ := btw_nat hk
 simp only [not_true_eq_false, if_false, bS, Int.toNat_natCast, Bool.true_and, decide_false, Bool.false_eq_true]
 rw [w64_of (by omega), show (q.Atoms.length : Int) - 1 + 1 = (q.Atoms.length : Int) by omega, mkl_ok (by omega) (by omega) (by omega), bS, Int.toNat_natCast, bl_none]
 refine Ens.eq (Q := fun r => r = pathTo l q i ((k : Nat) : Int)) (Ens.bind (Q := fun r => r = bl q.Atoms.length (pathTo l q i)) ?_ fun a h => ?_) _ fun _ h => h
 ·have e0 : bl q.Atoms.length none4 = bl q.Atoms.length ([] : List Int).contains := bl_congr fun v _ => by simp [none4]
  rw [e0]
  refine iter_up (f := f118_0 l q) (q.Atoms.length + 1) (fun j s => ∃ H : List Int, s = (bl q.Atoms.length H.contains, (((i : Nat) : Int) :: H).drop j) /\ H.Nodup /\ (∀ x ∈ H, 0 <= x /\ x < q.Atoms.length) /\ (∀ x ∈ H, pathTo l q i x = true) /\ ∀ p (hp : p < (((i : Nat) : Int) :: H).length), p < j -> ∀ b : Nat, b < q.Atoms.length -> hAtt l q ((((i : Nat) : Int) :: H)[p]) ((b : Nat) : Int) = true -> ((b : Nat) : Int) ∈ H) (fun r => r = bl q.Atoms.length (pathTo l q i)) (fun j s hj hI => ?_) (fun s hI => ?_) _ ⟨[], by simp, by simp, by simp, by simp, fun p _ hp => by omega⟩
  ·obtain ⟨H, rfl, d1, d2, d3, d4⟩ := hI
   have hlen := nodup_le d1 d2
   simp only [f118_0]
   by_cases c : j < (((i : Nat) : Int) :: H).length
   ·have hdl : ((((i : Nat) : Int) :: H).drop j).length = (((i : Nat) : Int) :: H).length - j := List.length_drop
    have hcut : cutL ((((i : Nat) : Int) :: H).drop j) 1 (((((i : Nat) : Int) :: H).drop j).length : Int) = some ((((i : Nat) : Int) :: H).drop (j + 1)) := by
     rw [cutL_ok (by omega) (by rw [hdl]; omega) (by omega), Int.toNat_natCast, List.take_of_length_le (Nat.le_refl _), List.drop_drop]; rfl
    have hix : ix ((((i : Nat) : Int) :: H).drop j) 0 = some ((((i : Nat) : Int) :: H)[j]) := by
     rw [ix_of (by omega), List.getElem?_drop]
     simp only [Int.toNat_zero, Nat.add_zero]
     exact zE c
    rw [if_pos (by omega), hix, bS, hcut, bS]
    have hm : (((i : Nat) : Int) :: H)[j] = ((i : Nat) : Int) \/ (((i : Nat) : Int) :: H)[j] ∈ H := by
     have := List.getElem_mem c
     rwa [List.mem_cons] at this
    obtain ⟨o, ho, t, rfl, g1, g2, g3, g4⟩ := bfsRound (v := (((i : Nat) : Int) :: H)[j]) V c (hm.imp id (d3 _)) (by
     rcases hm with h | h
     ·exact ⟨i, h, hi'⟩
     ·have := d2 _ h; exact ⟨((((i : Nat) : Int) :: H)[j]).toNat, by omega, by omega⟩) d1 d2 d3
    rw [ho]
    refine ⟨_, rfl, H ++ t, rfl, g1, g2, g3, fun p hp hpj b hb hh => ?_⟩
    have hp' : p < (((i : Nat) : Int) :: H).length := by omega
    have eg : (((i : Nat) : Int) :: (H ++ t))[p] = (((i : Nat) : Int) :: H)[p] := by
     simp only [<- List.cons_append]
     exact List.getElem_append_left hp'
    rw [eg] at hh
    by_cases e : p = j
    ·subst e; exact g4 b hb hh
    ·exact List.mem_append_left _ (d4 p hp' (by omega) b hb hh)
   ·have hdl : ((((i : Nat) : Int) :: H).drop j).length = 0 := by rw [List.length_drop]; omega
    rw [if_neg (by omega)]
    refine ⟨_, rfl, ?_⟩
    dsimp only
    refine bl_congr fun u hu => ?_
    rw [Bool.eq_iff_iff, List.contains_iff_mem]
    refine ⟨d3 _, fun h => ?_⟩
    have hcl : Clo (rulesP l q i) H.contains := fun r hr hc b hb => by
     obtain ⟨a, ha, rfl⟩ := List.mem_map.1 hr
     simp only [ruleP, Bool.or_eq_true, decide_eq_true_eq] at hc hb
     obtain ⟨b, rfl, hbn⟩ := hAtt_rng hb
     rw [List.contains_iff_mem]
     rcases hc with rfl | hc
     ·exact d4 0 (by simp) (by simp only [List.length_cons] at c; omega) b hbn hb
     ·rw [List.contains_iff_mem] at hc
      obtain ⟨p, hp, e⟩ := List.mem_iff_getElem.1 hc
      refine d4 (p + 1) (by simp only [List.length_cons]; omega) (by simp only [List.length_cons] at c; omega) b hbn ?_
      rw [List.getElem_cons_succ, e]; exact hb
    have := passes_least (rulesP_mono (l := l) (q := q) (i := i)) hcl (X := none4) (fun v hv => by cases hv) (n := (rulesP l q i).length) _ h
    rwa [List.contains_iff_mem] at this
  ·obtain ⟨H, rfl, d1, d2, d3, d4⟩ := hI
   have hlen := nodup_le d1 d2
   simp only [f118_0]
   have hdl : ((((i : Nat) : Int) :: H).drop (q.Atoms.length + 1)).length = 0 := by rw [List.length_drop, List.length_cons]; omega
   rw [if_neg (by omega)]
   refine ⟨_, rfl, ?_⟩
   refine bl_congr fun u hu => ?_
   rw [Bool.eq_iff_iff, List.contains_iff_mem]
   refine ⟨d3 _, fun h => ?_⟩
   have hcl : Clo (rulesP l q i) H.contains := fun r hr hc b hb => by
    obtain ⟨a, ha, rfl⟩ := List.mem_map.1 hr
    simp only [ruleP, Bool.or_eq_true, decide_eq_true_eq] at hc hb
    obtain ⟨b, rfl, hbn⟩ := hAtt_rng hb
    rw [List.contains_iff_mem]
    rcases hc with rfl | hc
    ·exact d4 0 (by simp) (by omega) b hbn hb
    ·rw [List.contains_iff_mem] at hc
     obtain ⟨p, hp, e⟩ := List.mem_iff_getElem.1 hc
     refine d4 (p + 1) (by simp only [List.length_cons]; omega) (by omega) b hbn ?_
     rw [List.getElem_cons_succ, e]; exact hb
   have := passes_least (rulesP_mono (l := l) (q := q) (i := i)) hcl (X := none4) (fun v hv => by cases hv) (n := (rulesP l q i).length) _ h
   rwa [List.contains_iff_mem] at this
 ·subst h
  rw [bl_get hk']; exact Ens.of rfl
end
end
section
section
variable {l : List Relation} {q : Query}
def hCyc (l : List Relation) (q : Query) : Bool := (List.range q.Atoms.length).any fun i => hPath l q ((i : Nat) : Int) ((i : Nat) : Int)
theorem cycSpec (hl : Big l.length) (hq : FitsQ q) : f108 l q = some (hCyc l q) := by
 unfold f108
 have hn := hq.1
 rw [iter_ex (List.range q.Atoms.length) (fun i => hPath l q ((i : Nat) : Int) ((i : Nat) : Int)) true (fun i hi => by
  simp only [List.length_range] at hi
  simp only [List.getElem_range]
  simp only [f108_0]
  rw [if_pos (by omega), pathSpec hl hq, bS, w64_succ (by omega)]
  split <;> rfl) (by
  simp only [f108_0]
  rw [if_neg (by simp)])]
 unfold hCyc
 cases (List.range q.Atoms.length).any fun i => hPath l q ((i : Nat) : Int) ((i : Nat) : Int) <;> simp
theorem cycImp (hl : Big l.length) (hq : FitsQ q) : f119 l q = some (hCyc l q) := by
 unfold f119
 have hn := hq.1
 rw [iter_ex (List.range q.Atoms.length) (fun i => hPath l q ((i : Nat) : Int) ((i : Nat) : Int)) true (fun i hi => by
  simp only [List.length_range] at hi
  simp only [List.getElem_range]
  simp only [f119_0]
  rw [if_pos (by omega), pathImp hl hq, bS, w64_succ (by omega)]
  split <;> rfl) (by
  simp only [f119_0]
  rw [if_neg (by simp)])]
 unfold hCyc
 cases (List.range q.Atoms.length).any fun i => hPath l q ((i : Nat) : Int) ((i : Nat) : Int) <;> simp
end
end
section
section
variable {l : List Relation} {q : Query}
def deter (l : List Relation) (q : Query) (a b : List Int) : Bool := vQuery l q && b.all (closX l q (-1) (setOf q a))
theorem detSpec {a b : List Int} (hl : Big l.length) (hq : FitsQ q) (ha : Big a.length) (hb : Big b.length) : f162 l q a b = some (deter l q a b) := by
 unfold f162 deter
 rw [specQ hl hq, bS]
 cases hv : vQuery l q
 ·simp
 have V := vq_of hl hq hv
 have c4 := nfl_len (X := closX l q (-1) (setOf q a))
 simp only [if_true]
 rw [closSpec V hv ha, bS, has14 (by omega) hb, nfl_has (closX_in setOf_in)]
 simp
theorem detImp {a b : List Int} (hl : Big l.length) (hq : FitsQ q) (ha : a.length <= 8) (hai : In4 a.contains) (hb : Big b.length) : f167 l q a b = some (deter l q a b) := by
 unfold f167 deter
 rw [impQ hl hq, bS]
 cases hv : vQuery l q
 ·simp
 have V := vq_of hl hq hv
 have f4 := V.free4
 simp only [if_true]
 have key : f207 l q (-1) a = some (nfl (closX l q (-1) (setOf q a))) := by
  unfold f207 f192
  rw [impQ hl hq, hv, bS, if_neg (by simp), app_fits (by simp; omega)]
  simp only [bS, List.nil_append]
  have it := iter_steps (f := f207_0 a) (fun i => (q.Free ++ a.take i, (i : Int))) a.length (q.Free ++ a) (fun i hi => by
   simp only [f207_0]
   have hb : btw a[i] 0 3 = true := hai _ (by rw [List.contains_iff_mem]; exact List.getElem_mem hi)
   rw [if_pos (by omega), ix_nat hi, bS, impIn, hb, w64_succ (by omega)]
   simp only [bS, if_true]
   rw [app_fits (by simp; omega)]
   simp only [bS]
   rw [take_succ' hi, List.append_assoc]) (by
   simp only [f207_0]
   rw [if_neg (by omega), List.take_of_length_le (Nat.le_refl _)])
  simp only [List.take_zero, List.append_nil, Int.natCast_zero, Int.ofNat_zero] at it
  rw [it, bS, closImp V (by simp; omega) (fun v hv => by
   rw [List.contains_iff_mem, List.mem_append] at hv
   rcases hv with hv | hv
   ·exact V.free v (by rw [List.contains_iff_mem]; exact hv)
   ·exact hai v (by rw [List.contains_iff_mem]; exact hv))]
  have e : (q.Free ++ a).contains = setOf q a := by
   funext v
   unfold setOf
   rw [Bool.eq_iff_iff, List.contains_iff_mem, List.mem_append, List.contains_iff_mem, nfl_mem]
   unfold cupX
   simp only [Bool.or_eq_true, List.contains_iff_mem]
   constructor
   ·rintro (h | h)
    ·exact ⟨.inr h, V.free v (by rw [List.contains_iff_mem]; exact h)⟩
    ·exact ⟨.inl h, hai v (by rw [List.contains_iff_mem]; exact h)⟩
   ·rintro ⟨h | h, _⟩
    ·exact .inr h
    ·exact .inl h
  rw [e]; rfl
 have c4 := nfl_len (X := closX l q (-1) (setOf q a))
 rw [key, bS, subset hb (by omega), nfl_has (closX_in setOf_in)]
 simp
def hWeak (l : List Relation) (q : Query) (i k : Int) : Bool := hAtt l q i k && deter l q (kvars l (atomAt q i.toNat)) (kvars l (atomAt q k.toNat))
theorem weakSpec {i k : Int} (hl : Big l.length) (hq : FitsQ q) : f106 l q i k = some (hWeak l q i k) := by
 unfold f106 hWeak
 rw [hasSpec hl hq, bS]
 cases h : hAtt l q i k
 ·simp
 unfold hAtt at h; simp only [Bool.and_eq_true] at h
 obtain ⟨i, rfl, hi⟩ := btw_nat h.2.1
 obtain ⟨k, rfl, hk⟩ := btw_nat h.2.2.1
 have h1 := hq.2.1 _ (List.getElem_mem hi)
 have h2 := hq.2.1 _ (List.getElem_mem hk)
 have k1 := kvars_len (l := l) (a := q.Atoms[i])
 have k2 := kvars_len (l := l) (a := q.Atoms[k])
 simp only [if_true, Int.toNat_natCast, Bool.true_and]
 rw [ix_nat hi, ix_nat hk, atom_get hi, atom_get hk]
 simp only [bS]
 rw [specKV hl (by omega), bS, specKV hl (by omega), bS, detSpec hl hq (by omega) (by omega)]
 rfl
theorem weakImp {i k : Int} (hl : Big l.length) (hq : FitsQ q) : f117 l q i k = some (hWeak l q i k) := by
 unfold f117 hWeak
 rw [hasImp hl hq, bS]
 cases h : hAtt l q i k
 ·simp
 unfold hAtt at h; simp only [Bool.and_eq_true] at h
 have V := vq_of hl hq h.1
 obtain ⟨i, rfl, hi⟩ := btw_nat h.2.1
 obtain ⟨k, rfl, hk⟩ := btw_nat h.2.2.1
 have h1 := V.terms _ (List.getElem_mem hi)
 have h2 := V.terms _ (List.getElem_mem hk)
 have k1 := kvars_len (l := l) (a := q.Atoms[i])
 have k2 := kvars_len (l := l) (a := q.Atoms[k])
 simp only [if_true, Int.toNat_natCast, Bool.true_and]
 rw [ix_nat hi, ix_nat hk, atom_get hi, atom_get hk]
 simp only [bS]
 rw [impKV hl (by omega), bS, impKV hl (by omega), bS, detImp hl hq (by omega) kvars_in (by omega)]
 rfl
def hard (l : List Relation) (q : Query) (i k : Nat) : Bool := hAtt l q ((i : Nat) : Int) ((k : Nat) : Int) && (!hWeak l q ((i : Nat) : Int) ((k : Nat) : Int) && hPath l q ((k : Nat) : Int) ((i : Nat) : Int))
def cls (l : List Relation) (q : Query) : Int :=
 if vQuery l q = true then (if ((List.range q.Atoms.length).any fun i => (List.range q.Atoms.length).any fun k => hard l q i k) = true then 3 else if hCyc l q = true then 2 else 1) else 0
theorem iter_ex2 {ρ : Type} {f : Int -> Option (Int ⊕ (Unit ⊕ ρ))} {n : Nat} {p : Nat -> Bool} {c : ρ}
  (hs : ∀ (i : Nat) (h : i < n), f (i : Int) = some (if p i = true then .inr (.inr c) else .inl ((i + 1 : Nat) : Int))) (he : f (n : Int) = some (.inr (.inl ()))) :
  iter f 0 = some (if (List.range n).any p = true then .inr c else .inl ()) :=
 iter_ex (List.range n) p c (fun i hi => by simp only [List.length_range] at hi; simp only [List.getElem_range]; exact hs i hi) (by simpa using he)
theorem clsSpec (hl : Big l.length) (hq : FitsQ q) : f42 l q = some (cls l q) := by
 unfold f42 cls
 rw [specQ hl hq, bS]
 have hn := hq.1
 cases hv : vQuery l q
 ·simp
 rw [if_neg (by simp), if_pos rfl]
 rw [iter_ex2 (n := q.Atoms.length) (p := fun i => (List.range q.Atoms.length).any fun k => hard l q i k) (c := 3) (fun i hi => by
  simp only [f42_0]
  rw [if_pos (by omega), iter_ex2 (n := q.Atoms.length) (p := fun k => hard l q i k) (c := 3) (fun k hk => by
   simp only [f42_1]
   rw [if_pos (by omega), hasSpec hl hq, weakSpec hl hq, pathSpec hl hq, w64_succ (by omega)]
   unfold hard
   cases hAtt l q ((i : Nat) : Int) ((k : Nat) : Int)
   ·simp
   ·cases hWeak l q ((i : Nat) : Int) ((k : Nat) : Int)
    ·cases hPath l q ((k : Nat) : Int) ((i : Nat) : Int) <;> simp
    ·simp) (by
   simp only [f42_1]
   rw [if_neg (by omega)]), w64_succ (by omega)]
  cases (List.range q.Atoms.length).any fun k => hard l q i k <;> simp) (by
  simp only [f42_0]
  rw [if_neg (by omega)])]
 cases (List.range q.Atoms.length).any fun i => (List.range q.Atoms.length).any fun k => hard l q i k
 ·simp only [Bool.false_eq_true, if_false, bS]
  rw [cycSpec hl hq, bS]
  split <;> rfl
 ·simp
theorem clsImp (hl : Big l.length) (hq : FitsQ q) : f51 l q = some (cls l q) := by
 unfold f51 cls
 rw [impQ hl hq, bS]
 have hn := hq.1
 cases hv : vQuery l q
 ·simp
 rw [if_neg (by simp), if_pos rfl]
 rw [iter_ex2 (n := q.Atoms.length) (p := fun i => (List.range q.Atoms.length).any fun k => hard l q i k) (c := 3) (fun i hi => by
  simp only [f51_0]
  rw [if_pos (by omega), iter_ex2 (n := q.Atoms.length) (p := fun k => hard l q i k) (c := 3) (fun k hk => by
   simp only [f51_1]
   rw [if_pos (by omega), hasImp hl hq, weakImp hl hq, pathImp hl hq, w64_succ (by omega)]
   unfold hard
   cases hAtt l q ((i : Nat) : Int) ((k : Nat) : Int)
   ·simp
   ·cases hWeak l q ((i : Nat) : Int) ((k : Nat) : Int)
    ·cases hPath l q ((k : Nat) : Int) ((i : Nat) : Int) <;> simp
    ·simp) (by
   simp only [f51_1]
   rw [if_neg (by omega)]), w64_succ (by omega)]
  cases (List.range q.Atoms.length).any fun k => hard l q i k <;> simp) (by
  simp only [f51_0]
  rw [if_neg (by omega)])]
 cases (List.range q.Atoms.length).any fun i => (List.range q.Atoms.length).any fun k => hard l q i k
 ·simp only [Bool.false_eq_true, if_false, bS]
  rw [cycImp hl hq, bS]
  split <;> rfl
 ·simp
end
end
section
def FitsS (a : RewritingStep) : Prop := a.Atom.Terms.length <= 1048576 /\ a.Existential.length <= 1048576 /\ a.Universal.length <= 1048576
def vStep (l : List Relation) (s : RewritingStep) : Bool :=
 vRels l && (btw s.Atom.Relation 0 (l.length - 1) && (decide ((s.Atom.Terms.length : Int) = arity l s.Atom.Relation) && ((s.Atom.Terms.all fun v => btw v (-10) 3) && (s.Existential.all (kvars l s.Atom).contains && s.Universal.all (avars s.Atom.Terms).contains))))
def vRw (l : List Relation) (f : List RewritingStep) : Bool := f.all (vStep l) && decide (f.length <= 3)
theorem specRw {l : List Relation} {f : List RewritingStep} (hl : Big l.length) (hf : Big f.length) (h : ∀ x ∈ f, FitsS x) : f130 l f = some (vRw l f) := by
 unfold f130
 rw [iter_ex f (fun s => !vStep l s) false (fun i hi => by
  have hs := h _ (List.getElem_mem hi)
  simp only [f130_0]
  rw [if_pos (by omega), ix_nat hi, w64_succ (by omega)]
  generalize f[i] = s at hs
  obtain ⟨s1, s2, s3⟩ := hs
  unfold vStep
  rw [bS, specRels hl, bS, w64_of (by omega)]
  cases vRels l
  ·simp
  simp only [specIn]
  cases hb : btw s.Atom.Relation 0 (l.length - 1)
  ·simp
  obtain ⟨x, h1, _, h2, _⟩ := ix_rel hb
  rw [h1]
  by_cases ha : (s.Atom.Terms.length : Int) = arity l s.Atom.Relation
  ·rw [iter_ex s.Atom.Terms (fun v => !btw v (-10) 3) false (fun i hi => by
    simp only [f130_1]
    rw [if_pos (by omega), ix_nat hi, w64_succ (by omega)]
    simp only [bS, specIn]
    cases btw s.Atom.Terms[i] (-10) 3 <;> simp) (by
    simp only [f130_1]
    rw [if_neg (by omega)]), any_not]
   have k1 := kvars_len (l := l) (a := s.Atom)
   have k2 := avars_len (t := s.Atom.Terms)
   cases s.Atom.Terms.all (fun v => btw v (-10) 3)
   ·simp [h2, ha]
   ·simp only [h2, ha, not_true_eq_false, if_false, bS, ne_eq, decide_false, Bool.false_eq_true, Bool.not_true, specKV hl (show Big s.Atom.Terms.length by omega), has14 (l := kvars l s.Atom) (w := s.Existential) (by omega) (by omega),
     specVars (a := s.Atom) (by omega), has14 (l := avars s.Atom.Terms) (w := s.Universal) (by omega) (by omega)]
    cases s.Existential.all (kvars l s.Atom).contains
    ·simp
    ·cases s.Universal.all (avars s.Atom.Terms).contains <;> simp
  ·simp [h2, ha]) (by
  simp only [f130_0]
  rw [if_neg (by omega)]), any_not]
 unfold vRw
 cases f.all (vStep l)
 ·simp
 ·simp; omega
theorem impRw {l : List Relation} {f : List RewritingStep} (hl : Big l.length) (hf : Big f.length) (h : ∀ x ∈ f, FitsS x) : f137 l f = some (vRw l f) := by
 unfold f137
 rw [iter_ex (List.range f.length) (fun i => decide (3 <= i) || !(match f[i]? with | some s => vStep l s | none => true)) false (fun i hi => by
  simp only [List.length_range] at hi
  simp only [List.getElem_range]
  rw [zE hi]
  dsimp only
  have hs := h _ (List.getElem_mem hi)
  simp only [f137_0]
  rw [if_pos (by omega), ix_nat hi, w64_succ (by omega)]
  generalize f[i] = s at hs
  obtain ⟨s1, s2, s3⟩ := hs
  by_cases c3 : 3 <= i
  ·rw [bS, if_pos (by omega)]; simp [c3]
  rw [bS, if_neg (by omega)]
  simp only [c3, decide_false, Bool.false_or]
  unfold vStep
  rw [impRels hl, bS, w64_of (by omega)]
  cases hv : vRels l
  ·simp
  simp only [impIn]
  cases hb : btw s.Atom.Relation 0 (l.length - 1)
  ·simp
  obtain ⟨x, h1, _, h2, _⟩ := ix_rel hb
  rw [h1]
  by_cases ha : (s.Atom.Terms.length : Int) = arity l s.Atom.Relation
  ·have h3 := vRels_arity hv hb
   have i1 : f179 s.Atom.Terms (fun x0 => f180 x0) = some (s.Atom.Terms.any fun v => !btw v (-10) 3) := indexI (by omega) (fun v _ => by
    unfold f180
    rw [impIn]; cases btw v (-10) 3 <;> simp)
   rw [i1, any_not]
   have k1 := kvars_len (l := l) (a := s.Atom)
   have k2 := avars_len (t := s.Atom.Terms)
   cases s.Atom.Terms.all (fun v => btw v (-10) 3)
   ·simp [h2, ha]
   ·simp only [h2, ha, not_true_eq_false, if_false, bS, ne_eq, decide_false, Bool.false_eq_true, Bool.not_true, impKV hl (show s.Atom.Terms.length <= 12 by omega), subset (a := s.Existential) (b := kvars l s.Atom) (by omega) (by omega),
     impVars (a := s.Atom) (by omega), subset (a := s.Universal) (b := avars s.Atom.Terms) (by omega) (by omega)]
    cases s.Existential.all (kvars l s.Atom).contains
    ·simp
    ·cases s.Universal.all (avars s.Atom.Terms).contains <;> simp
  ·simp [h2, ha]) (by
  simp only [f137_0]
  rw [if_neg (by simp)])]
 have e : ((List.range f.length).any fun i => decide (3 <= i) || !(match f[i]? with | some s => vStep l s | none => true)) = !vRw l f := by
  unfold vRw
  by_cases hn : f.length <= 3
  ·have e1 : ((List.range f.length).any fun i => decide (3 <= i) || !(match f[i]? with | some s => vStep l s | none => true)) = f.any fun s => !vStep l s := by
    rw [Bool.eq_iff_iff]
    simp only [List.any_eq_true, List.mem_range]
    constructor
    ·rintro ⟨i, hi, hp⟩
     rw [zE hi] at hp
     simp only [show ¬ 3 <= i by omega, decide_false, Bool.false_or] at hp
     exact ⟨f[i], List.getElem_mem hi, hp⟩
    ·rintro ⟨s, hs, hp⟩
     obtain ⟨i, hi, rfl⟩ := List.mem_iff_getElem.1 hs
     refine ⟨i, hi, ?_⟩
     rw [zE hi]
     dsimp only
     rw [hp]; simp
   rw [e1, any_not]; simp [hn]
  ·simp only [hn, decide_false, Bool.and_false, Bool.not_false]
   rw [List.any_eq_true]
   exact ⟨3, by simp; omega, by simp⟩
 rw [e]
 cases vRw l f <;> simp
end
section
section
variable {l : List Relation} {q : Query}
end
end
section
section
variable {l : List Relation} {q : Query}
def lnk (l : List Relation) (q : Query) (i a b : Nat) : Bool := (avars (atomAt q a).Terms).any fun v => (avars (atomAt q b).Terms).contains v && !plus l q i v
theorem shareS {a b n : List Int} (hb : Big b.length) (hn : Big n.length) (ha : Big a.length) : f164 a b n = some (a.any fun v => b.contains v && !n.contains v) := by
 unfold f164
 rw [iter_ex a (fun v => b.contains v && !n.contains v) true (fun i hi => by
  simp only [f164_0]
  rw [if_pos (by omega), ix_nat hi, bS, hasI hb, bS, w64_succ (by omega), hasI hn]
  cases b.contains a[i] <;> cases n.contains a[i] <;> simp) (by
  simp only [f164_0]
  rw [if_neg (by omega)])]
 cases a.any fun v => b.contains v && !n.contains v <;> rfl
theorem round17 {i : Nat} {X : Int -> Bool} (V : VQy l q) (hX : In4 X) : iter (f109_2 l q (i : Int)) (nfl X, 0) = some (nfl (pass (rulesA l q (i : Int)) X)) := by
 have := iter_steps (f := f109_2 l q (i : Int)) (fun j => (nfl (pass ((rulesA l q (i : Int)).take j) X), (j : Int))) q.Atoms.length (nfl (pass (rulesA l q (i : Int)) X)) (fun j hi => by
  have hl := rulesA_len (l := l) (q := q) (skip := (i : Int))
  have n3 := V.n3
  rw [pass_take (by omega), rulesA_get]
  have hin : In4 (pass ((rulesA l q (i : Int)).take j) X) := pass_in hX fun r hr => rulesA_in r (List.mem_of_mem_take hr)
  generalize pass ((rulesA l q (i : Int)).take j) X = Y at hin
  have hs := small V hi
  have k4 := kvars_len (l := l) (a := q.Atoms[j])
  have a4 := avars_len (t := q.Atoms[j].Terms)
  have y4 := nfl_len (X := Y)
  simp only [f109_2]
  rw [if_pos (by omega), ix_nat hi, w64_succ (by omega)]
  unfold fire ruleA
  rw [atom_get hi]
  by_cases c : ((j : Nat) : Int) ≠ (i : Int)
  ·rw [if_pos c]
   simp only [c, decide_true, Bool.true_and, bS]
   rw [specKV V.big (by omega), bS, has14 (by omega) (by omega), bS, nfl_has hin, specVars (by omega)]
   cases (kvars l q.Atoms[j]).all Y
   ·simp
   ·simp only [if_true, bS]
    rw [bothS (by omega) (by omega), nfl_has hin]; simp [c]
  ·rw [if_neg c]
   simp [c]) (by
  simp only [f109_2]
  rw [if_neg (by omega), List.take_of_length_le (by rw [rulesA_len]; omega)])
 simp only [List.take_zero, pass, List.foldl_nil, Int.natCast_zero, Int.ofNat_zero] at this
 exact this
structure Met (l : List Relation) (q : Query) (i : Nat) (M : List Int) : Prop where
 nd : M.Nodup
 rng : ∀ x ∈ M, 0 <= x /\ x < q.Atoms.length
 own : ((i : Nat) : Int) ∈ M
 snd : ∀ b : Nat, ((b : Nat) : Int) ∈ M -> b = i \/ (avars (atomAt q b).Terms).any (reach l q i) = true
def Shut (l : List Relation) (q : Query) (i : Nat) (M : List Int) : Prop := ∀ a b : Nat, ((a : Nat) : Int) ∈ M -> b < q.Atoms.length -> lnk l q i a b = true -> ((b : Nat) : Int) ∈ M
theorem outer_reach {i a : Nat} (ha : a < q.Atoms.length) (h : a = i \/ (avars (atomAt q a).Terms).any (reach l q i) = true) : Le4 (outer l q i a) (reach l q i) :=
 cl_clo (L := rulesS l q i) rulesS_mono (X := none4) (ruleS l q i a) (List.mem_map.2 ⟨a, List.mem_range.2 ha, rfl⟩) (by
  simp only [ruleS, Bool.or_eq_true, decide_eq_true_eq]; exact h)
theorem Met.more {i : Nat} {M : List Int} {a b : Nat} (h : Met l q i M) (ha : ((a : Nat) : Int) ∈ M) (hb : b < q.Atoms.length) (hn : ¬ ((b : Nat) : Int) ∈ M) (hk : lnk l q i a b = true) : Met l q i (M ++ [((b : Nat) : Int)]) := by
 have hr := h.rng _ ha
 refine ⟨List.nodup_append.2 ⟨h.nd, by simp, fun x hx y hy e => ?_⟩, fun x hx => ?_, List.mem_append_left _ h.own, fun c hc => ?_⟩
 ·rw [List.mem_singleton] at hy; subst e; subst hy; exact hn hx
 ·rcases List.mem_append.1 hx with hx | hx
  ·exact h.rng x hx
  ·rw [List.mem_singleton] at hx; subst hx; omega
 ·rcases List.mem_append.1 hc with hc | hc
  ·exact h.snd c hc
  ·rw [List.mem_singleton] at hc
   have : c = b := by omega
   subst this
   right
   obtain ⟨v, hv, hx⟩ := List.any_eq_true.1 hk
   rw [Bool.and_eq_true, List.contains_iff_mem] at hx
   refine List.any_eq_true.2 ⟨v, hx.1, outer_reach (by omega) (h.snd a ha) v ?_⟩
   unfold outer
   rw [Bool.and_eq_true, List.contains_iff_mem]
   exact ⟨hv, hx.2⟩
theorem Met.len {i : Nat} {M : List Int} (h : Met l q i M) : M.length <= q.Atoms.length := nodup_le h.nd h.rng
theorem Met.hits {i k : Nat} {M : List Int} (h : Met l q i M) (hs : Shut l q i M) (hk : k < q.Atoms.length) (hik : i ≠ k) : M.contains ((k : Nat) : Int) = att l q i k := by
 rw [Bool.eq_iff_iff, List.contains_iff_mem]
 unfold att
 simp only [Bool.and_eq_true, decide_eq_true_eq]
 constructor
 ·intro hm
  exact ⟨hik, (h.snd k hm).resolve_left (fun e => hik e.symm)⟩
 ·rintro ⟨_, ha⟩
  let Z : Int -> Bool := fun v => M.any fun a => outer l q i a.toNat v
  have hz : Clo (rulesS l q i) Z := fun r hr hc v hv => by
   obtain ⟨a, ha, rfl⟩ := List.mem_map.1 hr
   rw [List.mem_range] at ha
   simp only [ruleS, Bool.or_eq_true, decide_eq_true_eq] at hc hv
   have hm : ((a : Nat) : Int) ∈ M := by
    rcases hc with rfl | hc
    ·exact h.own
    ·obtain ⟨w, hw, hx⟩ := List.any_eq_true.1 hc
     obtain ⟨c, hcM, ho⟩ := List.any_eq_true.1 hx
     have hr := h.rng c hcM
     obtain ⟨c, rfl⟩ : ∃ n : Nat, c = n := ⟨c.toNat, by omega⟩
     rw [Int.toNat_natCast] at ho
     unfold outer at ho
     rw [Bool.and_eq_true, List.contains_iff_mem] at ho
     refine hs c a hcM ha (List.any_eq_true.2 ⟨w, ho.1, ?_⟩)
     rw [Bool.and_eq_true, List.contains_iff_mem]
     exact ⟨hw, ho.2⟩
   exact List.any_eq_true.2 ⟨_, hm, by rw [Int.toNat_natCast]; exact hv⟩
  have hle : Le4 (reach l q i) Z := passes_least rulesS_mono hz (fun v hv => by cases hv)
  obtain ⟨v, hv, hx⟩ := List.any_eq_true.1 ha
  obtain ⟨c, hcM, ho⟩ := List.any_eq_true.1 (hle v hx)
  have hr := h.rng c hcM
  obtain ⟨c, rfl⟩ : ∃ n : Nat, c = n := ⟨c.toNat, by omega⟩
  rw [Int.toNat_natCast] at ho
  unfold outer at ho
  rw [Bool.and_eq_true, List.contains_iff_mem] at ho
  refine hs c k hcM hk (List.any_eq_true.2 ⟨v, ho.1, ?_⟩)
  rw [Bool.and_eq_true, List.contains_iff_mem]
  exact ⟨hv, ho.2⟩
structure Grow (l : List Relation) (q : Query) (i : Nat) (M N : List Int) : Prop where
 mtt : Met l q i N
 ext : ∃ t, N = M ++ t /\ (Shut l q i M -> t = [])
theorem Grow.refl {i : Nat} {M : List Int} (h : Met l q i M) : Grow l q i M M := ⟨h, [], by simp, fun _ => rfl⟩
theorem Grow.sub {i : Nat} {M N : List Int} (h : Grow l q i M N) {x : Int} (hx : x ∈ M) : x ∈ N := by
 obtain ⟨t, rfl, _⟩ := h.ext; exact List.mem_append_left _ hx
theorem Grow.trans {i : Nat} {M N O : List Int} (h : Grow l q i M N) (g : Grow l q i N O) : Grow l q i M O := by
 obtain ⟨t, rfl, ht⟩ := h.ext
 obtain ⟨u, rfl, hu⟩ := g.ext
 refine ⟨g.mtt, t ++ u, by rw [List.append_assoc], fun hs => ?_⟩
 have e := ht hs
 subst e
 rw [List.append_nil] at hu
 rw [hu hs]; rfl
theorem Grow.one {i : Nat} {M : List Int} {a b : Nat} (h : Met l q i M) (ha : ((a : Nat) : Int) ∈ M) (hb : b < q.Atoms.length) (hn : ¬ ((b : Nat) : Int) ∈ M) (hk : lnk l q i a b = true) : Grow l q i M (M ++ [((b : Nat) : Int)]) :=
 ⟨h.more ha hb hn hk, _, rfl, fun hs => absurd (hs a b ha hb hk) hn⟩
theorem met4 {i a : Nat} {M : List Int} (V : VQy l q) (h : Met l q i M) (ha : a < q.Atoms.length) : Ens (iter (f109_4 q (nfl (plus l q i)) (a : Int)) (M, 0)) fun N => Grow l q i M N /\ (((a : Nat) : Int) ∈ M -> ∀ b : Nat, b < q.Atoms.length -> lnk l q i a b = true -> ((b : Nat) : Int) ∈ N) := by
 have n3 := V.n3
 refine iter_up (f := f109_4 q (nfl (plus l q i)) (a : Int)) q.Atoms.length (fun y s => s.2 = (y : Int) /\ Grow l q i M s.1 /\ (((a : Nat) : Int) ∈ M -> ∀ b : Nat, b < y -> lnk l q i a b = true -> ((b : Nat) : Int) ∈ s.1)) _ (fun y s hy ⟨s1, s2, s3⟩ => ?_) (fun s ⟨s1, s2, s3⟩ => ?_) _ ⟨rfl, Grow.refl h, fun _ b hb => by omega⟩
 ·obtain ⟨N, y'⟩ := s
  simp only at s1 s2 s3
  subst s1
  have hN := s2.mtt.len
  have hsa := V.terms _ (List.getElem_mem ha)
  have hsb := V.terms _ (List.getElem_mem hy)
  have va := avars_len (t := q.Atoms[a].Terms)
  have vb := avars_len (t := q.Atoms[y].Terms)
  have p4 := nfl_len (X := plus l q i)
  simp only [f109_4]
  rw [if_pos (by omega), hasI (by omega), bS, hasI (by omega), ix_nat ha, ix_nat hy, w64_succ (by omega)]
  simp only [bS]
  rw [specVars (by omega), specVars (by omega), bS, bS, shareS (by omega) (by omega) (by omega), nfl_has plus_in]
  have ek : ((avars q.Atoms[a].Terms).any fun v => (avars q.Atoms[y].Terms).contains v && !plus l q i v) = lnk l q i a y := by
   unfold lnk; rw [atom_get ha, atom_get hy]
  rw [ek]
  by_cases cm : ((a : Nat) : Int) ∈ N
  ·have cm' : N.contains ((a : Nat) : Int) = true := by rw [List.contains_iff_mem]; exact cm
   rw [cm']
   by_cases cy : ((y : Nat) : Int) ∈ N
   ·have cy' : N.contains ((y : Nat) : Int) = true := by rw [List.contains_iff_mem]; exact cy
    rw [cy']
    simp only [not_true_eq_false, if_false, if_true, bS, Bool.false_eq_true]
    refine ⟨_, rfl, rfl, s2, fun hm b hb hl => ?_⟩
    by_cases e : b = y
    ·subst e; exact cy
    ·exact s3 hm b (by omega) hl
   ·have cy' : N.contains ((y : Nat) : Int) = false := by
     cases hc : N.contains ((y : Nat) : Int)
     ·rfl
     ·rw [List.contains_iff_mem] at hc; exact absurd hc cy
    rw [cy']
    simp only [Bool.false_eq_true, not_false_eq_true, if_true, bS]
    cases hl : lnk l q i a y
    ·simp only [Bool.false_eq_true, if_false, bS]
     refine ⟨_, rfl, rfl, s2, fun hm b hb hb' => ?_⟩
     by_cases e : b = y
     ·subst e; rw [hl] at hb'; cases hb'
     ·exact s3 hm b (by omega) hb'
    ·simp only [if_true]
     rw [app_fits (by simp; omega), bS, bS]
     have g := Grow.one s2.mtt cm hy cy hl
     refine ⟨_, rfl, rfl, s2.trans g, fun hm b hb hb' => ?_⟩
     by_cases e : b = y
     ·subst e; simp
     ·exact List.mem_append_left _ (s3 hm b (by omega) hb')
  ·have cm' : N.contains ((a : Nat) : Int) = false := by
    cases hc : N.contains ((a : Nat) : Int)
    ·rfl
    ·rw [List.contains_iff_mem] at hc; exact absurd hc cm
   rw [cm']
   simp only [Bool.false_eq_true, if_false, bS]
   exact ⟨_, rfl, rfl, s2, fun hm => absurd (s2.sub hm) cm⟩
 ·obtain ⟨N, y'⟩ := s
  simp only at s1 s2 s3
  subst s1
  simp only [f109_4]
  rw [if_neg (by omega)]
  exact ⟨_, rfl, s2, s3⟩
theorem met3 {i : Nat} {M : List Int} (V : VQy l q) (h : Met l q i M) : Ens (iter (f109_3 q (nfl (plus l q i))) (M, 0)) fun N => Grow l q i M N /\ ∀ a : Nat, ((a : Nat) : Int) ∈ M -> ∀ b : Nat, b < q.Atoms.length -> lnk l q i a b = true -> ((b : Nat) : Int) ∈ N := by
 have n3 := V.n3
 refine iter_up (f := f109_3 q (nfl (plus l q i))) q.Atoms.length (fun y s => s.2 = (y : Int) /\ Grow l q i M s.1 /\ ∀ a : Nat, a < y -> ((a : Nat) : Int) ∈ M -> ∀ b : Nat, b < q.Atoms.length -> lnk l q i a b = true -> ((b : Nat) : Int) ∈ s.1) _ (fun y s hy ⟨s1, s2, s3⟩ => ?_) (fun s ⟨s1, s2, s3⟩ => ?_) _ ⟨rfl, Grow.refl h, fun a ha => by omega⟩
 ·obtain ⟨N, y'⟩ := s
  simp only at s1 s2 s3
  subst s1
  simp only [f109_3]
  obtain ⟨O, e, g1, g2⟩ := met4 V s2.mtt hy
  rw [if_pos (by omega), e, bS, w64_succ (by omega)]
  refine ⟨_, rfl, rfl, s2.trans g1, fun a ha hm b hb hl => ?_⟩
  by_cases ea : a = y
  ·subst ea; exact g2 (s2.sub hm) b hb hl
  ·exact g1.sub (s3 a (by omega) hm b hb hl)
 ·obtain ⟨N, y'⟩ := s
  simp only at s1 s2 s3
  subst s1
  simp only [f109_3]
  rw [if_neg (by omega)]
  refine ⟨_, rfl, s2, fun a hm => s3 a ?_ hm⟩
  have := h.rng _ hm
  omega
theorem met1 {i : Nat} (V : VQy l q) (hi : i < q.Atoms.length) : Ens (iter (f109_1 q (nfl (plus l q i))) ([((i : Nat) : Int)], 0)) fun M => Met l q i M /\ Shut l q i M := by
 have n3 := V.n3
 have h0 : Met l q i [((i : Nat) : Int)] := ⟨by simp, fun x hx => by rw [List.mem_singleton] at hx; subst hx; omega, by simp, fun b hb => by rw [List.mem_singleton] at hb; left; omega⟩
 refine iter_up (f := f109_1 q (nfl (plus l q i))) q.Atoms.length (fun y s => s.2 = (y : Int) /\ Met l q i s.1 /\ (Shut l q i s.1 \/ y + 1 <= s.1.length)) _ (fun y s hy ⟨s1, s2, s3⟩ => ?_) (fun s ⟨s1, s2, s3⟩ => ?_) _ ⟨rfl, h0, .inr (by simp)⟩
 ·obtain ⟨N, y'⟩ := s
  simp only at s1 s2 s3
  subst s1
  simp only [f109_1]
  obtain ⟨O, e, g1, g2⟩ := met3 V s2
  rw [if_pos (by omega), e, bS, w64_succ (by omega)]
  refine ⟨_, rfl, rfl, g1.mtt, ?_⟩
  obtain ⟨t, et, ht⟩ := g1.ext
  dsimp only
  by_cases c : t = []
  ·subst c
   rw [List.append_nil] at et
   subst et
   exact .inl fun a b ha hb hl => g2 a ha b hb hl
  ·right
   have hn : ¬ Shut l q i N := fun hs => c (ht hs)
   have := s3.resolve_left hn
   have := List.length_pos_iff.2 c
   rw [et, List.length_append]; omega
 ·obtain ⟨N, y'⟩ := s
  simp only at s1 s2 s3
  subst s1
  simp only [f109_1]
  rw [if_neg (by omega)]
  refine ⟨_, rfl, s2, s3.resolve_right fun h => ?_⟩
  have := s2.len
  omega
theorem att17 {i k : Nat} (V : VQy l q) (hi : i < q.Atoms.length) (hk : k < q.Atoms.length) : f109 l q (i : Int) (k : Int) = some (att l q i k) := by
 unfold f109
 have n3 := V.n3
 have f4 := V.free4
 by_cases c : i = k
 ·rw [if_pos (by omega)]
  unfold att; simp [c]
 rw [if_neg (by omega)]
 have hs := V.terms _ (List.getElem_mem hi)
 have k4 := kvars_len (l := l) (a := q.Atoms[i])
 rw [ix_nat hi, bS, specKV V.big (by omega), bS, bothS (by omega) (by omega), bS]
 have e0 : nfl (cupX q.Free.contains (kvars l q.Atoms[i]).contains) = nfl (setOf q (kvars l (atomAt q i))) := by
  rw [nfl_setOf, atom_get hi]
  exact nfl_congr fun v _ => by unfold cupX; rw [Bool.or_comm]
 rw [e0]
 have := iter_steps (f := f109_0 l q (i : Int)) (fun j => (nfl (passes (rulesA l q (i : Int)) j (setOf q (kvars l (atomAt q i)))), (j : Int))) q.Atoms.length (nfl (plus l q i)) (fun j hj => by
  simp only [f109_0]
  rw [if_pos (by omega), round17 V (passes_in setOf_in rulesA_in), bS, w64_succ (by omega)]; rfl) (by
  simp only [f109_0]
  rw [if_neg (by omega)]
  unfold plus closX cl
  rw [rulesA_len])
 simp only [passes, Int.natCast_zero, Int.ofNat_zero] at this
 rw [this, bS]
 obtain ⟨M, e, h1, h2⟩ := met1 V hi
 have := h1.len
 rw [e, bS, hasI (by omega), bS, h1.hits h2 hk c]
def hit (l : List Relation) (q : Query) (k : Nat) : Bool := (List.range q.Atoms.length).any fun i => att l q i k
def fstU (l : List Relation) (q : Query) : Option Nat := (List.range q.Atoms.length).find? fun k => !hit l q k
theorem first17 (V : VQy l q) : f44 l q = some (match fstU l q with | some k => (k : Int) | none => -1) := by
 unfold f44
 have n3 := V.n3
 refine Ens.eq (Q := fun r => r = match fstU l q with | some k => (k : Int) | none => -1) (Ens.bind (Q := fun o => match o with | .inl _ => fstU l q = none | .inr x => ∃ k, fstU l q = some k /\ x = (k : Int)) ?_ fun o ho => ?_) _ fun _ h => h
 ·refine iter_up (f := f44_0 l q) q.Atoms.length (fun y s => s = (y : Int) /\ ∀ k, k < y -> hit l q k = true) _ (fun y s hy ⟨s1, s2⟩ => ?_) (fun s ⟨s1, s2⟩ => ?_) _ ⟨rfl, fun k hk => by omega⟩
  ·subst s1
   simp only [f44_0]
   have it := iter_foldl (f := f44_1 l q (y : Int)) (b0 := false) (List.range q.Atoms.length) (fun b i => b || att l q i y) id (fun i hi b => by
    simp only [List.length_range] at hi
    simp only [f44_1, List.getElem_range]
    rw [if_pos (by omega), att17 V hi hy, w64_succ (by omega)]
    cases b <;> simp) (fun b => by
    simp only [f44_1]
    rw [if_neg (by simp)]; rfl)
   rw [foldl_any] at it
   rw [if_pos (by omega), it, bS]
   dsimp only [id]
   cases hh : hit l q y
   ·have hh' : ((List.range q.Atoms.length).any fun i => att l q i y) = false := hh
    rw [hh', Bool.or_false, if_pos (by simp)]
    refine ⟨_, rfl, y, ?_, rfl⟩
    unfold fstU
    rw [List.find?_eq_some_iff_getElem]
    refine ⟨by simp [hh], y, by simpa using hy, by simp, fun j hj => ?_⟩
    simp [s2 j hj]
   ·have hh' : ((List.range q.Atoms.length).any fun i => att l q i y) = true := hh
    rw [hh', Bool.or_true, if_neg (by simp), w64_succ (by omega)]
    refine ⟨_, rfl, rfl, fun k hk => ?_⟩
    by_cases e : k = y
    ·subst e; exact hh
    ·exact s2 k (by omega)
  ·subst s1
   simp only [f44_0]
   rw [if_neg (by omega)]
   refine ⟨_, rfl, ?_⟩
   unfold fstU
   rw [List.find?_eq_none]
   intro k hk
   rw [List.mem_range] at hk
   simp [s2 k hk]
 ·match o, ho with
  | .inl _, h => exact Ens.of (by rw [h])
  | .inr x, ⟨k, hk, e⟩ => exact Ens.of (by rw [hk, e])
end
end
section
section
variable {l : List Relation} {q : Query}
structure RemQ (l : List Relation) (q : Query) : Prop where
 big : Big l.length
 rels : vRels l = true
 n3 : q.Atoms.length <= 3
 terms : ∀ a ∈ q.Atoms, a.Terms.length <= 3
 free : In4 q.Free.contains
 free4 : q.Free.length <= 4
theorem RemQ.vq (h : RemQ l q) (h1 : 1 <= q.Atoms.length) : VQy l q := ⟨h.big, ⟨by have := h.n3; omega, fun a ha => by have := h.terms a ha; omega, by have := h.free4; omega⟩, h.rels, h1, h.n3, h.terms, h.free, h.free4⟩
theorem VQy.rq (V : VQy l q) : RemQ l q := ⟨V.big, V.rels, V.n3, V.terms, V.free, V.free4⟩
def rest (q : Query) (k : Nat) : Query := ⟨q.VariableCount, q.Atoms.eraseIdx k, nfl (cupX q.Free.contains (avars (atomAt q k).Terms).contains)⟩
theorem RemQ.rest (h : RemQ l q) (k : Nat) : RemQ l (rest q k) := ⟨h.big, h.rels, by
  have := h.n3
  have := List.length_eraseIdx_le (l := q.Atoms) (i := k)
  unfold YtjfeimhiiomgoaaGreatH.rest
  dsimp only; omega, fun a ha => h.terms a (List.mem_of_mem_eraseIdx ha), nfl_in, nfl_len⟩
def exF (l : List Relation) (q : Query) (k : Nat) : Int -> Bool := fun v => (kvars l (atomAt q k)).contains v && !q.Free.contains v
def unF (l : List Relation) (q : Query) (k : Nat) : Int -> Bool := fun v => (avars (atomAt q k).Terms).contains v && !(kvars l (atomAt q k)).contains v && !q.Free.contains v
def stp (l : List Relation) (q : Query) (k : Nat) : RewritingStep := ⟨atomAt q k, nfl (exF l q k), nfl (unF l q k)⟩
def rwg (l : List Relation) : Nat -> Query -> Option (List RewritingStep)
 | 0, _ => some []
 | n + 1, q => match fstU l q with
  | none => none
  | some k => match rwg l n (rest q k) with
   | none => none
   | some f => some (stp l q k :: f)
theorem fstU_lt {k : Nat} (h : fstU l q = some k) : k < q.Atoms.length /\ hit l q k = false := by
 unfold fstU at h
 have h1 := List.find?_some h
 have h2 := List.mem_of_find?_eq_some h
 rw [List.mem_range] at h2
 exact ⟨h2, by simpa using h1⟩
theorem asked17 {k : Nat} (h : RemQ l q) (hk : k < q.Atoms.length) : f47 q (k : Int) = some (rest q k) := by
 have n3 := h.n3
 have f4 := h.free4
 unfold f47 f112
 have hm : QM q := ⟨by omega, fun a ha => by have := h.terms a ha; omega, by omega⟩
 have ha := h.terms _ (List.getElem_mem hk)
 have vl := avars_len (t := q.Atoms[k].Terms)
 rw [copyQ hm, bS, specIn, w64_of (by omega), bS, show btw (k : Int) 0 ((q.Atoms.length : Int) - 1) = true by unfold btw; simp; omega, if_pos rfl, w64_of (by omega), cutL_ok (by omega) (by omega) (by omega), bS, cutL_ok (by omega) (by omega) (by omega), bS, app_fits (by simp; omega), bS, app_fits (by simp; omega), bS, bS, bS, ix_nat hk, bS, specVars (by omega), bS, bothS (by omega) (by omega), bS]
 unfold rest
 rw [atom_get hk]
 congr 2
 rw [List.eraseIdx_eq_take_drop_succ]
 simp [show ((k : Int) + 1).toNat = k + 1 by omega]
theorem nfl_step {X : Int -> Bool} {j : Nat} : ((List.range (j + 1)).flatMap fun v => if X ((v : Nat) : Int) = true then [((v : Nat) : Int)] else []) = ((List.range j).flatMap fun v => if X ((v : Nat) : Int) = true then [((v : Nat) : Int)] else []) ++ (if X ((j : Nat) : Int) = true then [((j : Nat) : Int)] else []) := by
 rw [List.range_succ, List.flatMap_append]; simp
theorem nfl_part {X : Int -> Bool} {j : Nat} : ((List.range j).flatMap fun v => if X ((v : Nat) : Int) = true then [((v : Nat) : Int)] else []).length <= j := by
 induction j with
 | zero => simp
 | succ j ih =>
  rw [nfl_step, List.length_append]
  split
  ·simp only [List.length_singleton]; omega
  ·simp only [List.length_nil]; omega
theorem kvars_sub {a : Atom} (v : Int) (h : (kvars l a).contains v = true) : a.Terms.contains v = true := by
 unfold kvars at h
 split at h
 ·rw [List.contains_iff_mem, avars_mem] at h
  rw [List.contains_iff_mem]; exact List.mem_of_mem_take h.1
 ·simp at h
theorem kvars_nfl {a : Atom} : kvars l a = nfl (kvars l a).contains := by
 unfold kvars
 split
 ·rw [avars_nfl, nfl_idem]
 ·rw [show ([] : List Int).contains = fun _ => false by funext v; rfl, nfl_nil]
theorem vars17 {k : Nat} {r : Int} {t : List Int} (h : RemQ l q) (hk : k < q.Atoms.length) : iter (f8_1 l q.Free q.Atoms[k]) (r, t, [], [], 0) = some (r, t, nfl (exF l q k), nfl (unF l q k)) := by
 have f4 := h.free4
 have ha := h.terms _ (List.getElem_mem hk)
 have kl := kvars_len (l := l) (a := q.Atoms[k])
 have hki : ∀ v, (kvars l q.Atoms[k]).contains v = true -> q.Atoms[k].Terms.contains v = true := kvars_sub
 have := iter_steps (f := f8_1 l q.Free q.Atoms[k]) (fun j => (r, t, ((List.range j).flatMap fun v => if exF l q k ((v : Nat) : Int) = true then [((v : Nat) : Int)] else []), ((List.range j).flatMap fun v => if unF l q k ((v : Nat) : Int) = true then [((v : Nat) : Int)] else []), (j : Int))) 4 (r, t, nfl (exF l q k), nfl (unF l q k)) (fun j hj => by
  have n1 := nfl_part (X := exF l q k) (j := j)
  have n2 := nfl_part (X := unF l q k) (j := j)
  rw [nfl_step, nfl_step]
  generalize ((List.range j).flatMap fun v => if exF l q k ((v : Nat) : Int) = true then [((v : Nat) : Int)] else []) = A at n1 ⊢
  generalize ((List.range j).flatMap fun v => if unF l q k ((v : Nat) : Int) = true then [((v : Nat) : Int)] else []) = B at n2 ⊢
  simp only [f8_1]
  rw [if_pos (by omega), hasI (by omega), bS, hasI (by omega), bS, specKV h.big (by omega), bS, hasI (by omega), bS, app_fits (by simp; omega), bS, app_fits (by simp; omega), bS, w64_succ (by omega)]
  have ev : (avars q.Atoms[k].Terms).contains (j : Int) = q.Atoms[k].Terms.contains (j : Int) := by
   rw [Bool.eq_iff_iff, List.contains_iff_mem, List.contains_iff_mem, avars_mem]
   exact ⟨fun h => h.1, fun h => ⟨h, by unfold btw; simp; omega⟩⟩
  have hkj := hki (j : Int)
  unfold exF unF
  rw [atom_get hk, ev]
  cases q.Free.contains (j : Int) <;> cases ht : q.Atoms[k].Terms.contains (j : Int) <;> cases hc : (kvars l q.Atoms[k]).contains (j : Int) <;> first | (exfalso; rw [hkj hc] at ht; cases ht; done) | simp) (by
  simp only [f8_1]
  rw [if_neg (by omega)]
  rfl)
 exact this
theorem loop17 : ∀ (n : Nat) (out : List RewritingStep) (q : Query), RemQ l q -> q.Atoms.length = n -> out.length + n <= 3 -> iter (f8_0 l) (out, q.VariableCount, q.Atoms, q.Free) = some (match rwg l n q with | some f => .inl (out ++ f) | none => .inr ([], false))
 | 0, out, q, h, hn, ho => by
  rw [iter_eq]
  simp only [f8_0, rwg]
  rw [if_neg (by omega)]
  simp
 | n + 1, out, q, h, hn, ho => by
  have V := h.vq (by omega)
  have f4 := h.free4
  rw [iter_eq]
  simp only [f8_0, rwg]
  rw [if_pos (by omega), first17 V, bS]
  cases hf : fstU l q with
  | none => simp
  | some k =>
   have hk := (fstU_lt hf).1
   have ha := h.terms _ (List.getElem_mem hk)
   dsimp only
   rw [if_neg (by omega), ix_nat hk, bS, app_fits (by simp; omega), bS, vars17 h hk, bS, app_fits (by simp; omega), bS, asked17 h hk, bS]
   have := loop17 n (out ++ [stp l q k]) (rest q k) (h.rest k) (by unfold rest; dsimp only; rw [List.length_eraseIdx_of_lt hk]; omega) (by simp; omega)
   have e : (⟨⟨q.Atoms[k].Relation, [] ++ q.Atoms[k].Terms⟩, nfl (exF l q k), nfl (unF l q k)⟩ : RewritingStep) = stp l q k := by
    unfold stp; rw [atom_get hk]; rfl
   dsimp only
   rw [e]
   refine this.trans ?_
   cases rwg l n (rest q k) <;> simp
theorem attackImp {i k : Nat} (V : VQy l q) (hi : i < q.Atoms.length) (hk : k < q.Atoms.length) : f120 l q.Atoms q.Free (i : Int) (k : Int) = some (att l q i k) := by
 unfold f120 att
 have n3 := V.n3
 have hs := V.terms _ (List.getElem_mem hk)
 have a4 := avars_len (t := q.Atoms[k].Terms)
 have r4 := nfl_len (X := reach l q i)
 rw [ix_nat hk, bS, impVars (by omega), bS, atom_get hk]
 by_cases c : i = k
 ·simp [c]
 rw [if_pos (by omega), attImp V hi, bS, withoutI (by omega) (by omega), nfl_has reach_in, bS, filter_lt]
 simp [c]
def frees (l : List Relation) (q : Query) : List Int := (List.range q.Atoms.length).flatMap fun k => if hit l q k = false then [((k : Nat) : Int)] else []
theorem frees_part {j : Nat} : (((List.range q.Atoms.length).take j).flatMap fun k => if hit l q k = false then [((k : Nat) : Int)] else []).length <= j := by
 have := take_flat_le (l := List.range q.Atoms.length) (i := j) (g := fun k => if hit l q k = false then [((k : Nat) : Int)] else []) (m := 1) (fun a => by split <;> simp)
 omega
theorem unattImp (V : VQy l q) : f52 l q.Atoms q.Free = some (frees l q) := by
 unfold f52
 have n3 := V.n3
 rw [iter_flat (List.range q.Atoms.length) (fun k => if hit l q k = false then [((k : Nat) : Int)] else []) id (fun y hy => by
  simp only [List.length_range] at hy
  have el := frees_part (l := l) (q := q) (j := y)
  generalize (((List.range q.Atoms.length).take y).flatMap fun k => if hit l q k = false then [((k : Nat) : Int)] else []) = out at el ⊢
  have it := iter_foldl (f := f52_1 l q.Atoms q.Free (y : Int)) (b0 := true) (List.range q.Atoms.length) (fun b i => b && !att l q i y) id (fun i hi b => by
   simp only [List.length_range] at hi
   simp only [f52_1, List.getElem_range]
   rw [if_pos (by omega), attackImp V hi hy, w64_succ (by omega)]
   cases b <;> simp) (fun b => by
   simp only [f52_1]
   rw [if_neg (by simp)]; rfl)
  have ef : (List.range q.Atoms.length).foldl (fun b i => b && !att l q i y) true = !hit l q y := by
   unfold hit
   have g : ∀ (L : List Nat) (b : Bool), L.foldl (fun b i => b && !att l q i y) b = (b && !L.any fun i => att l q i y) := by
    intro L
    induction L with
    | nil => intro b; simp
    | cons a L ih => intro b; rw [List.foldl_cons, ih, List.any_cons]; cases b <;> cases att l q a y <;> simp
   rw [g]; simp
  rw [ef] at it
  simp only [f52_0, List.getElem_range]
  rw [if_pos (by omega), it, bS, w64_succ (by omega)]
  dsimp only [id]
  cases hit l q y
  ·simp only [Bool.not_false, if_true]
   rw [app_fits (by simp; omega)]; rfl
  ·simp) (by
  simp only [f52_0]
  rw [if_neg (by simp)]; rfl)]
 rfl
theorem frees_first : (frees l q).head? = (fstU l q).map fun k => ((k : Nat) : Int) := by
 unfold frees fstU
 have g : ∀ L : List Nat, (L.flatMap fun k => if hit l q k = false then [((k : Nat) : Int)] else []).head? = (L.find? fun k => !hit l q k).map fun k => ((k : Nat) : Int) := by
  intro L
  induction L with
  | nil => rfl
  | cons a L ih =>
   rw [List.flatMap_cons, List.find?_cons]
   cases hit l q a
   ·simp
   ·simpa using ih
 exact g _
def rwo (l : List Relation) (q : Query) : List RewritingStep × Bool := if cls l q = 1 then (match rwg l q.Atoms.length q with | some f => (f, true) | none => ([], false)) else ([], false)
theorem rwSpec (hl : Big l.length) (hq : FitsQ q) : f8 l q = some (rwo l q) := by
 unfold f8 rwo
 rw [clsSpec hl hq, bS]
 by_cases hc : cls l q = 1
 ·have hv : vQuery l q = true := by
   unfold cls at hc
   split at hc
   ·assumption
   ·simp at hc
  have V := vq_of hl hq hv
  have n3 := V.n3
  have f4 := V.free4
  rw [if_neg (by simpa using hc), copyQ ⟨by omega, fun a ha => by have := V.terms a ha; omega, by omega⟩, bS, loop17 q.Atoms.length [] q V.rq rfl (by simpa using n3), bS, if_pos hc]
  cases rwg l q.Atoms.length q <;> simp
 ·rw [if_pos (by simpa using hc), if_neg hc]
theorem copyAt {a : Atom} (h : a.Terms.length <= 1048576) : f53 a = some a := by
 unfold f53
 rw [app_fits (by simp; omega)]; rfl
theorem loopImp : ∀ (n : Nat) (out : List RewritingStep) (q : Query), RemQ l q -> q.Atoms.length = n -> out.length + n <= 3 -> iter (f11_0 l) (out, q.Free, q.Atoms) = some (match rwg l n q with | some f => .inl (out ++ f) | none => .inr ([], false))
 | 0, out, q, h, hn, ho => by
  rw [iter_eq]
  simp only [f11_0, rwg]
  rw [if_neg (by omega)]
  simp
 | n + 1, out, q, h, hn, ho => by
  have V := h.vq (by omega)
  have f4 := h.free4
  have ff := frees_first (l := l) (q := q)
  rw [iter_eq]
  simp only [f11_0, rwg]
  rw [if_pos (by omega), unattImp V, bS]
  cases hf : fstU l q with
  | none =>
   rw [hf] at ff
   have : frees l q = [] := List.head?_eq_none_iff.1 ff
   rw [this, if_pos (by simp)]
  | some k =>
   rw [hf] at ff
   obtain ⟨t, et⟩ : ∃ t, frees l q = (k : Int) :: t := by
    cases hh : frees l q with
    | nil => rw [hh] at ff; simp at ff
    | cons a t => rw [hh] at ff; simp at ff; exact ⟨t, by rw [ff]⟩
   have hk := (fstU_lt hf).1
   have ha := h.terms _ (List.getElem_mem hk)
   have k4 := kvars_len (l := l) (a := q.Atoms[k])
   have a4 := avars_len (t := q.Atoms[k].Terms)
   have ef : frees l q = (k : Int) :: t := et
   have e0 : ix ((k : Int) :: t) 0 = some (k : Int) := ix_nat (i := 0) (by simp)
   rw [ef, if_neg (by simp; omega), e0, bS, ix_nat hk, bS, copyAt (by omega), bS, impKV h.big (by omega), bS, impVars (by omega), bS, withoutI (by omega) (by omega), bS, withoutI (by omega) (by omega), bS]
   have l1 := List.length_filter_le (fun v => !(kvars l q.Atoms[k]).contains v) (avars q.Atoms[k].Terms)
   rw [withoutI (by omega) (by omega), bS, app_fits (by simp; omega), bS, unionI (by omega) h.free avars_in, bS]
   have ex : (kvars l q.Atoms[k]).filter (fun v => !q.Free.contains v) = nfl (exF l q k) := by
    rw [kvars_nfl, nfl_filter]
    exact nfl_congr fun v hv => by
     unfold exF; rw [atom_get hk]
   have un : ((avars q.Atoms[k].Terms).filter fun v => !(kvars l q.Atoms[k]).contains v).filter (fun v => !q.Free.contains v) = nfl (unF l q k) := by
    rw [avars_nfl, nfl_filter, nfl_filter]
    exact nfl_congr fun v hv => by
     unfold unF
     rw [atom_get hk, avars_nfl]
     congr 2
     rw [Bool.eq_iff_iff, List.contains_iff_mem, List.contains_iff_mem]
     constructor
     ·intro hm; exact nfl_mem.2 ⟨by rw [List.contains_iff_mem]; exact hm, hv⟩
     ·intro hm; have := (nfl_mem.1 hm).1; rwa [List.contains_iff_mem] at this
   rw [ex, un]
   have e : (⟨q.Atoms[k], nfl (exF l q k), nfl (unF l q k)⟩ : RewritingStep) = stp l q k := by
    unfold stp; rw [atom_get hk]
   rw [e]
   have del : delN 32 q.Atoms (k : Int) (w64 ((k : Int) + 1)) = some (q.Atoms.eraseIdx k) := by
    unfold delN
    rw [if_pos ⟨by omega, by omega, w64_of (by omega), by have := h.n3; omega⟩, Int.toNat_natCast]
   have cl : f59 q.Atoms = some q.Atoms := by
    unfold f59
    rw [app_fits (by simp; omega)]; rfl
   unfold f58
   rw [cl, bS, del, bS]
   have := loopImp n (out ++ [stp l q k]) (rest q k) (h.rest k) (by unfold rest; dsimp only; rw [List.length_eraseIdx_of_lt hk]; omega) (by simp; omega)
   have er : (rest q k).Free = nfl (cupX q.Free.contains (avars q.Atoms[k].Terms).contains) := by unfold rest; rw [atom_get hk]
   rw [er] at this
   refine this.trans ?_
   cases hr : rwg l n (rest q k) <;> simp [hr]
theorem rwImp (hl : Big l.length) (hq : FitsQ q) : f11 l q = some (rwo l q) := by
 unfold f11 rwo
 rw [clsImp hl hq, bS]
 by_cases hc : cls l q = 1
 ·have hv : vQuery l q = true := by
   unfold cls at hc
   split at hc
   ·assumption
   ·simp at hc
  have V := vq_of hl hq hv
  have n3 := V.n3
  rw [if_neg (by simpa using hc), loopImp q.Atoms.length [] q V.rq rfl (by simpa using n3), bS, if_pos hc]
  cases rwg l q.Atoms.length q <;> simp
 ·rw [if_pos (by simpa using hc), if_neg hc]
end
end
section
section
variable {l : List Relation} {q : Query}
theorem rwg_fits : ∀ (n : Nat) (q : Query) (f : List RewritingStep), RemQ l q -> q.Atoms.length = n -> rwg l n q = some f -> f.length = n /\ ∀ x ∈ f, x.Atom ∈ q.Atoms /\ x.Existential.length <= 4 /\ x.Universal.length <= 4
 | 0, q, f, h, hn, hf => by
  simp only [rwg, zJ] at hf
  subst hf
  exact ⟨rfl, by simp⟩
 | n + 1, q, f, h, hn, hf => by
  rw [rwg] at hf
  cases hu : fstU l q with
  | none => rw [hu] at hf; cases hf
  | some k =>
   rw [hu] at hf
   dsimp only at hf
   have hk := (fstU_lt hu).1
   cases hr : rwg l n (rest q k) with
   | none => rw [hr] at hf; cases hf
   | some g =>
    rw [hr] at hf
    simp only [zJ] at hf
    subst hf
    obtain ⟨g1, g2⟩ := rwg_fits n (rest q k) g (h.rest k) (by unfold rest; dsimp only; rw [List.length_eraseIdx_of_lt hk]; omega) hr
    refine ⟨by simp [g1], fun x hx => ?_⟩
    rcases List.mem_cons.1 hx with rfl | hx
    ·refine ⟨?_, nfl_len, nfl_len⟩
     show atomAt q k ∈ q.Atoms
     rw [atom_get hk]; exact List.getElem_mem hk
    ·obtain ⟨a, b, c⟩ := g2 x hx
     exact ⟨List.mem_of_mem_eraseIdx a, b, c⟩
theorem rwo_fits (hl : Big l.length) (hq : FitsQ q) : (rwo l q).1.length <= 3 /\ ∀ x ∈ (rwo l q).1, x.Atom.Terms.length <= 3 /\ x.Existential.length <= 4 /\ x.Universal.length <= 4 := by
 unfold rwo
 by_cases hc : cls l q = 1
 ·have hv : vQuery l q = true := by
   unfold cls at hc
   split at hc
   ·assumption
   ·simp at hc
  have V := vq_of hl hq hv
  rw [if_pos hc]
  cases hf : rwg l q.Atoms.length q with
  | none => simp
  | some f =>
   obtain ⟨g1, g2⟩ := rwg_fits _ q f V.rq rfl hf
   have := V.n3
   refine ⟨by simp only; omega, fun x hx => ?_⟩
   obtain ⟨a, b, c⟩ := g2 x hx
   exact ⟨V.terms _ a, b, c⟩
 ·rw [if_neg hc]; simp
end
end
section
theorem cloneI {a : List Int} (h : a.length <= 1048576) : f192 a = some a := by
 unfold f192
 rw [app_fits (by simp; omega), bS, List.nil_append]
theorem uni_nil {ts vs x : List Int} (h : ts = []) : uni ts vs x = some x := by subst h; rfl
theorem set_same {x : List Int} {i : Nat} {v : Int} (h : i < x.length) (e : x[i] = v) : x.set i v = x := by subst e; exact List.set_getElem_self h
def FitT (n : Nat) (ts vs : List Int) : Prop := ts.length = vs.length /\ ts.length <= 1048576 /\ ∀ t ∈ ts, -10 <= t /\ t < n
theorem impUni {x ts vs : List Int} (hx : x.length <= 8) (h : FitT x.length ts vs) : f183 x ts vs = some (match uni ts vs x with | some y => (y, true) | none => ([], false)) := by
 obtain ⟨h1, h2, h3⟩ := h
 unfold f183
 rw [cloneI (by omega), bS]
 obtain ⟨o, e, rfl⟩ := iter_up (f := f183_0 ts vs) ts.length (fun i s => ∃ y, s = (y, (i : Int)) /\ uni (ts.drop i) (vs.drop i) y = uni ts vs x /\ y.length = x.length)
  (fun o => o = (match uni ts vs x with | some y => .inl y | none => .inr ([], false))) (fun i s hi ⟨y, hs, hu, hl⟩ => by
   subst hs
   have hv : i < vs.length := by omega
   have ht := h3 _ (List.getElem_mem hi)
   rw [List.drop_eq_getElem_cons hi, List.drop_eq_getElem_cons hv, uni] at hu
   simp only [f183_0]
   rw [if_pos (by omega), ix_nat hi, bS, w64_succ (by omega)]
   unfold f224 f225
   simp only [bS, ix_nat hv]
   by_cases c1 : ts[i] < 0
   ·rw [if_pos c1] at hu
    rw [if_pos (by simpa using c1), w64_of (by omega)]
    by_cases c2 : -1 - ts[i] = vs[i]
    ·rw [if_pos c2] at hu
     rw [if_neg (by simpa using c2)]
     exact ⟨_, rfl, y, rfl, hu, hl⟩
    ·rw [if_neg c2] at hu
     rw [if_pos (by simpa using c2)]
     refine ⟨_, rfl, ?_⟩
     rw [<- hu]
   ·rw [if_neg c1] at hu
    have hb : ts[i].toNat < y.length := by omega
    rw [if_neg (by simpa using c1), ix_of (by omega), zE hb, bS]
    have ed : y.getD ts[i].toNat 0 = y[ts[i].toNat] := by rw [zD, zE hb]; rfl
    rw [ed] at hu
    by_cases c2 : y[ts[i].toNat] < 0
    ·rw [if_pos c2] at hu
     rw [if_pos c2]
     exact ⟨_, rfl, _, rfl, hu, by rw [List.length_set]; exact hl⟩
    ·rw [if_neg c2] at hu
     rw [if_neg c2]
     by_cases c3 : y[ts[i].toNat] = vs[i]
     ·rw [if_pos c3] at hu
      rw [if_neg (by simpa using c3)]
      exact ⟨_, rfl, y, rfl, hu, hl⟩
     ·rw [if_neg c3] at hu
      rw [if_pos (by simpa using c3)]
      refine ⟨_, rfl, ?_⟩
      rw [<- hu]) (fun s ⟨y, hs, hu, hl⟩ => by
   subst hs
   simp only [f183_0]
   rw [if_neg (by omega)]
   rw [uni_nil (List.drop_of_length_le (Nat.le_refl _))] at hu
   exact ⟨_, rfl, by rw [<- hu]⟩) (x, 0) ⟨x, rfl, by simp, rfl⟩
 rw [e, bS]
 cases uni ts vs x <;> rfl
theorem specMeet {x : List Int} {a : Atom} {f : Fact} (hx : x.length <= 8) (h : f.Relation = a.Relation -> FitT x.length a.Terms f.Values) :
  Ens (f174 a f x) fun r => match (if f.Relation = a.Relation then uni a.Terms f.Values x else none) with | some y => r = (y, true) | none => r.2 = false := by
 unfold f174
 rw [app_fits (by simp; omega), bS, List.nil_append]
 by_cases hr : f.Relation = a.Relation
 ·obtain ⟨h1, h2, h3⟩ := h hr
  rw [if_pos hr, if_neg (by simpa using hr), bS, if_neg (by simp [h1])]
  refine Ens.bind (Q := fun o => match uni a.Terms f.Values x with | some y => o = .inl y | none => ∃ z, o = .inr (z, false)) ?_ fun o ho => ?_
  ·refine iter_up (f := f174_0 a f) a.Terms.length (fun i s => ∃ y, s = (y, (i : Int)) /\ uni (a.Terms.drop i) (f.Values.drop i) y = uni a.Terms f.Values x /\ y.length = x.length) _ (fun i s hi ⟨y, hs, hu, hl⟩ => ?_) (fun s ⟨y, hs, hu, hl⟩ => ?_) (x, 0) ⟨x, rfl, by simp, rfl⟩
   ·subst hs
    have hv : i < f.Values.length := by omega
    have ht := h3 _ (List.getElem_mem hi)
    rw [List.drop_eq_getElem_cons hi, List.drop_eq_getElem_cons hv, uni] at hu
    simp only [f174_0]
    rw [if_pos (by omega), ix_nat hi, bS, w64_succ (by omega)]
    simp only [bS, ix_nat hv]
    by_cases c1 : a.Terms[i] < 0
    ·rw [if_pos c1] at hu
     rw [if_pos c1, w64_of (by omega)]
     by_cases c2 : -1 - a.Terms[i] = f.Values[i]
     ·rw [if_pos c2] at hu
      rw [if_neg (by simpa using c2)]
      exact ⟨_, rfl, y, rfl, hu, hl⟩
     ·rw [if_neg c2] at hu
      rw [if_pos (by simpa using c2)]
      refine ⟨_, rfl, ?_⟩
      dsimp only
      rw [<- hu]; exact ⟨_, rfl⟩
    ·rw [if_neg c1] at hu
     have hb : a.Terms[i].toNat < y.length := by omega
     rw [if_neg c1, ix_of (by omega), zE hb, bS]
     have ed : y.getD a.Terms[i].toNat 0 = y[a.Terms[i].toNat] := by rw [zD, zE hb]; rfl
     rw [ed] at hu
     by_cases c2 : y[a.Terms[i].toNat] < 0
     ·rw [if_pos c2] at hu
      rw [if_neg (by omega), bS, if_neg (by simp)]
      exact ⟨_, rfl, _, rfl, hu, by rw [List.length_set]; exact hl⟩
     ·rw [if_neg c2] at hu
      rw [if_pos (by omega), bS]
      by_cases c3 : y[a.Terms[i].toNat] = f.Values[i]
      ·rw [if_pos c3] at hu
       rw [if_neg (by simpa using c3)]
       exact ⟨_, rfl, _, rfl, by rw [set_same hb c3]; exact hu, by rw [List.length_set]; exact hl⟩
      ·rw [if_neg c3] at hu
       rw [if_pos (by simpa using c3)]
       refine ⟨_, rfl, ?_⟩
       dsimp only
       rw [<- hu]; exact ⟨_, rfl⟩
   ·subst hs
    simp only [f174_0]
    rw [if_neg (by omega)]
    rw [uni_nil (List.drop_of_length_le (Nat.le_refl _))] at hu
    exact ⟨_, rfl, by rw [<- hu]⟩
  ·revert ho
   cases uni a.Terms f.Values x with
   | some y => intro ho; dsimp only at ho; subst ho; exact Ens.of rfl
   | none => rintro ⟨z, rfl⟩; exact Ens.of rfl
 ·rw [if_neg hr, if_pos (by simpa using hr), bS, if_pos rfl]
  exact Ens.of rfl
theorem noneOk {n : Int} (h0 : 0 <= n) (h4 : n <= 4) : f131 n = some (List.replicate n.toNat (-1)) := by
 unfold f131
 have := iter_steps (f := f131_0 n) (fun i => List.replicate i (-1)) n.toNat (List.replicate n.toNat (-1)) (fun i hi => by
  simp only [f131_0]
  rw [if_pos (by simp; omega), app_fits (by simp; omega), bS, List.replicate_succ']) (by
  simp only [f131_0]
  rw [if_neg (by simp <;> omega)])
 simp only [List.replicate_zero] at this
 rw [this]; rfl
theorem unknownOk {n : Int} (h0 : 0 <= n) (h4 : n <= 4) : f138 n = some (List.replicate n.toNat (-1)) := by
 have : n = 0 \/ n = 1 \/ n = 2 \/ n = 3 \/ n = 4 := by omega
 unfold f138 f182
 rcases this with rfl | rfl | rfl | rfl | rfl
 ·have e : f223 (IntKind.u64.wrap (([-1] : List Int).length : Int)) (IntKind.u64.wrap 0) = some (0, 0) := by decide
  rw [e]
  rw [if_neg (by decide), bS, bS, if_neg (by decide), bS, if_neg (by decide), bS, w64_of (by decide), mkl_ok (by decide) (by decide) (by decide), bS]
  exact (congrArg (fun o => (Option.bind o fun o => some o).bind fun o => some o) (iter_of (f := f182_0) (n := 5) (s := ([], 0)) (r := []) (by decide)))
 ·have e : f223 (IntKind.u64.wrap (([-1] : List Int).length : Int)) (IntKind.u64.wrap 1) = some (0, 1) := by decide
  rw [e]
  rw [if_neg (by decide), bS, bS, if_neg (by decide), bS, if_neg (by decide), bS, w64_of (by decide), mkl_ok (by decide) (by decide) (by decide), bS]
  exact (congrArg (fun o => (Option.bind o fun o => some o).bind fun o => some o) (iter_of (f := f182_0) (n := 5) (s := ([-1], 1)) (r := [-1]) (by decide)))
 ·have e : f223 (IntKind.u64.wrap (([-1] : List Int).length : Int)) (IntKind.u64.wrap 2) = some (0, 2) := by decide
  rw [e]
  rw [if_neg (by decide), bS, bS, if_neg (by decide), bS, if_neg (by decide), bS, w64_of (by decide), mkl_ok (by decide) (by decide) (by decide), bS]
  exact (congrArg (fun o => (Option.bind o fun o => some o).bind fun o => some o) (iter_of (f := f182_0) (n := 5) (s := ([-1, 0], 1)) (r := [-1, -1]) (by decide)))
 ·have e : f223 (IntKind.u64.wrap (([-1] : List Int).length : Int)) (IntKind.u64.wrap 3) = some (0, 3) := by decide
  rw [e]
  rw [if_neg (by decide), bS, bS, if_neg (by decide), bS, if_neg (by decide), bS, w64_of (by decide), mkl_ok (by decide) (by decide) (by decide), bS]
  exact (congrArg (fun o => (Option.bind o fun o => some o).bind fun o => some o) (iter_of (f := f182_0) (n := 5) (s := ([-1, 0, 0], 1)) (r := [-1, -1, -1]) (by decide)))
 ·have e : f223 (IntKind.u64.wrap (([-1] : List Int).length : Int)) (IntKind.u64.wrap 4) = some (0, 4) := by decide
  rw [e]
  rw [if_neg (by decide), bS, bS, if_neg (by decide), bS, if_neg (by decide), bS, w64_of (by decide), mkl_ok (by decide) (by decide) (by decide), bS]
  exact (congrArg (fun o => (Option.bind o fun o => some o).bind fun o => some o) (iter_of (f := f182_0) (n := 5) (s := ([-1, 0, 0, 0], 1)) (r := [-1, -1, -1, -1]) (by decide)))
end
section
end
section
variable {d : Database} {q : Query}
end
section
variable {d : Database} {q : Query}
end
section
variable {d : Database} {q : Query}
def nums (l : List Int) : Prop := l.length <= 1048576 /\ ∀ v ∈ l, 0 <= v /\ v <= 1048576
theorem blks_nums {B : List Int} (h14 : d.Facts.length <= 14) (h : B ∈ blks (skOf d) d.Facts.length d.Facts.length) : nums B /\ B.length <= 14 := by
 obtain ⟨s, _, _, rfl⟩ := mem_blks.1 h
 have hl := blk_len (sk := skOf d) (i := s) (x := d.Facts.length)
 refine ⟨⟨by omega, fun v hv => ?_⟩, by omega⟩
 obtain ⟨k, k1, rfl, _⟩ := blk_mem.1 hv
 omega
def bks (d : Database) : List (List Int) := blks (skOf d) d.Facts.length d.Facts.length
theorem bks_few (h : d.Facts.length <= 14) : (bks d).length <= 14 /\ ∀ x ∈ bks d, x.length <= 14 := by
 have := blks_len (sk := skOf d) (y := d.Facts.length) (x := d.Facts.length)
 exact ⟨by unfold bks; omega, fun x hx => (blks_nums h hx).2⟩
end
section
variable {d : Database}
def nrm (x : List Int) : List Int := x.map fun v => if v > -1 then v else -1
theorem nrm_len {x : List Int} : (nrm x).length = x.length := by simp [nrm]
theorem nrm_get {x : List Int} {i : Nat} (h : i < x.length) : (nrm x).getD i 0 = if x.getD i 0 > -1 then x.getD i 0 else -1 := by
 rw [zD, zD, zE (by rw [nrm_len]; exact h), zE h]
 simp [nrm]
theorem uni_nrm : ∀ {ts vs x : List Int}, (∀ t ∈ ts, t < x.length) -> (∀ v ∈ vs, 0 <= v) -> uni ts vs (nrm x) = (uni ts vs x).map nrm
 | [], vs, x, _, _ => by simp [uni]
 | t :: ts, [], x, _, _ => by simp [uni]
 | t :: ts, v :: vs, x, h1, h2 => by
  have ht := h1 t (by simp)
  have hv := h2 v (by simp)
  have h1' : ∀ t ∈ ts, t < x.length := fun s hs => h1 s (by simp [hs])
  have h2' : ∀ v ∈ vs, 0 <= v := fun s hs => h2 s (by simp [hs])
  rw [uni, uni]
  by_cases c1 : t < 0
  ·rw [if_pos c1, if_pos c1]
   split
   ·exact uni_nrm h1' h2'
   ·rfl
  ·rw [if_neg c1, if_neg c1, nrm_get (by omega)]
   by_cases c2 : x.getD t.toNat 0 < 0
   ·rw [if_pos c2, if_pos (by split <;> omega)]
    have e : (nrm x).set t.toNat v = nrm (x.set t.toNat v) := by
     unfold nrm
     rw [List.map_set, if_pos (by omega)]
    rw [e]
    exact uni_nrm (fun s hs => by rw [List.length_set]; exact h1' s hs) h2'
   ·have e2 : (if x.getD t.toNat 0 > -1 then x.getD t.toNat 0 else -1) = x.getD t.toNat 0 := if_pos (by omega)
    rw [e2, if_neg c2, if_neg c2]
    split
    ·exact uni_nrm h1' h2'
    ·rfl
def ev (d : Database) : List RewritingStep -> List Int -> Bool
 | [], _ => true
 | r :: rs, x => (bks d).any fun b => decide ((fat d (b.getD 0 0)).Relation = r.Atom.Relation) && match uni (r.Atom.Terms.take (keyLen d.Relations r.Atom.Relation).toNat) ((fat d (b.getD 0 0)).Values.take (keyLen d.Relations r.Atom.Relation).toNat) x with
  | none => false
  | some y => b.all fun i => match uni r.Atom.Terms (fat d i).Values y with
   | none => false
   | some z => ev d rs z
structure OkS (d : Database) (r : RewritingStep) : Prop where
 rel : btw r.Atom.Relation 0 (d.Relations.length - 1) = true
 len : (r.Atom.Terms.length : Int) = arity d.Relations r.Atom.Relation
 rng : ∀ t ∈ r.Atom.Terms, -10 <= t /\ t < 4
structure OkB (d : Database) (b : List Int) : Prop where
 ne : 0 < b.length
 ln : b.length <= 14
 rng : ∀ v ∈ b, 0 <= v /\ v < d.Facts.length
 rel : ∀ v ∈ b, (fat d v).Relation = (fat d (b.getD 0 0)).Relation
theorem okb (hv : vDb d = true) {b : List Int} (h : b ∈ bks d) : OkB d b := by
 have h14 := (vDb_of hv).2.1
 have hn := blks_nums h14 h
 have K := kin hv
 obtain ⟨s, s1, s2, rfl⟩ := mem_blks.1 h
 have hm : ((s : Nat) : Int) ∈ blk (skOf d) s d.Facts.length := blk_mem.2 ⟨s, s1, rfl, K.refl s s1⟩
 have hne : 0 < (blk (skOf d) s d.Facts.length).length := List.length_pos_of_mem hm
 have hrel : ∀ v ∈ blk (skOf d) s d.Facts.length, (0 <= v /\ v < d.Facts.length) /\ (fat d v).Relation = (fat d ((s : Nat) : Int)).Relation := fun v hv' => by
  obtain ⟨k, k1, rfl, k3⟩ := blk_mem.1 hv'
  refine ⟨by omega, ?_⟩
  rw [sk_get s1 k1] at k3
  unfold same at k3
  simp only [Bool.and_eq_true, decide_eq_true_eq] at k3
  rw [fat_get k1, fat_get s1]
  exact k3.1.symm
 have h0 : (blk (skOf d) s d.Facts.length).getD 0 0 ∈ blk (skOf d) s d.Facts.length := by
  rw [zD, zE hne]
  exact List.getElem_mem hne
 exact ⟨hne, hn.2, fun v hv' => (hrel v hv').1, fun v hv' => by rw [(hrel v hv').2, (hrel _ h0).2]⟩
theorem getD0 {b : List Int} (h : 0 < b.length) : b.getD 0 0 = b[0] := by rw [zD, zE h]; rfl
theorem fact_at (hv : vDb d = true) {v : Int} (h : 0 <= v /\ v < d.Facts.length) : vFact d.Relations (fat d v) = true := by
 obtain ⟨k, hk, e⟩ := List.getElem_of_mem (fat_mem h)
 rw [<- e]; exact fact_ok hv hk
theorem fact_vals (hv : vDb d = true) {v : Int} (h : 0 <= v /\ v < d.Facts.length) : ((fat d v).Values.length : Int) = arity d.Relations (fat d v).Relation /\ (fat d v).Values.length <= 3 /\ ∀ w ∈ (fat d v).Values, 0 <= w := by
 have hf := fact_at hv h
 unfold vFact at hf
 simp only [Bool.and_eq_true, decide_eq_true_eq] at hf
 have ha := vRels_arity (vDb_of hv).1 hf.1
 refine ⟨hf.2.1, by omega, fun w hw => ?_⟩
 have := List.all_eq_true.1 hf.2.2 w hw
 simp only [btw, Bool.and_eq_true, decide_eq_true_eq] at this
 omega
theorem ix_fat {v : Int} (h : 0 <= v /\ v < d.Facts.length) : ix d.Facts v = some (fat d v) := by
 rw [ix_of h.1, zE (by omega)]
 congr 1
 have e : v = ((v.toNat : Nat) : Int) := by omega
 conv => rhs; rw [e]
 exact (fat_get (by omega)).symm
theorem fit_full (hv : vDb d = true) {r : RewritingStep} (hr : OkS d r) {x : List Int} (hx : x.length = 4) {v : Int} (h : 0 <= v /\ v < d.Facts.length) (e : (fat d v).Relation = r.Atom.Relation) : FitT x.length r.Atom.Terms (fat d v).Values := by
 obtain ⟨a1, a2, a3⟩ := fact_vals hv h
 have := hr.len
 rw [e] at a1
 refine ⟨by omega, by omega, fun t ht => ?_⟩
 have := hr.rng t ht
 omega
theorem fit_key (hv : vDb d = true) {r : RewritingStep} (hr : OkS d r) {x : List Int} (hx : x.length = 4) {v : Int} (h : 0 <= v /\ v < d.Facts.length) (e : (fat d v).Relation = r.Atom.Relation) (n : Nat) : FitT x.length (r.Atom.Terms.take n) ((fat d v).Values.take n) := by
 obtain ⟨f1, f2, f3⟩ := fit_full hv hr hx h e
 refine ⟨by rw [List.length_take, List.length_take, f1], by rw [List.length_take]; omega, fun t ht => f3 t (List.mem_of_mem_take ht)⟩
theorem key_of (hv : vDb d = true) {r : RewritingStep} (hr : OkS d r) : ∃ x, ix d.Relations r.Atom.Relation = some x /\ x.KeyLength = keyLen d.Relations r.Atom.Relation /\ 0 <= x.KeyLength /\ x.KeyLength <= r.Atom.Terms.length := by
 obtain ⟨x, h1, h2, h3, h4⟩ := ix_rel hr.rel
 have hx := vRel_mem (vDb_of hv).1 h2
 unfold vRel at hx
 simp only [btw, Bool.and_eq_true, decide_eq_true_eq] at hx
 have := hr.len
 exact ⟨x, h1, h4, by omega, by omega⟩
theorem ev_nrm (hv : vDb d = true) : ∀ {rs : List RewritingStep} {x : List Int}, (∀ r ∈ rs, OkS d r) -> x.length = 4 -> ev d rs (nrm x) = ev d rs x
 | [], x, _, _ => rfl
 | r :: rs, x, hr, hx => by
  rw [ev, ev]
  have hr0 := hr r (by simp)
  refine any_mem_congr fun b hb => ?_
  have ob := okb hv hb
  by_cases e : (fat d (b.getD 0 0)).Relation = r.Atom.Relation
  ·rw [decide_eq_true e, Bool.true_and, Bool.true_and]
   have h0 : b.getD 0 0 ∈ b := by rw [getD0 ob.ne]; exact List.getElem_mem _
   have hk := fit_key hv hr0 hx (ob.rng _ h0) e (keyLen d.Relations r.Atom.Relation).toNat
   rw [uni_nrm (fun t ht => (hk.2.2 t ht).2) (fun w hw => (fact_vals hv (ob.rng _ h0)).2.2 w (List.mem_of_mem_take hw))]
   cases hu : uni (r.Atom.Terms.take (keyLen d.Relations r.Atom.Relation).toNat) ((fat d (b.getD 0 0)).Values.take (keyLen d.Relations r.Atom.Relation).toNat) x with
   | none => rfl
   | some y =>
    have hy := uni_len hu
    dsimp only [Option.map_some]
    refine all_mem_congr fun i hi => ?_
    have hf := fit_full hv hr0 (x := y) (by omega) (ob.rng i hi) (by rw [ob.rel i hi, e])
    rw [uni_nrm (fun t ht => (hf.2.2 t ht).2) (fun w hw => (fact_vals hv (ob.rng i hi)).2.2 w hw)]
    cases hz : uni r.Atom.Terms (fat d i).Values y with
    | none => rfl
    | some z =>
     have hzl := uni_len hz
     dsimp only [Option.map_some]
     exact ev_nrm hv (fun s hs => hr s (by simp [hs])) (by omega)
  ·rw [decide_eq_false e, Bool.false_and, Bool.false_and]
end
section
variable {d : Database}
theorem iter_while {α : Type} {f : Bool × Int -> Option ((Bool × Int) ⊕ Bool)} (L : List α) (c : α -> Bool) (x : Bool)
  (hs : ∀ (i : Nat) (h : i < L.length), f (true, (i : Int)) = some (.inl (c L[i], ((i + 1 : Nat) : Int)))) (hf : ∀ (i : Nat), i <= L.length -> f (false, (i : Int)) = some (.inr false)) (he : f (true, (L.length : Int)) = some (.inr true)) :
  iter f (x, 0) = some (x && L.all c) := by
 obtain ⟨o, h1, h2⟩ := iter_up (f := f) L.length (fun k t => t = (x && (L.take k).all c, (k : Int))) (fun o => o = (x && L.all c)) (fun k t hk h => by
  subst h
  cases hc : x && (L.take k).all c
  ·refine ⟨_, hf k (by omega), ?_⟩
   dsimp only
   symm
   rw [Bool.and_eq_false_iff] at hc ⊢
   rcases hc with hc | hc
   ·exact .inl hc
   ·refine .inr ?_
    rw [Bool.eq_false_iff]
    intro ha
    rw [Bool.eq_false_iff] at hc
    exact hc (List.all_eq_true.2 fun v hv => List.all_eq_true.1 ha v (List.mem_of_mem_take hv))
  ·refine ⟨_, hs k hk, ?_⟩
   dsimp only
   rw [take_succ' hk, List.all_append, <- Bool.and_assoc, hc]
   simp) (fun t h => by
  subst h
  rw [List.take_of_length_le (Nat.le_refl _)]
  cases x && L.all c
  ·exact ⟨_, hf _ (Nat.le_refl _), rfl⟩
  ·exact ⟨_, he, rfl⟩) (x, 0) (by simp)
 rw [h1, h2]
theorem cut0 {l : List Int} {n : Int} (h0 : 0 <= n) (h : n <= l.length) : cutL l 0 n = some (l.take n.toNat) := by
 rw [cutL_ok (by omega) h0 h]; simp
theorem evImp (hv : vDb d = true) (hf : Fits d) : ∀ (n : Nat) {rs : List RewritingStep} {x : List Int}, rs.length < n -> (∀ r ∈ rs, OkS d r) -> x.length = 4 -> rs.length <= 3 -> f139 n d (bks d) rs x = some (ev d rs x)
  | 0, rs, x, h, _, _, _ => by omega
  | n + 1, [], x, _, _, _, _ => by
    rw [f139]
    dsimp only
    rw [if_pos (by simp)]; rfl
  | n + 1, r :: rs, x, hn, hr, hx, h3 => by
    have hr0 := hr r (by simp)
    have h14 := (vDb_of hv).2.1
    have hB := bks_few h14
    obtain ⟨rl, k1, k2, k3, k4⟩ := key_of hv hr0
    simp only [List.length_cons] at hn h3
    rw [f139]
    dsimp only
    rw [if_neg (by simp only [List.length_cons]; omega), ix_of (by omega)]
    simp only [Int.toNat_zero, List.getElem?_cons_zero, bS, k1]
    rw [iter_ex (f := f139_0 d (bks d) (r :: rs) x (f139 n) r rl) (bks d) (fun b => decide ((fat d (b.getD 0 0)).Relation = r.Atom.Relation) && match uni (r.Atom.Terms.take (keyLen d.Relations r.Atom.Relation).toNat) ((fat d (b.getD 0 0)).Values.take (keyLen d.Relations r.Atom.Relation).toNat) x with
      | none => false
      | some y => b.all fun i => match uni r.Atom.Terms (fat d i).Values y with
        | none => false
        | some z => ev d rs z) true (fun i hi => by
      have ob := okb hv (List.getElem_mem hi)
      have h0 : (bks d)[i].getD 0 0 ∈ (bks d)[i] := by rw [getD0 ob.ne]; exact List.getElem_mem _
      have hr1 := ob.rng _ h0
      simp only [f139_0]
      rw [if_pos (by omega), ix_nat hi, bS, ix_of (l := (bks d)[i]) (by omega), zE (by simpa using ob.ne), bS]
      simp only [Int.toNat_zero]
      rw [<- getD0 ob.ne, ix_fat hr1, bS, w64_succ (by omega)]
      by_cases e : (fat d ((bks d)[i].getD 0 0)).Relation = r.Atom.Relation
      · have hfv := fact_vals hv hr1
        have hl := hr0.len
        rw [e] at hfv
        rw [if_neg (by simpa using e), cut0 k3 k4, bS, cut0 k3 (by omega), bS, k2, impUni (by omega) (fit_key hv hr0 hx hr1 e _), bS, decide_eq_true e, Bool.true_and]
        have it : ∀ (y : List Int) (b0 : Bool), y.length = 4 \/ b0 = false -> iter (f139_1 d (bks d) (r :: rs) (f139 n) r (bks d)[i] (y, b0)) (b0, 0) = some (b0 && (bks d)[i].all fun i => match uni r.Atom.Terms (fat d i).Values y with
            | none => false
            | some z => ev d rs z) := fun y b0 hy => by
          by_cases hb : b0 = false
          · subst hb
            rw [iter_eq]
            simp only [f139_1]
            by_cases hlt : (0 : Int) < (bks d)[i].length
            · rw [if_pos hlt]; simp
            · rw [if_neg hlt]; simp
          · have hy4 := hy.resolve_right hb
            simp only [Bool.not_eq_false] at hb
            subst hb
            refine iter_while (bks d)[i] _ true (fun j hj => ?_) (fun j hj => ?_) ?_
            · have hjr := ob.rng _ (List.getElem_mem hj)
              have hje := ob.rel _ (List.getElem_mem hj)
              simp only [f139_1]
              rw [if_pos (by omega), bS, if_pos rfl, ix_nat hj, bS, ix_fat hjr, bS, impUni (by omega) (fit_full hv hr0 hy4 hjr (by rw [hje, e])), bS, w64_succ (by have := ob.ln; omega)]
              cases hu : uni r.Atom.Terms (fat d (bks d)[i][j]).Values y with
              | none => simp
              | some z =>
                have hz := uni_len hu
                dsimp only
                rw [if_pos rfl, cutL_ok (by omega) (by simp only [List.length_cons]; omega) (by omega), bS]
                have ed : ((r :: rs).take (((r :: rs).length : Nat) : Int).toNat).drop (1 : Int).toNat = rs := by simp
                rw [ed, evImp hv hf n (by omega) (fun s hs => hr s (by simp [hs])) (by omega) (by omega)]
                rfl
            · simp only [f139_1]
              by_cases hlt : (j : Int) < (bks d)[i].length
              · rw [if_pos hlt]; simp
              · rw [if_neg hlt]; simp
            · simp only [f139_1]
              rw [if_neg (by omega)]; simp
        cases hu : uni (r.Atom.Terms.take (keyLen d.Relations r.Atom.Relation).toNat) ((fat d ((bks d)[i].getD 0 0)).Values.take (keyLen d.Relations r.Atom.Relation).toNat) x with
        | none =>
          dsimp only
          rw [it [] false (.inr rfl)]
          simp
        | some y =>
          have hy := uni_len hu
          dsimp only
          rw [it y true (.inl (by omega)), bS, Bool.true_and]
          split <;> simp
      · rw [if_pos (by simpa using e), decide_eq_false e, Bool.false_and]
        simp) (by
      simp only [f139_0]
      rw [if_neg (by omega)])]
    rw [ev]
    cases hcase : (bks d).any fun b => decide ((fat d (b.getD 0 0)).Relation = r.Atom.Relation) && match uni (r.Atom.Terms.take (keyLen d.Relations r.Atom.Relation).toNat) ((fat d (b.getD 0 0)).Values.take (keyLen d.Relations r.Atom.Relation).toNat) x with
      | none => false
      | some y => b.all fun i => match uni r.Atom.Terms (fat d i).Values y with
        | none => false
        | some z => ev d rs z
    · rfl
    · rfl
theorem evSpec (hv : vDb d = true) (hf : Fits d) {f : List RewritingStep} (hr : ∀ r ∈ f, OkS d r) (h3 : f.length <= 3) : ∀ (n : Nat) {k : Nat} {x : List Int}, f.length < n + k -> k <= f.length -> x.length = 4 -> f132 n d f (k : Int) x = some (ev d (f.drop k) x)
  | 0, k, x, h, hk, _ => by omega
  | n + 1, k, x, hn, hk, hx => by
    rw [f132]
    dsimp only
    by_cases hke : k = f.length
    · rw [if_pos (by omega), List.drop_of_length_le (by omega)]; rfl
    have hkl : k < f.length := by omega
    have hr0 := hr _ (List.getElem_mem hkl)
    have h14 := (vDb_of hv).2.1
    have hB := bks_few h14
    obtain ⟨rl, k1, k2, k3, k4⟩ := key_of hv hr0
    have hblk : f86 d = some (bks d) := blocksSpec hv hf
    rw [if_neg (by omega), ix_nat hkl, bS, k1, bS, hblk, bS, List.drop_eq_getElem_cons hkl]
    rw [iter_ex (f := f132_0 d f (k : Int) x (f132 n) f[k] rl (bks d)) (bks d) (fun b => decide ((fat d (b.getD 0 0)).Relation = f[k].Atom.Relation) && match uni (f[k].Atom.Terms.take (keyLen d.Relations f[k].Atom.Relation).toNat) ((fat d (b.getD 0 0)).Values.take (keyLen d.Relations f[k].Atom.Relation).toNat) x with
      | none => false
      | some y => b.all fun i => match uni f[k].Atom.Terms (fat d i).Values y with
        | none => false
        | some z => ev d (f.drop (k + 1)) z) true (fun i hi => by
      have ob := okb hv (List.getElem_mem hi)
      have h0 : (bks d)[i].getD 0 0 ∈ (bks d)[i] := by rw [getD0 ob.ne]; exact List.getElem_mem _
      have hr1 := ob.rng _ h0
      simp only [f132_0]
      rw [if_pos (by omega), ix_nat hi, bS, ix_of (l := (bks d)[i]) (by omega), zE (by simpa using ob.ne), bS]
      simp only [Int.toNat_zero]
      rw [<- getD0 ob.ne, ix_fat hr1, bS, w64_succ (i := i) (by omega)]
      by_cases e : (fat d ((bks d)[i].getD 0 0)).Relation = f[k].Atom.Relation
      · have hfv := fact_vals hv hr1
        have hl := hr0.len
        rw [e] at hfv
        obtain ⟨o, ho, hoq⟩ := specMeet (x := x) (a := ⟨f[k].Atom.Relation, f[k].Atom.Terms.take rl.KeyLength.toNat⟩) (f := ⟨f[k].Atom.Relation, (fat d ((bks d)[i].getD 0 0)).Values.take rl.KeyLength.toNat⟩) (by omega) (fun _ => fit_key hv hr0 hx hr1 e _)
        rw [if_neg (by simpa using e), cut0 k3 k4, bS, cut0 k3 (by omega), bS, ho, bS, decide_eq_true e, Bool.true_and, <- k2]
        rw [if_pos rfl] at hoq
        have it : ∀ (y : List Int) (b0 : Bool), y.length = 4 \/ b0 = false -> iter (f132_1 d f (k : Int) (f132 n) f[k] (bks d) (i : Int) (y, b0)) (b0, 0) = some (b0 && (bks d)[i].all fun i => match uni f[k].Atom.Terms (fat d i).Values y with
            | none => false
            | some z => ev d (f.drop (k + 1)) z) := fun y b0 hy => by
          by_cases hb : b0 = false
          · subst hb
            rw [iter_eq]
            simp only [f132_1]
            rw [ix_nat hi, bS]
            by_cases hlt : (0 : Int) < (bks d)[i].length
            · rw [if_pos hlt]; simp
            · rw [if_neg hlt]; simp
          · have hy4 := hy.resolve_right hb
            simp only [Bool.not_eq_false] at hb
            subst hb
            refine iter_while (bks d)[i] _ true (fun j hj => ?_) (fun j hj => ?_) ?_
            · have hjr := ob.rng _ (List.getElem_mem hj)
              have hje := ob.rel _ (List.getElem_mem hj)
              obtain ⟨o2, ho2, hq2⟩ := specMeet (x := y) (a := f[k].Atom) (f := fat d (bks d)[i][j]) (by omega) (fun h => fit_full hv hr0 hy4 hjr h)
              rw [if_pos (by rw [hje, e])] at hq2
              simp only [f132_1]
              rw [ix_nat hi, bS, if_pos (by omega), bS, if_pos rfl, ix_nat hj, bS, ix_fat hjr, bS, ho2, bS, w64_succ (i := j) (by have := ob.ln; omega)]
              cases hu : uni f[k].Atom.Terms (fat d (bks d)[i][j]).Values y with
              | none =>
                rw [hu] at hq2
                dsimp only at hq2
                rw [hq2]; simp
              | some z =>
                rw [hu] at hq2
                dsimp only at hq2
                subst hq2
                have hz := uni_len hu
                dsimp only
                rw [if_pos rfl, w64_succ (i := k) (by omega), evSpec hv hf hr h3 n (by omega) (by omega) (by omega)]
                rfl
            · simp only [f132_1]
              rw [ix_nat hi, bS]
              by_cases hlt : (j : Int) < (bks d)[i].length
              · rw [if_pos hlt]; simp
              · rw [if_neg hlt]; simp
            · simp only [f132_1]
              rw [ix_nat hi, bS, if_neg (by omega)]; simp
        cases hu : uni (f[k].Atom.Terms.take rl.KeyLength.toNat) ((fat d ((bks d)[i].getD 0 0)).Values.take rl.KeyLength.toNat) x with
        | none =>
          rw [hu] at hoq
          dsimp only at hoq ⊢
          obtain ⟨o1, o2⟩ := o
          simp only at hoq
          subst hoq
          rw [it o1 false (.inr rfl)]
          simp
        | some y =>
          rw [hu] at hoq
          dsimp only at hoq ⊢
          subst hoq
          have hy := uni_len hu
          rw [it y true (.inl (by omega)), bS, Bool.true_and]
          split <;> simp
      · rw [if_pos (by simpa using e), decide_eq_false e, Bool.false_and]
        simp) (by
      simp only [f132_0]
      rw [if_neg (by omega)])]
    rw [ev]
    cases hcase : (bks d).any fun b => decide ((fat d (b.getD 0 0)).Relation = f[k].Atom.Relation) && match uni (f[k].Atom.Terms.take (keyLen d.Relations f[k].Atom.Relation).toNat) ((fat d (b.getD 0 0)).Values.take (keyLen d.Relations f[k].Atom.Relation).toNat) x with
      | none => false
      | some y => b.all fun i => match uni f[k].Atom.Terms (fat d i).Values y with
        | none => false
        | some z => ev d (f.drop (k + 1)) z
    · rfl
    · rfl
def pad (x : List Int) : List Int := x ++ List.replicate (4 - x.length) (-1)
def evalR (d : Database) (f : List RewritingStep) (x : List Int) : Bool := vDb d && (vRw d.Relations f && (decide (x.length <= 4) && ev d f (pad x)))
theorem rw_ok {f : List RewritingStep} (hv : vRw d.Relations f = true) : (∀ r ∈ f, OkS d r) /\ f.length <= 3 := by
 unfold vRw at hv
 simp only [Bool.and_eq_true, decide_eq_true_eq] at hv
 refine ⟨fun r hr => ?_, hv.2⟩
 have := List.all_eq_true.1 hv.1 r hr
 unfold vStep at this
 simp only [Bool.and_eq_true, decide_eq_true_eq] at this
 refine ⟨this.2.1, this.2.2.1, fun t ht => ?_⟩
 have h2 := List.all_eq_true.1 this.2.2.2.1 t ht
 simp only [btw, Bool.and_eq_true, decide_eq_true_eq] at h2
 omega
theorem pad_len {x : List Int} (h : x.length <= 4) : (pad x).length = 4 := by
 unfold pad
 rw [List.length_append, List.length_replicate]; omega
theorem evalImp {f : List RewritingStep} {x : List Int} (hf : Fits d) (hff : f.length <= 1048576 /\ ∀ r ∈ f, FitsS r) (hx : x.length <= 1048576) : f73 d f x = some (evalR d f x) := by
 unfold f73 evalR
 have hr := fits_room hf
 rw [impDb hr, bS]
 cases hv : vDb d
 ·simp
 ·rw [if_neg (by simp), impRw hr.1 (by omega) hff.2, bS]
  cases hw : vRw d.Relations f
  ·simp
  ·obtain ⟨o1, o2⟩ := rw_ok hw
   by_cases h4 : x.length <= 4
   ·rw [if_neg (by simp), bS, bS, if_neg (by simp; omega), unknownOk (by omega) (by omega), bS]
    have hb : f94 d = some (bks d) := blocksImp hv hf
    have hn : nel (List.replicate (4 : Int).toNat (-1 : Int)) = some () := by decide
    have hc : cpL (List.replicate (4 : Int).toNat (-1)) x = pad x := by
     unfold cpL pad
     rw [List.length_replicate, List.take_of_length_le (by omega), List.drop_replicate]; rfl
    rw [hn, bS, hc, hb, bS, evImp hv hf 64 (by omega) o1 (pad_len h4) o2, decide_eq_true h4]
    simp
   ·rw [if_neg (by simp), bS, bS, if_pos (by simp; omega), decide_eq_false h4]
    simp
theorem evalSpec {f : List RewritingStep} {x : List Int} (hf : Fits d) (hff : f.length <= 1048576 /\ ∀ r ∈ f, FitsS r) (hx : x.length <= 1048576) : f70 d f x = some (evalR d f x) := by
 unfold f70 evalR
 have hr := fits_room hf
 rw [specDb hr, bS]
 cases hv : vDb d
 ·simp
 ·rw [if_neg (by simp), specRw hr.1 (by omega) hff.2, bS]
  cases hw : vRw d.Relations f
  ·simp
  ·obtain ⟨o1, o2⟩ := rw_ok hw
   by_cases h4 : x.length <= 4
   ·rw [if_neg (by simp), bS, bS, if_neg (by simp; omega), noneOk (by omega) (by omega), bS]
    have it := iter_steps (f := f70_0 x) (fun i => (nrm (x.take i) ++ List.replicate (4 - i) (-1), (i : Int))) x.length (nrm (pad x)) (fun i hi => by
     have hl : (nrm (x.take i)).length = i := by rw [nrm_len, List.length_take]; omega
     simp only [f70_0]
     rw [if_pos (by omega), ix_nat hi, bS, ix_nat (by rw [List.length_append, hl, List.length_replicate]; omega), bS, w64_succ (by omega), Int.toNat_natCast, List.set_append_right _ _ (by omega), hl, Nat.sub_self, show 4 - i = (4 - (i + 1)) + 1 by omega, List.replicate_succ, List.set_cons_zero, take_succ' hi]
     unfold nrm
     rw [List.map_append]
     simp) (by
     simp only [f70_0]
     rw [if_neg (by omega), List.take_of_length_le (Nat.le_refl _)]
     unfold nrm pad
     rw [List.map_append, List.map_replicate]; rfl)
    simp only [List.take_zero, nrm, List.map_nil, List.nil_append, Nat.sub_zero, Int.natCast_zero, Int.ofNat_zero] at it
    have e4 : (4 : Int).toNat = 4 := rfl
    rw [e4]
    erw [it]
    rw [bS]
    have := evSpec hv hf o1 o2 64 (k := 0) (x := nrm (pad x)) (by omega) (by omega) (by rw [nrm_len]; exact pad_len h4)
    have e0 : ((0 : Nat) : Int) = 0 := rfl
    rw [e0] at this
    unfold nrm at this
    rw [this, bS, List.drop_zero]
    have hn := ev_nrm hv o1 (pad_len h4)
    unfold nrm at hn
    rw [hn, decide_eq_true h4]
    simp
   ·rw [if_neg (by simp), bS, bS, if_pos (by simp; omega), decide_eq_false h4]
    simp
end
section
def cbr (d : Database) (q : Query) : Bool × Bool := if (rwo d.Relations q).2 = true /\ vDb d = true /\ q.Free.length = 0 then (evalR d (rwo d.Relations q).1 [], true) else (false, false)
theorem cbrFits {d : Database} {q : Query} (hf : Fits d) (hq : FitsQ q) : Big d.Relations.length /\ (rwo d.Relations q).1.length <= 1048576 /\ ∀ r ∈ (rwo d.Relations q).1, FitsS r := by
 have hl : Big d.Relations.length := by have := hf.1; omega
 obtain ⟨w1, w2⟩ := rwo_fits hl hq
 exact ⟨hl, by omega, fun x hx => by have := w2 x hx; exact ⟨by omega, by omega, by omega⟩⟩
theorem cbrSpec {d : Database} {q : Query} (hf : Fits d) (hq : FitsQ q) : f20 d q = some (cbr d q) := by
 obtain ⟨hl, w⟩ := cbrFits hf hq
 unfold f20 cbr
 rw [rwSpec hl hq, bS]
 cases h : (rwo d.Relations q).2
 ·simp
 rw [specDb (fits_room hf)]
 cases hv : vDb d
 ·simp
 by_cases hz : q.Free.length = 0
 ·simp [hz, evalSpec hf w (show ([] : List Int).length <= 1048576 by simp)]
 ·simp [hz]
theorem cbrImp {d : Database} {q : Query} (hf : Fits d) (hq : FitsQ q) : f22 d q = some (cbr d q) := by
 obtain ⟨hl, w⟩ := cbrFits hf hq
 unfold f22 cbr
 rw [rwImp hl hq, bS]
 cases h : (rwo d.Relations q).2
 ·simp
 rw [impDb (fits_room hf)]
 cases hv : vDb d
 ·simp
 by_cases hz : q.Free.length = 0
 ·simp [hz, evalImp hf w (show ([] : List Int).length <= 1048576 by simp)]
 ·simp [hz]
theorem lawFnExactCertainByRewriting (a : Database) (ha : ok a) (b : Query) (hb : ok b) : f4 a b = some true := by
 unfold f4
 rw [szDb ha (by omega) (by omega), bS]
 by_cases h1 : lft 1048576 (dbSize a) < 0
 ·rw [if_pos h1]
 rw [if_neg h1]
 have b1 := lft_pos h1
 rw [szQ hb (by omega) (by omega), bS, lftq h1]
 by_cases h2 : lft 1048576 (dbSize a + querySize b) < 0
 ·rw [if_pos h2]
 rw [if_neg h2]
 have b2 := lft_pos h2
 have fd := db_fits (a := a) (by omega)
 have fq := q_fits (q := b) (by omega)
 simp only [toDb fd, toQ fq, cbrSpec fd fq, cbrImp fd fq, bS, eqDb fd, eqQ fq]
 simp
end
end Go.Proofs.YtjfeimhiiomgoaaGreatH
