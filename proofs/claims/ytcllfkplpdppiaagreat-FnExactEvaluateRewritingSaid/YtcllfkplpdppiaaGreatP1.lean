import Derived.Test.YtcllfkplpdppiaaGreatTd1
import Derived.Test.YtcllfkplpdppiaaGreatX3
import Derived.Test.YtcllfkplpdppiaaGreatRd1
set_option linter.unusedVariables false
set_option linter.unusedSimpArgs false
set_option linter.defProp false
set_option linter.unusedSectionVars false
namespace Go.Proofs.YtcllfkplpdppiaaGreatH
open Go
theorem toI {a : List Int} (h : a.length ≤ 1048576) : f16 a = some a := by
 unfold f16
 rw [mkl_ok (by omega) (by omega) (by omega)]
 have : iter (f16_0 a) (List.replicate (a.length : Int).toNat 0, 0) = some a := iter_copy (by simp) (fun i hi out ho => by
  simp only [f16_0]
  rw [if_pos (by omega), ix_nat hi, ix_nat ho, Int.toNat_natCast, w64_succ (by omega)]; rfl) (fun out => by
  simp only [f16_0]
  rw [if_neg (by omega)])
 simp only [Option.bind_some, this]
theorem eqI {a : List Int} (h : a.length ≤ 9223372036854775807) : f20 a a = some true := by
 unfold f20
 rw [if_neg (by simp)]
 rw [iter_ex (List.range a.length) (fun _ => false) false (fun i hi => by
  simp only [f20_0]
  simp only [List.length_range] at hi
  rw [if_pos (by omega), ix_nat hi, w64_succ (by omega)]
  simp) (by
  simp only [f20_0]
  rw [if_neg (by simp)])]
 simp
theorem szI {a : List Int} {n : Int} (h : a.length ≤ 9223372036854775807) (h0 : 0 ≤ n) (h1 : n ≤ 1048576) : f87 a n = some (lft n a.length) := by
 unfold f87
 rw [w64_of (by omega)]
 unfold lft
 by_cases hc : n < (a.length : Int)
 ·rw [if_pos (by omega), if_neg (by omega)]
 ·rw [if_neg (by omega), if_pos (by omega)]
end Go.Proofs.YtcllfkplpdppiaaGreatH
namespace Go.Proofs.YtcllfkplpdppiaaGreatH
open Go
abbrev Big (n : Nat) : Prop := n ≤ 9223372036854775806
theorem hasI {l : List Int} {x : Int} (h : Big l.length) : f95 l x = some (l.contains x) := by
 unfold f95
 rw [iter_ex l (fun a => x == a) true (fun i hi => by
  simp only [f95_0]
  rw [if_pos (by omega), ix_nat hi, w64_succ (by omega)]
  simp only [Option.bind_some]
  by_cases hc : l[i] = x
  ·rw [if_pos hc, if_pos (by simp [hc])]
  ·rw [if_neg hc, if_neg (by simp; exact fun h => hc h.symm)]) (by
  simp only [f95_0]
  rw [if_neg (by omega)])]
 rw [show l.contains x = l.any (fun a => x == a) from List.any_beq.symm]
 by_cases hc : l.any (fun a => x == a) = true
 ·rw [if_pos hc, hc]; rfl
 ·rw [if_neg hc]; simp only [Bool.not_eq_true] at hc; rw [hc]; rfl
theorem indexI {s : List Int} {f : Int → Option Bool} {p : Int → Bool} (h : Big s.length) (hf : ∀ a ∈ s, f a = some (p a)) : f159 s f = some (s.any p) := by
 unfold f159 f212
 obtain ⟨o, h1, h2⟩ := iter_idx (f := f212_0 s f) s p (fun i hi => by
  simp only [f212_0]
  rw [if_pos (by omega), ix_nat hi, w64_succ (by omega)]
  simp only [Option.bind_some, hf _ (List.getElem_mem hi)]
  split <;> rfl) (by
  simp only [f212_0]
  rw [if_neg (by omega)])
 rw [h1]
 cases o with
 | inl _ => dsimp only at h2; rw [h2]; rfl
 | inr x => dsimp only at h2; rw [h2.2]; simp; omega
theorem containsI {s : List Int} {v : Int} (h : Big s.length) : f125 s v = some (s.contains v) := by
 unfold f125 f182
 obtain ⟨o, h1, h2⟩ := iter_idx (f := f182_0 s v) s (fun a => v == a) (fun i hi => by
  simp only [f182_0]
  rw [if_pos (by omega), ix_nat hi, w64_succ (by omega)]
  simp only [Option.bind_some, beq_iff_eq]
  split <;> rfl) (by
  simp only [f182_0]
  rw [if_neg (by omega)])
 rw [h1]
 rw [show s.contains v = s.any (fun a => v == a) from List.any_beq.symm]
 cases o with
 | inl _ => dsimp only at h2; rw [h2]; rfl
 | inr x => dsimp only at h2; rw [h2.2]; simp; omega
theorem subset {a b : List Int} (ha : Big a.length) (hb : Big b.length) : f139 a b = some (a.all b.contains) := by
 unfold f139
 rw [indexI (p := fun x => !b.contains x) ha (fun x _ => by
  unfold f195
  rw [containsI hb]
  simp)]
 rw [any_not]
 simp
end Go.Proofs.YtcllfkplpdppiaaGreatH
namespace Go.Proofs.YtcllfkplpdppiaaGreatH
open Go
end Go.Proofs.YtcllfkplpdppiaaGreatH
namespace Go.Proofs.YtcllfkplpdppiaaGreatH
open Go
theorem toRs {a : List Relation} (h : a.length ≤ 1048576) : f28 a = some a := by
 unfold f28
 rw [mkl_ok (by omega) (by omega) (by omega)]
 have : iter (f28_0 a) (List.replicate (a.length : Int).toNat ({ Name := [], Arity := 0, KeyLength := 0 } : Relation), 0) = some a := iter_copy (by simp) (fun i hi out ho => by
  simp only [f28_0]
  rw [if_pos (by omega), ix_nat hi, ix_nat ho, Int.toNat_natCast, w64_succ (by omega)]; rfl) (fun out => by
  simp only [f28_0]
  rw [if_neg (by omega)])
 simp only [Option.bind_some, this]
theorem toFt {a : Fact} (h : a.Values.length ≤ 1048576) : f154 a = some a := by
 unfold f154
 rw [toI h]; rfl
theorem toFs {a : List Fact} (h : a.length ≤ 1048576) (h' : ∀ x ∈ a, x.Values.length ≤ 1048576) : f77 a = some a := by
 unfold f77
 rw [mkl_ok (by omega) (by omega) (by omega)]
 have : iter (f77_0 a) (List.replicate (a.length : Int).toNat ({ Relation := 0, Values := [] } : Fact), 0) = some a := iter_copy (by simp) (fun i hi out ho => by
  simp only [f77_0]
  rw [if_pos (by omega), ix_nat hi, ix_nat ho, Int.toNat_natCast, w64_succ (by omega)]
  simp only [Option.bind_some, toFt (h' _ (List.getElem_mem hi))]) (fun out => by
  simp only [f77_0]
  rw [if_neg (by omega)])
 simp only [Option.bind_some, this]
def Fits (d : Database) : Prop := d.Relations.length ≤ 1048576 ∧ d.Facts.length ≤ 1048576 ∧ ∀ x ∈ d.Facts, x.Values.length ≤ 1048576
theorem toDb {a : Database} (h : Fits a) : f14 a = some a := by
 unfold f14
 rw [toRs h.1, Option.bind_some, toFs h.2.1 h.2.2]; rfl
theorem eqRl {a : Relation} : f107 a a = some true := by unfold f107; simp
theorem eqRs {a : List Relation} (h : a.length ≤ 9223372036854775807) : f30 a a = some true := by
 unfold f30
 rw [if_neg (by simp)]
 rw [iter_ex (List.range a.length) (fun _ => false) false (fun i hi => by
  simp only [f30_0]
  simp only [List.length_range] at hi
  rw [if_pos (by omega), ix_nat hi, w64_succ (by omega)]
  simp only [Option.bind_some, eqRl]
  simp) (by
  simp only [f30_0]
  rw [if_neg (by simp)])]
 simp
theorem eqFt {a : Fact} (h : a.Values.length ≤ 9223372036854775807) : f163 a a = some true := by
 unfold f163
 rw [if_neg (by simp), eqI h]; simp
theorem eqFs {a : List Fact} (h : a.length ≤ 9223372036854775807) (h' : ∀ x ∈ a, x.Values.length ≤ 9223372036854775807) : f84 a a = some true := by
 unfold f84
 rw [if_neg (by simp)]
 rw [iter_ex (List.range a.length) (fun _ => false) false (fun i hi => by
  simp only [f84_0]
  simp only [List.length_range] at hi
  rw [if_pos (by omega), ix_nat hi, w64_succ (by omega)]
  simp only [Option.bind_some, eqFt (h' _ (List.getElem_mem hi))]
  simp) (by
  simp only [f84_0]
  rw [if_neg (by simp)])]
 simp
theorem eqDb {a : Database} (h : Fits a) : f18 a a = some true := by
 unfold f18
 rw [eqRs (by have := h.1; omega), Option.bind_some, if_neg (by simp), eqFs (by have := h.2.1; omega) (fun x hx => by have := h.2.2 x hx; omega)]
 simp
theorem szRl {a : Relation} {n : Int} (h : ok a) (h0 : 0 ≤ n) (h1 : n ≤ 1048576) : f92 a n = some (lft n a.Name.length) := by
 have h := h.1.1
 unfold f92
 rw [w64_of (by omega)]
 unfold lft
 by_cases hc : n < (a.Name.length : Int)
 ·rw [if_pos (by omega), if_neg (by omega)]
 ·rw [if_neg (by omega), if_pos (by omega)]
theorem szFt {a : Fact} {n : Int} (h : ok a) (h0 : 0 ≤ n) (h1 : n ≤ 1048576) : f148 a n = some (lft n a.Values.length) := by
 unfold f148
 rw [szI h.2.1 h0 h1, Option.bind_some]
 split
 ·rename_i hlt; rw [lft_bad hlt]
 ·rfl
theorem lft_sub {n : Int} {a b : Nat} (h : ¬ n < a) : lft (n - a) b = lft n (a + b) := by
 unfold lft
 by_cases hc2 : ((b : Nat) : Int) ≤ n - a
 ·rw [if_pos hc2, if_pos (by omega)]; omega
 ·rw [if_neg hc2, if_neg (by omega)]
theorem szRs {a : List Relation} {n : Int} (h : ok a) (h0 : 0 ≤ n) (h1 : n ≤ 1048576) : f26 a n = some (lft n (a.length + (a.map (·.Name.length)).sum)) := by
 obtain ⟨h, h'⟩ := h
 unfold f26
 rw [w64_of (by omega)]
 by_cases hc : n < (a.length : Int)
 ·rw [if_pos (by omega)]
  unfold lft
  rw [if_neg (by omega)]
 ·rw [if_neg (by omega)]
  rw [iter_sz (fun x : Relation => x.Name.length) a _ (by omega) (fun i hi b hb hb' => by
   simp only [f26_0]
   rw [if_pos (by omega), ix_nat hi, w64_succ (by omega)]
   simp only [Option.bind_some, szRl (h' _ (List.getElem_mem hi)) hb (by omega)]
   split <;> rfl) (fun b => by
   simp only [f26_0]
   rw [if_neg (by omega)]), lft_sub hc]
  split
  ·rename_i hlt
   rw [lft_bad hlt]; rfl
  ·rfl
theorem szFs {a : List Fact} {n : Int} (h : ok a) (h0 : 0 ≤ n) (h1 : n ≤ 1048576) : f71 a n = some (lft n (a.length + (a.map (·.Values.length)).sum)) := by
 obtain ⟨h, h'⟩ := h
 unfold f71
 rw [w64_of (by omega)]
 by_cases hc : n < (a.length : Int)
 ·rw [if_pos (by omega)]
  unfold lft
  rw [if_neg (by omega)]
 ·rw [if_neg (by omega)]
  rw [iter_sz (fun x : Fact => x.Values.length) a _ (by omega) (fun i hi b hb hb' => by
   simp only [f71_0]
   rw [if_pos (by omega), ix_nat hi, w64_succ (by omega)]
   simp only [Option.bind_some, szFt (h' _ (List.getElem_mem hi)) hb (by omega)]
   split <;> rfl) (fun b => by
   simp only [f71_0]
   rw [if_neg (by omega)]), lft_sub hc]
  split
  ·rename_i hlt
   rw [lft_bad hlt]; rfl
  ·rfl
def relSize (l : List Relation) : Nat := l.length + (l.map (·.Name.length)).sum
def factSize (l : List Fact) : Nat := l.length + (l.map (·.Values.length)).sum
def dbSize (d : Database) : Nat := relSize d.Relations + factSize d.Facts
theorem szDb {a : Database} {n : Int} (h : ok a) (h0 : 0 ≤ n) (h1 : n ≤ 1048576) : f11 a n = some (lft n (dbSize a)) := by
 unfold f11
 rw [szRs h.1 h0 h1, Option.bind_some]
 change (if lft n (relSize a.Relations) < 0 then _ else _) = _
 by_cases hc : lft n (relSize a.Relations) < 0
 ·rw [if_pos hc]
  have := lft_neg.1 hc
  unfold lft dbSize; rw [if_neg (by omega)]
 ·rw [if_neg hc]
  obtain ⟨e1, e2⟩ := lft_pos hc
  change (f71 a.Facts (lft n (relSize a.Relations))).bind _ = _
  rw [e1, szFs h.2 (by omega) (by omega), Option.bind_some]
  change (if lft (n - relSize a.Relations) (factSize a.Facts) < 0 then _ else _) = _
  change (if lft (n - relSize a.Relations) (factSize a.Facts) < 0 then _ else some (lft (n - relSize a.Relations) (factSize a.Facts))) = _
  rw [lft_sub (by omega)]
  split
  ·rename_i hlt; unfold dbSize; rw [lft_bad hlt]
  ·rfl
theorem db_fits {a : Database} (h : dbSize a ≤ 1048576) : Fits a := by
 unfold dbSize relSize factSize at h
 refine ⟨by omega, by omega, fun x hx => ?_⟩
 have := mem_le_sum (s := fun x : Fact => x.Values.length) hx
 omega
end Go.Proofs.YtcllfkplpdppiaaGreatH
namespace Go.Proofs.YtcllfkplpdppiaaGreatH
open Go
variable {α ρ : Type}
def good (q : α → Bool) (r : α → α → Bool) (l : List α) : Bool := decide (∀ i (h : i < l.length), (q l[i] && (decide (i = 0) || r (l[i - 1]'(by omega)) l[i])) = true)
theorem good_of {q : α → Bool} {r : α → α → Bool} {l : List α} (h : good q r l = true) {i : Nat} (hi : i < l.length) : q l[i] = true ∧ (0 < i → r (l[i - 1]'(by omega)) l[i] = true) := by
 have := of_decide_eq_true h i hi
 simp only [Bool.and_eq_true, Bool.or_eq_true, decide_eq_true_eq] at this
 exact ⟨this.1, fun hp => this.2.resolve_left (by omega)⟩
theorem iter_adj {f : Int → Option (Int ⊕ (Unit ⊕ ρ))} (q : α → Bool) (r : α → α → Bool) (L : List α) (c : ρ)
  (hs : ∀ (i : Nat) (h : i < L.length), f (i : Int) = some (if (q L[i] && (decide (i = 0) || r (L[i - 1]'(by omega)) L[i])) = true then .inl ((i + 1 : Nat) : Int) else .inr (.inr c)))
  (he : f (L.length : Int) = some (.inr (.inl ()))) : iter f 0 = some (if good q r L = true then .inl () else .inr c) := by
 obtain ⟨o, h1, h2⟩ := iter_up (f := f) L.length (fun i s => s = (i : Int) ∧ ∀ j (h : j < L.length), j < i → (q L[j] && (decide (j = 0) || r (L[j - 1]'(by omega)) L[j])) = true)
  (fun o => o = if good q r L = true then .inl () else .inr c) (fun i s hi ⟨h, hp⟩ => by
   subst h
   refine ⟨_, hs i hi, ?_⟩
   by_cases hc : (q L[i] && (decide (i = 0) || r (L[i - 1]'(by omega)) L[i])) = true
   ·rw [if_pos hc]
    refine ⟨rfl, fun j hj hlt => ?_⟩
    by_cases e : j = i
    ·subst e; exact hc
    ·exact hp j hj (by omega)
   ·rw [if_neg hc]
    dsimp only
    rw [if_neg]
    intro hg
    exact hc (of_decide_eq_true hg i hi)) (fun s ⟨h, hp⟩ => by
   subst h
   refine ⟨_, he, ?_⟩
   rw [if_pos]
   exact decide_eq_true fun i hi => hp i hi hi) 0 ⟨rfl, fun j _ h => by omega⟩
 rw [h1, h2]
def btw (x low high : Int) : Bool := decide (low ≤ x) && decide (x ≤ high)
theorem specIn {x a b : Int} : f118 x a b = some (btw x a b) := by
 unfold f118 btw
 by_cases h : a ≤ x
 ·rw [if_pos (show x ≥ a from h)]; simp [h]
 ·rw [if_neg (show ¬ x ≥ a from h)]; simp [h]
theorem impIn {x a b : Int} : f122 x a b = some (btw x a b) := by
 unfold f122 btw
 by_cases h : a ≤ x
 ·rw [if_pos h]; simp [h]
 ·rw [if_neg h]; simp [h]
def vRel (r : Relation) : Bool := decide (r.Name.length = 1) && (decide (97 ≤ (r.Name.getD 0 0).toNat) && (decide ((r.Name.getD 0 0).toNat ≤ 122) && (btw r.Arity 1 3 && btw r.KeyLength 0 r.Arity)))
theorem specRel {r : Relation} : f179 r = some (vRel r) := by
 unfold f179 vRel
 by_cases h1 : r.Name.length = 1
 ·rw [if_pos (by omega)]
  have e : ix r.Name 0 = some (r.Name.getD 0 0) := by rw [ix_of (by omega)]; simp [List.getElem?_eq_getElem (show 0 < r.Name.length by omega)]
  rw [e, Option.bind_some]
  generalize r.Name.getD 0 0 = c
  by_cases h2 : 97 ≤ c.toNat
  ·rw [if_pos (by omega)]
   by_cases h3 : c.toNat ≤ 122
   ·rw [if_pos (by omega), specIn, Option.bind_some]
    cases hb : btw r.Arity 1 3
    ·simp
    ·simp [specIn, h1, h2, h3]
   ·rw [if_neg (by omega)]; simp [h3]
  ·rw [if_neg (by omega)]; simp [h2]
 ·rw [if_neg (by omega)]; simp [h1]
theorem impRel {r : Relation} : f208 r = some (vRel r) := by
 unfold f208 vRel
 by_cases h1 : r.Name.length = 1
 ·rw [if_pos (by omega)]
  have e : ix r.Name 0 = some (r.Name.getD 0 0) := by rw [ix_of (by omega)]; simp [List.getElem?_eq_getElem (show 0 < r.Name.length by omega)]
  rw [e, Option.bind_some]
  generalize r.Name.getD 0 0 = c
  by_cases h2 : 97 ≤ c.toNat
  ·rw [if_pos (by omega)]
   by_cases h3 : c.toNat ≤ 122
   ·rw [if_pos (by omega), impIn, Option.bind_some]
    cases hb : btw r.Arity 1 3
    ·simp
    ·simp [impIn, h1, h2, h3]
   ·rw [if_neg (by omega)]; simp [h3]
  ·rw [if_neg (by omega)]; simp [h2]
 ·rw [if_neg (by omega)]; simp [h1]
def vRels (l : List Relation) : Bool := good vRel (fun a b => Op.bytesLess a.Name b.Name) l && decide (l.length ≤ 4)
theorem specRels {l : List Relation} (h : Big l.length) : f117 l = some (vRels l) := by
 unfold f117 vRels
 rw [iter_adj vRel (fun a b => Op.bytesLess a.Name b.Name) l false (fun i hi => by
  simp only [f117_0]
  rw [if_pos (by omega), ix_nat hi, w64_succ (by omega)]
  simp only [Option.bind_some, specRel]
  cases vRel l[i]
  ·simp
  ·by_cases h0 : i = 0
   ·subst h0; simp
   ·have e : ix l (w64 ((i : Int) - 1)) = some (l[i - 1]'(by omega)) := by rw [w64_of (by omega), show (i : Int) - 1 = ((i - 1 : Nat) : Int) by omega, ix_nat (by omega)]
    simp only [e]
    have : 0 < i := by omega
    cases hb : Op.bytesLess (l[i - 1]'(by omega)).Name l[i].Name <;> simp [h0, this, hb]) (by
  simp only [f117_0]
  rw [if_neg (by omega)])]
 cases good vRel (fun a b => Op.bytesLess a.Name b.Name) l
 ·simp
 ·simp; omega
theorem impRels {l : List Relation} (h : Big l.length) : f156 l = some (vRels l) := by
 unfold f156 vRels
 rw [iter_adj vRel (fun a b => Op.bytesLess a.Name b.Name) l false (fun i hi => by
  simp only [f156_0]
  rw [if_pos (by omega), ix_nat hi, w64_succ (by omega)]
  simp only [Option.bind_some, impRel]
  cases vRel l[i]
  ·simp
  ·by_cases h0 : i = 0
   ·subst h0; simp
   ·have e : ix l (w64 ((i : Int) - 1)) = some (l[i - 1]'(by omega)) := by rw [w64_of (by omega), show (i : Int) - 1 = ((i - 1 : Nat) : Int) by omega, ix_nat (by omega)]
    simp only [e]
    have : 0 < i := by omega
    cases hb : Op.bytesLess (l[i - 1]'(by omega)).Name l[i].Name <;> simp [h0, this, hb]) (by
  simp only [f156_0]
  rw [if_neg (by omega)])]
 cases good vRel (fun a b => Op.bytesLess a.Name b.Name) l
 ·simp
 ·simp; omega
def arity (l : List Relation) (r : Int) : Int := (l[r.toNat]?.map (·.Arity)).getD 0
def keyLen (l : List Relation) (r : Int) : Int := (l[r.toNat]?.map (·.KeyLength)).getD 0
def vVals (l : List Int) : Bool := l.all fun v => btw v 0 9
def vFact (l : List Relation) (f : Fact) : Bool := btw f.Relation 0 (l.length - 1) && (decide ((f.Values.length : Int) = arity l f.Relation) && vVals f.Values)
theorem ix_rel {l : List Relation} {r : Int} (h : btw r 0 (l.length - 1) = true) : ∃ x, ix l r = some x ∧ x ∈ l ∧ x.Arity = arity l r ∧ x.KeyLength = keyLen l r := by
 unfold btw at h; simp only [Bool.and_eq_true, decide_eq_true_eq] at h
 have e : l[r.toNat]? = some (l[r.toNat]'(by omega)) := List.getElem?_eq_getElem _
 refine ⟨l[r.toNat]'(by omega), ?_, List.getElem_mem _, ?_, ?_⟩
 ·rw [ix_of h.1, e]
 ·unfold arity; rw [e]; rfl
 ·unfold keyLen; rw [e]; rfl
theorem specFact {l : List Relation} {f : Fact} (h : Big l.length) (hf : Big f.Values.length) : f150 l f = some (vRels l && vFact l f) := by
 unfold f150 vFact
 rw [specRels h, Option.bind_some]
 cases vRels l
 ·simp
 ·rw [w64_of (by omega), specIn]
  cases hb : btw f.Relation 0 (l.length - 1)
  ·simp
  ·obtain ⟨x, h1, _, h2, _⟩ := ix_rel hb
   rw [h1]
   by_cases ha : (f.Values.length : Int) = arity l f.Relation
   ·rw [iter_ex f.Values (fun v => !btw v 0 9) false (fun i hi => by
     simp only [f150_0]
     rw [if_pos (by omega), ix_nat hi, w64_succ (by omega)]
     simp only [Option.bind_some, specIn]
     cases btw f.Values[i] 0 9 <;> simp) (by
     simp only [f150_0]
     rw [if_neg (by omega)])]
    unfold vVals
    rw [any_not]
    cases f.Values.all (fun v => btw v 0 9) <;> simp [h2, ha]
   ·simp [h2, ha]
theorem impVals {l : List Int} (h : Big l.length) : f209 l = some (vVals l) := by
 unfold f209
 rw [indexI (p := fun v => !btw v 0 9) h (fun v _ => by
  unfold f245
  rw [impIn]; cases btw v 0 9 <;> simp)]
 unfold vVals
 rw [any_not]
 cases l.all (fun v => btw v 0 9) <;> simp
theorem impFact {l : List Relation} {f : Fact} (h : Big l.length) (hf : Big f.Values.length) : f157 l f = some (vFact l f) := by
 unfold f157 vFact
 rw [w64_of (by omega), impIn]
 cases hb : btw f.Relation 0 (l.length - 1)
 ·simp
 ·obtain ⟨x, h1, _, h2, _⟩ := ix_rel hb
  rw [h1]
  by_cases ha : (f.Values.length : Int) = arity l f.Relation
  ·simp [h2, ha, impVals hf]
  ·simp [h2, ha]
def cmpL : List Int → List Int → Int
 | [], [] => 0
 | [], _ :: _ => -1
 | _ :: _, [] => 1
 | a :: s, b :: t => if a < b then -1 else if a > b then 1 else cmpL s t
theorem cmpL_step {a b : List Int} {i : Nat} (ha : i < a.length) (hb : i < b.length) : cmpL (a.drop i) (b.drop i) = if a[i] < b[i] then -1 else if a[i] > b[i] then 1 else cmpL (a.drop (i + 1)) (b.drop (i + 1)) := by
 rw [List.drop_eq_getElem_cons ha, List.drop_eq_getElem_cons hb, cmpL]
theorem cmpL_end {a b : List Int} {i : Nat} (h : a.length ≤ i ∨ b.length ≤ i) (hi : i ≤ a.length ∧ i ≤ b.length) : cmpL (a.drop i) (b.drop i) = if a.length < b.length then -1 else if a.length > b.length then 1 else 0 := by
 rcases h with h | h
 ·rw [List.drop_of_length_le h]
  by_cases e : b.length ≤ i
  ·rw [List.drop_of_length_le e, cmpL, if_neg (by omega), if_neg (by omega)]
  ·rw [List.drop_eq_getElem_cons (by omega : i < b.length), cmpL, if_pos (by omega)]
 ·rw [List.drop_of_length_le h]
  by_cases e : a.length ≤ i
  ·rw [List.drop_of_length_le e, cmpL, if_neg (by omega), if_neg (by omega)]
  ·rw [List.drop_eq_getElem_cons (by omega : i < a.length), cmpL, if_neg (by omega), if_pos (by omega)]
theorem specInts {a b : List Int} (ha : Big a.length) (hb : Big b.length) : f207 a b = some (cmpL a b) := by
 unfold f207
 refine Ens.eq (Q := fun r => r = cmpL a b) (Ens.bind (Q := fun o => match o with | .inl _ => (if a.length < b.length then -1 else if a.length > b.length then 1 else 0) = cmpL a b | .inr x => x = cmpL a b) ?_ fun o ho => ?_) _ (fun _ h => h)
 ·refine iter_up (f := f207_0 a b) (min a.length b.length) (fun i s => s = (i : Int) ∧ cmpL (a.drop i) (b.drop i) = cmpL a b) _ (fun i s hi ⟨h, hp⟩ => ?_) (fun s ⟨h, hp⟩ => ?_) 0 ⟨rfl, rfl⟩
  ·subst h
   have h1 : i < a.length := by omega
   have h2 : i < b.length := by omega
   simp only [f207_0]
   rw [if_pos (by omega), ix_nat h1, ix_nat h2, w64_succ (by omega)]
   rw [cmpL_step h1 h2] at hp
   simp only [Option.bind_some, show (i : Int) < b.length by omega, decide_true, if_true]
   by_cases c1 : a[i] < b[i]
   ·rw [if_pos c1] at hp ⊢
    exact ⟨_, rfl, hp⟩
   ·rw [if_neg c1] at hp ⊢
    by_cases c2 : a[i] > b[i]
    ·rw [if_pos c2] at hp ⊢; exact ⟨_, rfl, hp⟩
    ·rw [if_neg c2] at hp ⊢; exact ⟨_, rfl, rfl, hp⟩
  ·subst h
   rw [cmpL_end (by omega) (by omega)] at hp
   simp only [f207_0]
   by_cases c : ((min a.length b.length : Nat) : Int) < a.length
   ·rw [if_pos c]
    simp only [Option.bind_some, show ¬ ((min a.length b.length : Nat) : Int) < b.length by omega, decide_false]
    exact ⟨_, rfl, hp⟩
   ·rw [if_neg c]; exact ⟨_, rfl, hp⟩
 ·cases o with
  | inl _ =>
   dsimp only at ho ⊢
   by_cases c1 : a.length < b.length
   ·rw [if_pos c1] at ho; rw [if_pos (by omega)]; exact Ens.of ho
   ·rw [if_neg c1] at ho; rw [if_neg (by omega)]
    by_cases c2 : a.length > b.length
    ·rw [if_pos c2] at ho; rw [if_pos (by omega)]; exact Ens.of ho
    ·rw [if_neg c2] at ho; rw [if_neg (by omega)]; exact Ens.of ho
  | inr x => exact Ens.of ho
theorem cmpInt {a b : Int} : f246 a b = some (if a < b then -1 else if a > b then 1 else 0) := by
 unfold f246 f262
 simp only [ne_eq, not_true_eq_false, decide_false, Option.bind_some, Bool.false_eq_true, if_false]
 split
 ·rfl
 ·split <;> rfl
theorem impInts {a b : List Int} (ha : Big a.length) (hb : Big b.length) : f211 a b = some (cmpL a b) := by
 unfold f211
 refine Ens.eq (Q := fun r => r = cmpL a b) (Ens.bind (Q := fun o => match o with | .inl _ => (if a.length < b.length then -1 else 0) = cmpL a b | .inr x => x = cmpL a b) ?_ fun o ho => ?_) _ (fun _ h => h)
 ·refine iter_up (f := f211_0 a b) a.length (fun i s => s = (i : Int) ∧ i ≤ b.length ∧ cmpL (a.drop i) (b.drop i) = cmpL a b) _ (fun i s hi ⟨h, hl, hp⟩ => ?_) (fun s ⟨h, hl, hp⟩ => ?_) 0 ⟨rfl, by omega, rfl⟩
  ·subst h
   simp only [f211_0]
   rw [if_pos (by omega), ix_nat hi, w64_succ (by omega)]
   by_cases h2 : i < b.length
   ·rw [Option.bind_some, if_neg (by omega), ix_nat h2]
    rw [cmpL_step hi h2] at hp
    simp only [Option.bind_some, cmpInt]
    by_cases c1 : a[i] < b[i]
    ·rw [if_pos c1] at hp ⊢
     rw [if_pos (by omega)]; exact ⟨_, rfl, hp⟩
    ·rw [if_neg c1] at hp ⊢
     by_cases c2 : a[i] > b[i]
     ·rw [if_pos c2] at hp ⊢; rw [if_pos (by omega)]; exact ⟨_, rfl, hp⟩
     ·rw [if_neg c2] at hp ⊢; rw [if_neg (by omega)]; exact ⟨_, rfl, rfl, by omega, hp⟩
   ·rw [Option.bind_some, if_pos (by omega)]
    rw [cmpL_end (by omega) (by omega), if_neg (by omega), if_pos (by omega)] at hp
    exact ⟨_, rfl, hp⟩
  ·subst h
   simp only [f211_0]
   rw [if_neg (by omega)]
   rw [cmpL_end (by omega) (by omega)] at hp
   refine ⟨_, rfl, ?_⟩
   dsimp only
   rw [← hp]
   by_cases c1 : a.length < b.length
   ·rw [if_pos c1, if_pos c1]
   ·rw [if_neg c1, if_neg c1, if_neg (by omega)]
 ·cases o with
  | inl _ =>
   dsimp only at ho ⊢
   by_cases c1 : a.length < b.length
   ·rw [if_pos c1] at ho; rw [if_pos (by omega)]; exact Ens.of ho
   ·rw [if_neg c1] at ho; rw [if_neg (by omega)]; exact Ens.of ho
  | inr x => exact Ens.of ho
def cmpF (a b : Fact) : Int := if a.Relation < b.Relation then -1 else if a.Relation > b.Relation then 1 else cmpL a.Values b.Values
theorem specCmp {a b : Fact} (ha : Big a.Values.length) (hb : Big b.Values.length) : f151 a b = some (cmpF a b) := by
 unfold f151 cmpF
 rw [specInts ha hb]
 split
 ·rfl
 ·split <;> rfl
theorem impCmp {a b : Fact} (ha : Big a.Values.length) (hb : Big b.Values.length) : f158 a b = some (cmpF a b) := by
 unfold f158 f210 cmpF
 rw [impInts ha hb]
 by_cases c1 : a.Relation < b.Relation
 ·rw [if_pos (by omega), if_pos c1, if_pos c1]; rfl
 ·rw [if_neg c1, if_neg c1]
  by_cases c2 : a.Relation > b.Relation
  ·rw [if_pos (by omega), if_pos c2, if_pos c2]; rfl
  ·rw [if_neg (by omega), if_neg c2]; rfl
def Room (d : Database) : Prop := Big d.Relations.length ∧ Big d.Facts.length ∧ ∀ x ∈ d.Facts, Big x.Values.length
theorem fits_room {d : Database} (h : Fits d) : Room d := ⟨by have := h.1; omega, by have := h.2.1; omega, fun x hx => by have := h.2.2 x hx; omega⟩
def gFacts (d : Database) : Bool := good (vFact d.Relations) (fun a b => decide (cmpF a b < 0)) d.Facts
def vDb (d : Database) : Bool := vRels d.Relations && (decide (d.Facts.length ≤ 14) && gFacts d)
theorem good_congr {q q' : α → Bool} {r : α → α → Bool} {l : List α} (h : ∀ a ∈ l, q a = q' a) : good q r l = good q' r l := by
 unfold good
 congr 1
 apply propext
 constructor
 ·intro g i hi; rw [← h _ (List.getElem_mem hi)]; exact g i hi
 ·intro g i hi; rw [h _ (List.getElem_mem hi)]; exact g i hi
theorem specDb {d : Database} (h : Room d) : f73 d = some (vDb d) := by
 obtain ⟨h1, h2, h3⟩ := h
 unfold f73
 rw [iter_adj (fun f => vRels d.Relations && vFact d.Relations f) (fun a b => decide (cmpF a b < 0)) d.Facts false (fun i hi => by
  simp only [f73_0]
  rw [if_pos (by omega), ix_nat hi, w64_succ (by omega)]
  simp only [Option.bind_some, specFact h1 (h3 _ (List.getElem_mem hi))]
  cases (vRels d.Relations && vFact d.Relations d.Facts[i])
  ·simp
  ·by_cases h0 : i = 0
   ·subst h0; simp
   ·have e : ix d.Facts (w64 ((i : Int) - 1)) = some (d.Facts[i - 1]'(by omega)) := by rw [w64_of (by omega), show (i : Int) - 1 = ((i - 1 : Nat) : Int) by omega, ix_nat (by omega)]
    simp only [e, Option.bind_some, specCmp (h3 _ (List.getElem_mem (show i - 1 < d.Facts.length by omega))) (h3 _ (List.getElem_mem hi))]
    have : 0 < i := by omega
    by_cases hb : cmpF (d.Facts[i - 1]'(by omega)) d.Facts[i] < 0
    ·simp [h0, this, hb, Int.not_le.2 hb]
    ·simp [h0, this, hb, show 0 ≤ cmpF (d.Facts[i - 1]'(by omega)) d.Facts[i] by omega]) (by
  simp only [f73_0]
  rw [if_neg (by omega)])]
 unfold vDb
 rw [specRels h1]
 cases hv : vRels d.Relations
 ·split <;> simp
 ·have e : good (fun f => true && vFact d.Relations f) (fun a b => decide (cmpF a b < 0)) d.Facts = gFacts d := good_congr fun a _ => Bool.true_and _
  rw [e]
  cases gFacts d
  ·simp
  ·simp; omega
theorem impDb {d : Database} (h : Room d) : f79 d = some (vDb d) := by
 obtain ⟨h1, h2, h3⟩ := h
 unfold f79 vDb
 rw [impRels h1, Option.bind_some]
 cases vRels d.Relations
 ·simp
 ·by_cases hn : d.Facts.length ≤ 14
  ·rw [iter_adj (vFact d.Relations) (fun a b => decide (cmpF a b < 0)) d.Facts false (fun i hi => by
    simp only [f79_0]
    rw [if_pos (by omega), ix_nat hi, w64_succ (by omega)]
    simp only [Option.bind_some, impFact h1 (h3 _ (List.getElem_mem hi))]
    cases vFact d.Relations d.Facts[i]
    ·simp
    ·by_cases h0 : i = 0
     ·subst h0; simp
     ·have e : ix d.Facts (w64 ((i : Int) - 1)) = some (d.Facts[i - 1]'(by omega)) := by rw [w64_of (by omega), show (i : Int) - 1 = ((i - 1 : Nat) : Int) by omega, ix_nat (by omega)]
      simp only [e, Option.bind_some, impCmp (h3 _ (List.getElem_mem (show i - 1 < d.Facts.length by omega))) (h3 _ (List.getElem_mem hi))]
      have : 0 < i := by omega
      by_cases hb : cmpF (d.Facts[i - 1]'(by omega)) d.Facts[i] < 0
      ·simp [h0, this, hb, Int.not_le.2 hb]
      ·simp [h0, this, hb, show 0 ≤ cmpF (d.Facts[i - 1]'(by omega)) d.Facts[i] by omega]) (by
    simp only [f79_0]
    rw [if_neg (by omega)])]
   change _ = some (true && (decide (d.Facts.length ≤ 14) && good (vFact d.Relations) (fun a b => decide (cmpF a b < 0)) d.Facts))
   cases good (vFact d.Relations) (fun a b => decide (cmpF a b < 0)) d.Facts
   ·simp
   ·simp [hn]; omega
  ·simp [hn]; omega
end Go.Proofs.YtcllfkplpdppiaaGreatH
namespace Go.Proofs.YtcllfkplpdppiaaGreatH
open Go
variable {α ρ : Type}
theorem cmpL_trans : ∀ {a b c : List Int}, cmpL a b < 0 → cmpL b c < 0 → cmpL a c < 0
 | [], _, [], h1, h2 => by
  rename_i b
  cases b with
  | nil => simp [cmpL] at h1
  | cons y b => simp [cmpL] at h2
 | [], _, _ :: _, h1, h2 => by simp [cmpL]
 | _ :: _, [], _, h1, h2 => by simp [cmpL] at h1
 | _ :: _, _ :: _, [], h1, h2 => by simp [cmpL] at h2
 | x :: a, y :: b, z :: c, h1, h2 => by
  rw [cmpL] at h1 h2 ⊢
  by_cases c1 : x < y
  ·by_cases c2 : y < z
   ·rw [if_pos (by omega)]; omega
   ·rw [if_neg c2] at h2
    by_cases c3 : y > z
    ·rw [if_pos c3] at h2; omega
    ·rw [if_pos (by omega)]; omega
  ·rw [if_neg c1] at h1
   by_cases c3 : x > y
   ·rw [if_pos c3] at h1; omega
   ·rw [if_neg c3] at h1
    by_cases c2 : y < z
    ·rw [if_pos (by omega)]; omega
    ·rw [if_neg c2] at h2
     by_cases c4 : y > z
     ·rw [if_pos c4] at h2; omega
     ·rw [if_neg c4] at h2
      rw [if_neg (by omega), if_neg (by omega)]
      exact cmpL_trans h1 h2
theorem cmpL_conv : ∀ {m : Nat} {a b c : List Int}, cmpL a b < 0 → cmpL b c < 0 → m ≤ a.length → m ≤ b.length → m ≤ c.length → a.take m = c.take m → a.take m = b.take m
 | 0, _, _, _, _, _, _, _, _, _ => by simp
 | m + 1, [], _, _, _, _, h, _, _, _ => by simp at h
 | m + 1, _ :: _, [], _, _, _, _, h, _, _ => by simp at h
 | m + 1, _ :: _, _ :: _, [], _, _, _, _, h, _ => by simp at h
 | m + 1, x :: a, y :: b, z :: c, h1, h2, l1, l2, l3, h => by
  simp only [List.take_succ_cons, List.cons.injEq] at h ⊢
  obtain ⟨rfl, h⟩ := h
  simp only [List.length_cons] at l1 l2 l3
  rw [cmpL] at h1 h2
  have e : x = y := by
   by_cases c1 : x < y
   ·rw [if_neg (by omega), if_pos (by omega)] at h2; omega
   ·rw [if_neg c1] at h1
    by_cases c2 : x > y
    ·rw [if_pos c2] at h1; omega
    ·omega
  subst e
  rw [if_neg (by omega), if_neg (by omega)] at h1 h2
  exact ⟨rfl, cmpL_conv h1 h2 (by omega) (by omega) (by omega) h⟩
theorem cmpL_eq : ∀ {a b : List Int}, cmpL a b = 0 ↔ a = b
 | [], [] => by simp [cmpL]
 | [], _ :: _ => by simp [cmpL]
 | _ :: _, [] => by simp [cmpL]
 | x :: a, y :: b => by
  rw [cmpL]
  by_cases c1 : x < y
  ·rw [if_pos c1]; simp; intro h; omega
  ·rw [if_neg c1]
   by_cases c2 : x > y
   ·rw [if_pos c2]; simp; intro h; omega
   ·rw [if_neg c2, cmpL_eq]
    simp only [List.cons.injEq]
    exact ⟨fun h => ⟨by omega, h⟩, fun h => h.2⟩
theorem cmpF_trans {a b c : Fact} (h1 : cmpF a b < 0) (h2 : cmpF b c < 0) : cmpF a c < 0 := by
 unfold cmpF at h1 h2 ⊢
 by_cases c1 : a.Relation < b.Relation
 ·by_cases c2 : b.Relation > c.Relation
  ·rw [if_neg (by omega), if_pos c2] at h2; omega
  ·rw [if_pos (by omega)]; omega
 ·rw [if_neg c1] at h1
  by_cases c3 : a.Relation > b.Relation
  ·rw [if_pos c3] at h1; omega
  ·rw [if_neg c3] at h1
   by_cases c2 : b.Relation < c.Relation
   ·rw [if_pos (by omega)]; omega
   ·rw [if_neg c2] at h2
    by_cases c4 : b.Relation > c.Relation
    ·rw [if_pos c4] at h2; omega
    ·rw [if_neg c4] at h2
     rw [if_neg (by omega), if_neg (by omega)]
     exact cmpL_trans h1 h2
def keyOf (l : List Relation) (a : Fact) : List Int := a.Values.take (keyLen l a.Relation).toNat
def same (l : List Relation) (a b : Fact) : Bool := decide (a.Relation = b.Relation) && decide (keyOf l a = keyOf l b)
theorem vRel_mem {l : List Relation} (h : vRels l = true) {r : Relation} (hr : r ∈ l) : vRel r = true := by
 unfold vRels at h; simp only [Bool.and_eq_true] at h
 obtain ⟨i, hi, rfl⟩ := List.mem_iff_getElem.1 hr
 exact (good_of h.1 hi).1
theorem key_le {l : List Relation} {f : Fact} (h : vRels l = true) (hf : vFact l f = true) : ∃ x, ix l f.Relation = some x ∧ x.KeyLength = keyLen l f.Relation ∧ 0 ≤ keyLen l f.Relation ∧ keyLen l f.Relation ≤ f.Values.length := by
 unfold vFact at hf; simp only [Bool.and_eq_true, decide_eq_true_eq] at hf
 obtain ⟨x, h1, h2, h3, h4⟩ := ix_rel hf.1
 have := vRel_mem h h2
 unfold vRel btw at this
 simp only [Bool.and_eq_true, decide_eq_true_eq] at this
 exact ⟨x, h1, h4, by omega, by omega⟩
theorem specKey {l : List Relation} {f : Fact} (hl : Big l.length) (hv : f.Values.length ≤ 1048576) (h : vRels l = true) (hf : vFact l f = true) : f263 l f = some (keyOf l f) := by
 unfold f263
 rw [specFact hl (by omega), h, hf]
 obtain ⟨x, h1, h2, h3, h4⟩ := key_le h hf
 simp only [Bool.and_self, Option.bind_some, not_true_eq_false, if_false, h1]
 rw [h2, cutL_ok (by omega) h3 h4, Option.bind_some, app_fits (by simp; omega)]
 simp [keyOf]
theorem specSame {l : List Relation} {a b : Fact} (hl : Big l.length) (ha : a.Values.length ≤ 1048576) (hb : b.Values.length ≤ 1048576) (h : vRels l = true) (va : vFact l a = true) (vb : vFact l b = true) : f241 l a b = some (same l a b) := by
 unfold f241 same
 rw [specFact hl (by omega), specFact hl (by omega), h, va, vb, specKey hl ha h va, specKey hl hb h vb]
 have k1 : Big (keyOf l a).length := by unfold keyOf; simp; omega
 have k2 : Big (keyOf l b).length := by unfold keyOf; simp; omega
 by_cases c : a.Relation = b.Relation
 ·simp only [Bool.and_self, Option.bind_some, if_true, c, specInts k1 k2, decide_true, Bool.true_and]
  by_cases e : keyOf l a = keyOf l b
  ·rw [cmpL_eq.2 e]; simp [e]
  ·have : ¬ cmpL (keyOf l a) (keyOf l b) = 0 := fun h => e (cmpL_eq.1 h)
   simp [this, e]
 ·simp [c]
theorem eqSl {a b : List Int} (ha : Big a.length) : f214 a b = some (decide (a = b)) := by
 unfold f214
 by_cases hl : a.length = b.length
 ·rw [if_neg (by omega)]
  rw [iter_ex (List.range a.length) (fun i => decide (a[i]? ≠ b[i]?)) false (fun i hi => by
   simp only [List.length_range] at hi
   simp only [f214_0, List.getElem_range]
   rw [if_pos (by omega), ix_nat hi, ix_nat (by omega : i < b.length), w64_succ (by omega), List.getElem?_eq_getElem hi, List.getElem?_eq_getElem (by omega : i < b.length)]
   by_cases c : a[i] = b[i]'(by omega)
   ·simp [c]
   ·simp [c]) (by
   simp only [f214_0]
   rw [if_neg (by simp)])]
  by_cases e : a = b
  ·subst e; simp
  ·have : ((List.range a.length).any fun i => decide (a[i]? ≠ b[i]?)) = true := by
    apply Classical.byContradiction
    intro hn
    apply e
    apply List.ext_getElem hl
    intro i h1 h2
    apply Classical.byContradiction
    intro hne
    exact hn (List.any_eq_true.2 ⟨i, List.mem_range.2 h1, by simp [List.getElem?_eq_getElem h1, List.getElem?_eq_getElem h2, hne]⟩)
   rw [if_pos this]; simp [e]
 ·rw [if_pos (by omega)]
  have : a ≠ b := fun h => hl (by rw [h])
  simp [this]
theorem impSame {l : List Relation} {a b : Fact} (ha : a.Values.length ≤ 1048576) (hb : b.Values.length ≤ 1048576) (h : vRels l = true) (va : vFact l a = true) (vb : vFact l b = true) : f162 l a b = some (same l a b) := by
 unfold f162 same
 obtain ⟨x, h1, h2, h3, h4⟩ := key_le h va
 obtain ⟨x', h1', h2', h3', h4'⟩ := key_le h vb
 by_cases c : a.Relation = b.Relation
 ·rw [if_neg (by simp [c]), h1, Option.bind_some, h2, cutL_ok (by omega) h3 h4, Option.bind_some, cutL_ok (by omega) h3 (by rw [c]; exact h4'), Option.bind_some, eqSl (by simp; omega)]
  simp [keyOf, c]
 ·rw [if_pos c]; simp [c]
structure Kin (n : Nat) (sk : Nat → Nat → Bool) : Prop where
 refl : ∀ i, i < n → sk i i = true
 symm : ∀ i k, i < n → k < n → sk i k = sk k i
 trans : ∀ i j k, i < n → j < n → k < n → sk i j = true → sk j k = true → sk i k = true
 conv : ∀ i j k, i ≤ j → j ≤ k → k < n → sk i k = true → sk i j = true
variable {n : Nat} {sk : Nat → Nat → Bool}
def blk (sk : Nat → Nat → Bool) (i x : Nat) : List Int := (List.range x).flatMap fun k => if sk i k = true then [((k : Nat) : Int)] else []
def start (sk : Nat → Nat → Bool) (i : Nat) : Bool := (List.range i).all fun k => !sk k i
def blks (sk : Nat → Nat → Bool) (y x : Nat) : List (List Int) := (List.range y).flatMap fun i => if start sk i = true then [blk sk i x] else []
theorem blk_succ {i x : Nat} : blk sk i (x + 1) = blk sk i x ++ if sk i x = true then [((x : Nat) : Int)] else [] := by simp [blk, List.range_succ]
theorem blks_succ {y x : Nat} : blks sk (y + 1) x = blks sk y x ++ if start sk y = true then [blk sk y x] else [] := by simp [blks, List.range_succ]
theorem blk_len {i x : Nat} : (blk sk i x).length ≤ x := by
 induction x with
 | zero => simp [blk]
 | succ x ih => rw [blk_succ, List.length_append]; split <;> simp <;> omega
theorem blks_len {y x : Nat} : (blks sk y x).length ≤ y := by
 induction y with
 | zero => simp [blks]
 | succ y ih => rw [blks_succ, List.length_append]; split <;> simp <;> omega
theorem blk_none {i s : Nat} (h : ∀ k, k < s → sk i k = false) : blk sk i s = [] := by
 induction s with
 | zero => simp [blk]
 | succ s ih => rw [blk_succ, ih fun k hk => h k (by omega), h s (by omega)]; simp
theorem blk_first {i s x : Nat} (h : ∀ k, k < s → sk i k = false) (hs : sk i s = true) (hx : s < x) : ∃ t, blk sk i x = (s : Int) :: t := by
 induction x with
 | zero => omega
 | succ x ih =>
  rw [blk_succ]
  by_cases e : s = x
  ·subst e; rw [blk_none h, if_pos hs]; exact ⟨[], rfl⟩
  ·obtain ⟨t, ht⟩ := ih (by omega)
   rw [ht]; exact ⟨_, rfl⟩
theorem start_iff {i : Nat} : start sk i = true ↔ ∀ k, k < i → sk k i = false := by
 unfold start; rw [List.all_eq_true]
 simp only [List.mem_range, Bool.not_eq_true']
theorem not_start {i : Nat} (h : start sk i = false) : ∃ s, s < i ∧ sk s i = true ∧ ∀ k, k < s → sk k i = false := by
 have : ∃ s, s < i ∧ sk s i = true := by
  apply Classical.byContradiction
  intro hn
  have : start sk i = true := start_iff.2 fun k hk => by
   cases hb : sk k i
   ·rfl
   ·exact (hn ⟨k, hk, hb⟩).elim
  rw [h] at this; cases this
 obtain ⟨s, h1, h2⟩ := this
 induction s using Nat.strongRecOn with
 | _ s ih =>
  by_cases c : ∃ k, k < s ∧ sk k i = true
  ·obtain ⟨k, hk, hc⟩ := c
   exact ih k hk (by omega) hc
  ·refine ⟨s, h1, h2, fun k hk => ?_⟩
   cases hb : sk k i
   ·rfl
   ·exact (c ⟨k, hk, hb⟩).elim
theorem blk_head (K : Kin n sk) {i x : Nat} (hi : i < n) (hx : x ≤ n) (hix : i < x) : ∃ (s : Nat) (t : List Int), blk sk i x = (s : Int) :: t ∧ s ≤ i ∧ (s = i ↔ start sk i = true) := by
 cases hs : start sk i
 ·obtain ⟨s, h1, h2, h3⟩ := not_start hs
  obtain ⟨t, ht⟩ := blk_first (sk := sk) (i := i) (s := s) (x := x) (fun k hk => by rw [K.symm i k hi (by omega)]; exact h3 k hk) (by rw [K.symm i s hi (by omega)]; exact h2) (by omega)
  refine ⟨s, t, ht, by omega, ?_⟩
  simp; omega
 ·obtain ⟨t, ht⟩ := blk_first (sk := sk) (i := i) (s := i) (x := x) (fun k hk => by rw [K.symm i k hi (by omega)]; exact start_iff.1 hs k hk) (K.refl i hi) hix
  exact ⟨i, t, ht, by omega, by simp⟩
theorem blks_bnd {y x : Nat} (h : ∀ i, i < y → start sk i = true → sk i x = false) : blks sk y (x + 1) = blks sk y x := by
 induction y with
 | zero => simp [blks]
 | succ y ih =>
  rw [blks_succ, blks_succ, ih fun i hi => h i (by omega)]
  by_cases c : start sk y = true
  ·rw [if_pos c, if_pos c, blk_succ, h y (by omega) c]; simp
  ·rw [if_neg c, if_neg c]
theorem blks_nost {s y x : Nat} (hs : s ≤ y) (h : ∀ i, s ≤ i → i < y → start sk i = false) : blks sk y x = blks sk s x := by
  induction y with
  | zero => have : s = 0 := by omega
            subst this; rfl
  | succ y ih =>
    by_cases e : s = y + 1
    · subst e; rfl
    · rw [blks_succ, h y (by omega) (by omega)]
      simp [ih (by omega) fun i h1 h2 => h i h1 (by omega)]
theorem blks_start (K : Kin n sk) {x : Nat} (hx : x < n) (h : start sk x = true) : blks sk (x + 1) (x + 1) = blks sk x x ++ [[(x : Int)]] := by
 rw [blks_succ, if_pos h, blks_bnd fun i hi _ => start_iff.1 h i hi, blk_succ, K.refl x hx, if_pos rfl, blk_none fun k hk => by rw [K.symm x k hx (by omega)]; exact start_iff.1 h k hk]
 rfl
theorem blks_more (K : Kin n sk) {x : Nat} (hx : x < n) (h : start sk x = false) : ∃ P B, blks sk x x = P ++ [B] ∧ blks sk (x + 1) (x + 1) = P ++ [B ++ [(x : Int)]] ∧ B.length ≤ x ∧ ∃ s t, s < x ∧ B = ((s : Nat) : Int) :: t ∧ sk s x = true := by
 obtain ⟨s, h1, h2, h3⟩ := not_start h
 have hst : start sk s = true := start_iff.2 fun k hk => by
  cases hb : sk k s
  ·rfl
  ·have := K.trans k s x (by omega) (by omega) hx hb h2
   rw [h3 k hk] at this; cases this
 have hno : ∀ i, s + 1 ≤ i → i < x + 1 → start sk i = false := fun i a b => by
  cases hb : start sk i
  ·rfl
  ·have := start_iff.1 hb s (by omega)
   rw [K.conv s i x (by omega) (by omega) hx h2] at this; cases this
 refine ⟨blks sk s x, blk sk s x, ?_, ?_, blk_len, ?_⟩
 ·rw [blks_nost (s := s + 1) (by omega) fun i a b => hno i a (by omega), blks_succ, if_pos hst]
 ·rw [blks_nost (s := s + 1) (by omega) hno, blks_succ, if_pos hst, blks_bnd fun i hi _ => h3 i hi, blk_succ, if_pos h2]
 ·obtain ⟨s', t, e1, e2, e3⟩ := blk_head K (i := s) (x := x) (by omega) (by omega) h1
  have := e3.2 hst
  subst this
  exact ⟨s', t, h1, e1, h2⟩
theorem blks_mem (K : Kin n sk) {y x : Nat} (hy : y ≤ x) (hx : x ≤ n) {B : List Int} (h : B ∈ blks sk y x) : B.length ≤ x ∧ ∃ s t, s < y ∧ B = ((s : Nat) : Int) :: t := by
 unfold blks at h
 rw [List.mem_flatMap] at h
 obtain ⟨i, hi, h⟩ := h
 rw [List.mem_range] at hi
 by_cases c : start sk i = true
 ·rw [if_pos c, List.mem_singleton] at h
  subst h
  refine ⟨blk_len, ?_⟩
  obtain ⟨s', t, e1, e2, e3⟩ := blk_head K (i := i) (x := x) (by omega) (by omega) (by omega)
  exact ⟨s', t, by omega, e1⟩
 ·rw [if_neg c] at h; cases h
def pick (c : Int → Bool) (bs : List (List Int)) : List Int := bs.filterMap fun b => b.find? c
def picks (c : Int → Bool) (bs : List (List Int)) : List Int × Bool := if (bs.all fun b => (b.find? c).isSome) = true then (pick c bs, true) else ([], false)
end Go.Proofs.YtcllfkplpdppiaaGreatH
namespace Go.Proofs.YtcllfkplpdppiaaGreatH
open Go
variable {d : Database}
def skOf (d : Database) (i k : Nat) : Bool := same d.Relations (d.Facts.getD i default) (d.Facts.getD k default)
theorem sk_get {i k : Nat} (hi : i < d.Facts.length) (hk : k < d.Facts.length) : skOf d i k = same d.Relations d.Facts[i] d.Facts[k] := by
 unfold skOf
 rw [List.getD_eq_getElem?_getD, List.getD_eq_getElem?_getD, List.getElem?_eq_getElem hi, List.getElem?_eq_getElem hk]; rfl
theorem vDb_of (h : vDb d = true) : vRels d.Relations = true ∧ d.Facts.length ≤ 14 ∧ gFacts d = true := by
 unfold vDb at h; simp only [Bool.and_eq_true, decide_eq_true_eq] at h; exact h
theorem fact_ok (h : vDb d = true) {i : Nat} (hi : i < d.Facts.length) : vFact d.Relations d.Facts[i] = true := (good_of (vDb_of h).2.2 hi).1
theorem facts_up (h : vDb d = true) {i k : Nat} (hik : i < k) (hk : k < d.Facts.length) : cmpF (d.Facts[i]'(by omega)) d.Facts[k] < 0 := by
 induction k with
 | zero => omega
 | succ k ih =>
  have h1 := (good_of (vDb_of h).2.2 hk).2 (by omega)
  simp only [Nat.add_sub_cancel, decide_eq_true_eq] at h1
  by_cases e : i = k
  ·subst e; exact h1
  ·exact cmpF_trans (ih (by omega) (by omega)) h1
theorem kin (h : vDb d = true) : Kin d.Facts.length (skOf d) where
 refl i hi := by rw [sk_get hi hi]; simp [same]
 symm i k hi hk := by
  rw [sk_get hi hk, sk_get hk hi]; unfold same
  congr 1
  ·exact decide_eq_decide.2 ⟨fun h => h.symm, fun h => h.symm⟩
  ·exact decide_eq_decide.2 ⟨fun h => h.symm, fun h => h.symm⟩
 trans i j k hi hj hk h1 h2 := by
  rw [sk_get hi hj] at h1; rw [sk_get hj hk] at h2; rw [sk_get hi hk]
  unfold same at *
  simp only [Bool.and_eq_true, decide_eq_true_eq] at *
  exact ⟨h1.1.trans h2.1, h1.2.trans h2.2⟩
 conv i j k hij hjk hk hs := by
  by_cases e1 : i = j
  ·subst e1
   rw [sk_get (by omega) (by omega)]; simp [same]
  by_cases e2 : j = k
  ·subst e2; exact hs
  have hi : i < d.Facts.length := by omega
  have hj : j < d.Facts.length := by omega
  have c1 := facts_up h (i := i) (k := j) (by omega) hj
  have c2 := facts_up h (i := j) (k := k) (by omega) hk
  rw [sk_get hi hk] at hs; rw [sk_get hi hj]
  have b1 := key_le (vDb_of h).1 (fact_ok h hi)
  have b2 := key_le (vDb_of h).1 (fact_ok h hj)
  have b3 := key_le (vDb_of h).1 (fact_ok h hk)
  generalize d.Facts[i] = a at *
  generalize d.Facts[j] = b at *
  generalize d.Facts[k] = c at *
  obtain ⟨_, _, _, _, b1⟩ := b1
  obtain ⟨_, _, _, _, b2⟩ := b2
  obtain ⟨_, _, _, _, b3⟩ := b3
  unfold same keyOf at *
  simp only [Bool.and_eq_true, decide_eq_true_eq] at *
  obtain ⟨r, hk⟩ := hs
  unfold cmpF at c1 c2
  have r1 : a.Relation = b.Relation := by
   by_cases q1 : a.Relation < b.Relation
   ·rw [if_neg (by omega), if_pos (by omega)] at c2; omega
   ·rw [if_neg q1] at c1
    by_cases q2 : a.Relation > b.Relation
    ·rw [if_pos q2] at c1; omega
    ·omega
  rw [if_neg (by omega), if_neg (by omega)] at c1 c2
  rw [← r] at hk b3; rw [← r1] at b2
  refine ⟨r1, ?_⟩
  rw [← r1]
  exact cmpL_conv c1 c2 (by omega) (by omega) (by omega) hk
variable (h : vDb d = true) (hf : Fits d)
theorem fits_val {i : Nat} (hf : Fits d) (hi : i < d.Facts.length) : d.Facts[i].Values.length ≤ 1048576 := hf.2.2 _ (List.getElem_mem hi)
include h hf
theorem blockSpec {i : Nat} (hi : i < d.Facts.length) : f198 d i = some (blk (skOf d) i d.Facts.length) := by
 have hn := (vDb_of h).2.1
 unfold f198
 rw [iter_flat (List.range d.Facts.length) (fun k => if skOf d i k = true then [((k : Nat) : Int)] else []) id (fun k hk => by
  simp only [List.length_range] at hk
  have el : (((List.range d.Facts.length).take k).flatMap fun k => if skOf d i k = true then [((k : Nat) : Int)] else []).length ≤ k := by
   have := take_flat_le (l := List.range d.Facts.length) (i := k) (g := fun k => if skOf d i k = true then [((k : Nat) : Int)] else []) (m := 1) (fun a => by split <;> simp)
   omega
  generalize ((List.range d.Facts.length).take k).flatMap (fun k => if skOf d i k = true then [((k : Nat) : Int)] else []) = out at el ⊢
  simp only [List.getElem_range]
  simp only [f198_0]
  have eb : btw (i : Int) 0 (w64 ((d.Facts.length : Int) - 1)) = true := by rw [w64_of (by omega)]; unfold btw; simp; omega
  rw [if_pos (by omega), specDb (fits_room hf), h]
  simp only [Option.bind_some, if_true, specIn, eb]
  rw [ix_nat hi, ix_nat hk, w64_succ (by omega)]
  simp only [Option.bind_some, specSame (fits_room hf).1 (fits_val hf hi) (fits_val hf hk) (vDb_of h).1 (fact_ok h hi) (fact_ok h hk)]
  rw [← sk_get hi hk]
  cases skOf d i k
  ·simp
  ·simp only [if_true]
   rw [app_fits (by simp; omega)]; simp) (by
  simp only [f198_0]
  rw [if_neg (by simp)]; rfl)]
 rfl
theorem blocksSpec : f141 d = some (blks (skOf d) d.Facts.length d.Facts.length) := by
 have hn := (vDb_of h).2.1
 unfold f141
 rw [iter_flat (List.range d.Facts.length) (fun i => if start (skOf d) i = true then [blk (skOf d) i d.Facts.length] else []) id (fun i hi => by
  simp only [List.length_range] at hi
  have el : (((List.range d.Facts.length).take i).flatMap fun i => if start (skOf d) i = true then [blk (skOf d) i d.Facts.length] else []).length ≤ i := by
   have := take_flat_le (l := List.range d.Facts.length) (i := i) (g := fun i => if start (skOf d) i = true then [blk (skOf d) i d.Facts.length] else []) (m := 1) (fun a => by split <;> simp)
   omega
  generalize ((List.range d.Facts.length).take i).flatMap (fun i => if start (skOf d) i = true then [blk (skOf d) i d.Facts.length] else []) = out at el ⊢
  simp only [List.getElem_range]
  simp only [f141_0]
  obtain ⟨s, t, e1, e2, e3⟩ := blk_head (kin h) hi (Nat.le_refl _) hi
  have e0 : ix (blk (skOf d) i d.Facts.length) 0 = some ((s : Nat) : Int) := by rw [e1]; rfl
  rw [if_pos (by omega), specDb (fits_room hf), h]
  simp only [Option.bind_some, if_true, blockSpec h hf hi, e0]
  rw [w64_succ (by omega)]
  by_cases c : start (skOf d) i = true
  ·rw [if_pos (by have := e3.2 c; omega), if_pos c, app_fits (by simp; omega)]; rfl
  ·rw [if_neg (by intro q; exact c (e3.1 (by omega))), if_neg c]; simp) (by
  simp only [f141_0]
  rw [if_neg (by simp)]; rfl)]
 rfl
theorem blocksImp : f83 d = some (blks (skOf d) d.Facts.length d.Facts.length) := by
 have hn := (vDb_of h).2.1
 unfold f83
 have := iter_steps (f := f83_0 d) (fun i => (blks (skOf d) i i, (i : Int))) d.Facts.length (blks (skOf d) d.Facts.length d.Facts.length) (fun x hx => by
  have hl := blks_len (sk := skOf d) (y := x) (x := x)
  simp only [f83_0]
  rw [if_pos (by omega), ix_nat hx, Option.bind_some, w64_succ (by omega), w64_of (by omega)]
  cases hs : start (skOf d) x
  ·obtain ⟨P, B, e1, e2, e3, s, t, h1, e4, h2⟩ := blks_more (kin h) hx hs
   rw [e1] at hl ⊢
   rw [e2]
   simp only [List.length_append, List.length_singleton] at hl ⊢
   have q : ((P.length + 1 : Nat) : Int) - 1 = ((P.length : Nat) : Int) := by omega
   rw [q, if_pos (by omega), ix_nat (by simp)]
   have e0 : ix B 0 = some ((s : Nat) : Int) := by rw [e4]; rfl
   simp only [List.getElem_concat_length, Option.bind_some, e0]
   rw [ix_nat (by omega : s < d.Facts.length), Option.bind_some, impSame (fits_val hf _) (fits_val hf hx) (vDb_of h).1 (fact_ok h _) (fact_ok h hx)]
   rw [← sk_get (by omega : s < d.Facts.length) hx, h2]
   simp only [Option.bind_some, if_true]
   rw [app_fits (by simp; omega)]
   simp
  ·rw [blks_start (kin h) hx hs]
   by_cases c : blks (skOf d) x x = []
   ·rw [c]
    simp only [List.length_nil]
    rw [if_neg (by omega)]
    simp only [Option.bind_some, Bool.false_eq_true, if_false]
    rw [app_fits (by simp)]; simp
   ·obtain ⟨P, B, e1⟩ : ∃ P B, blks (skOf d) x x = P ++ [B] := ⟨_, _, (List.dropLast_concat_getLast c).symm⟩
    obtain ⟨_, s, t, h1, e4⟩ := blks_mem (kin h) (y := x) (x := x) (Nat.le_refl _) (by omega) (B := B) (by rw [e1]; simp)
    rw [e1] at hl ⊢
    simp only [List.length_append, List.length_singleton] at hl ⊢
    have q : ((P.length + 1 : Nat) : Int) - 1 = ((P.length : Nat) : Int) := by omega
    rw [q, if_pos (by omega), ix_nat (by simp)]
    have e0 : ix B 0 = some ((s : Nat) : Int) := by rw [e4]; rfl
    simp only [List.getElem_concat_length, Option.bind_some, e0]
    rw [ix_nat (by omega : s < d.Facts.length), Option.bind_some, impSame (fits_val hf _) (fits_val hf hx) (vDb_of h).1 (fact_ok h _) (fact_ok h hx)]
    rw [← sk_get (by omega : s < d.Facts.length) hx, start_iff.1 hs s h1]
    simp only [Option.bind_some, Bool.false_eq_true, if_false]
    rw [app_fits (by simp; omega)]; simp) (by
  simp only [f83_0]
  rw [if_neg (by omega)])
 erw [this]
 rfl
omit h hf
end Go.Proofs.YtcllfkplpdppiaaGreatH
namespace Go.Proofs.YtcllfkplpdppiaaGreatH
open Go
variable {d : Database} {n : Nat} {sk : Nat → Nat → Bool}
def fat (d : Database) (v : Int) : Fact := d.Facts.getD v.toNat default
theorem fat_get {i : Nat} (hi : i < d.Facts.length) : fat d (i : Int) = d.Facts[i] := by
 unfold fat
 rw [Int.toNat_natCast, List.getD_eq_getElem?_getD, List.getElem?_eq_getElem hi]; rfl
theorem fat_mem {v : Int} (h : 0 ≤ v ∧ v < d.Facts.length) : fat d v ∈ d.Facts := by
 have : v = ((v.toNat : Nat) : Int) := by omega
 rw [this, fat_get (by omega)]; exact List.getElem_mem _
def apart (d : Database) (s : List Int) : Prop := s.Pairwise fun a b => same d.Relations (fat d a) (fat d b) = false
instance {s : List Int} : Decidable (apart d s) := by unfold apart; infer_instance
end Go.Proofs.YtcllfkplpdppiaaGreatH
namespace Go.Proofs.YtcllfkplpdppiaaGreatH
open Go
theorem flat_take {L : List (List Int)} {i : Nat} : (L.take i).flatten.length ≤ L.flatten.length := by
 conv => rhs; rw [← List.take_append_drop i L, List.flatten_append, List.length_append]
 omega
theorem concatN {L : List (List Int)} (hL : L.length ≤ 1048576) (h : L.flatten.length ≤ 1048576) : f169 L = some L.flatten := by
 unfold f169
 have q : ∀ i (hi : i < L.length), (L.take (i + 1)).flatten = (L.take i).flatten ++ L[i] := fun i hi => by rw [take_succ' hi, List.flatten_append]; simp
 have h1 := iter_steps (f := f169_0 L) (fun i => (((L.take i).flatten.length : Int), (i : Int))) L.length (L.flatten.length : Int) (fun i hi => by
  have e := congrArg List.length (q i hi)
  rw [List.length_append] at e
  have b := flat_take (L := L) (i := i + 1)
  simp only [f169_0]
  rw [if_pos (by omega), ix_nat hi, Option.bind_some, w64_succ (by omega), w64_of (by omega), if_neg (by omega), Option.bind_some, e]
  rw [Int.natCast_add (List.take i L).flatten.length]) (by
  simp only [f169_0]
  rw [if_neg (by omega), List.take_of_length_le (Nat.le_refl _)])
 simp only [List.take_zero, List.flatten_nil, List.length_nil, Int.natCast_zero, Int.ofNat_zero] at h1
 erw [h1]
 rw [Option.bind_some]
 unfold f217 growN
 rw [if_pos ⟨by omega, by unfold room; omega⟩, Option.bind_some]
 have h2 := iter_steps (f := f169_1 L) (fun i => (L.flatten.length - (L.take i).flatten.length, (L.take i).flatten, (i : Int))) L.length (0, L.flatten) (fun i hi => by
  have e := congrArg List.length (q i hi)
  rw [List.length_append] at e
  have b := flat_take (L := L) (i := i + 1)
  simp only [f169_1]
  rw [if_pos (by omega), ix_nat hi, Option.bind_some, w64_succ (by omega)]
  unfold apps
  rw [if_pos ⟨by omega, by unfold room; omega⟩, Option.bind_some, q i hi]
  simp only [List.length_append]
  rw [Nat.sub_sub]) (by
  simp only [f169_1]
  rw [if_neg (by omega), List.take_of_length_le (Nat.le_refl _), Nat.sub_self])
 simp only [List.take_zero, List.flatten_nil, List.length_nil, Nat.sub_zero, Int.natCast_zero, Int.ofNat_zero] at h2
 rw [Int.toNat_natCast]
 erw [h2]
 simp [nsk]
set_option maxRecDepth 10000 in
theorem bitsLen {n : Int} (h0 : 0 ≤ n) (h : n < 256) : Ens (f197 (IntKind.u64.wrap n)) fun _ => True := by
 have e : IntKind.u64.wrap n = n := by
  have : IntKind.u64.wrap n = n % 18446744073709551616 := by simp [IntKind.wrap, IntKind.bits, IntKind.signed]
  omega
 have e8 : w8 n = n := by
  have : w8 n = n % 256 := by simp [w8, IntKind.wrap, IntKind.bits, IntKind.signed]
  omega
 rw [e]
 unfold f197 f240
 rw [if_neg (by omega), Option.bind_some]
 dsimp only
 rw [if_neg (by omega), Option.bind_some]
 dsimp only
 rw [if_neg (by omega), Option.bind_some]
 dsimp only
 rw [e8, ix_of h0, List.getElem?_eq_getElem (by show n.toNat < 256; omega)]
 exact ⟨_, rfl, trivial⟩
def insR : List Int → Int → List Int
 | [], v => [v]
 | a :: r, v => if v < a then a :: insR r v else v :: a :: r
theorem insR_perm : ∀ {r : List Int} {v : Int}, (insR r v).Perm (v :: r)
 | [], v => by simp [insR]
 | a :: r, v => by
  rw [insR]
  split
  ·exact ((insR_perm (r := r) (v := v)).cons a).trans (List.Perm.swap v a r)
  ·exact List.Perm.refl _
theorem insR_down : ∀ {r : List Int} {v : Int}, r.Pairwise (fun a b => b ≤ a) → (insR r v).Pairwise (fun a b => b ≤ a)
 | [], v, h => by simp [insR]
 | a :: r, v, h => by
  rw [insR]
  rw [List.pairwise_cons] at h
  split
  ·refine List.pairwise_cons.2 ⟨fun b hb => ?_, insR_down h.2⟩
   rcases List.mem_cons.1 (insR_perm.mem_iff.1 hb) with rfl | hb
   ·omega
   ·exact h.1 b hb
  ·refine List.pairwise_cons.2 ⟨fun b hb => ?_, List.pairwise_cons.2 h⟩
   rcases List.mem_cons.1 hb with rfl | hb
   ·omega
   ·have := h.1 b hb; omega
theorem cmpLess {x y : Int} : f236 x y = some (decide (x < y)) := by
 unfold f236 f262; simp
theorem insLoop : ∀ (r : List Int) (v : Int) (T : List Int), r.length + T.length ≤ 1048576 → iter (f230_1 0) (r.reverse ++ v :: T, (r.length : Int)) = some ((insR r v).reverse ++ T)
 | [], v, T, hl => by
  rw [iter_eq]
  simp [f230_1, insR]
 | a :: r, v, T, hl => by
  simp only [List.length_cons] at hl
  rw [iter_eq]
  simp only [f230_1]
  have e1 : ((a :: r).reverse ++ v :: T) = r.reverse ++ a :: v :: T := by simp
  have e2 : w64 (((a :: r).length : Int) - 1) = (r.length : Int) := by rw [w64_of (by simp; omega)]; simp
  have e3 : ((a :: r).length : Int) = ((r.length + 1 : Nat) : Int) := rfl
  rw [e1, e2, e3, if_pos (by omega)]
  have i1 : ix (r.reverse ++ a :: v :: T) ((r.length + 1 : Nat) : Int) = some v := by
   rw [ix_cast, List.getElem?_append_right (by simp)]; simp
  have i2 : ix (r.reverse ++ a :: v :: T) ((r.length : Nat) : Int) = some a := by
   rw [ix_cast, List.getElem?_append_right (by simp)]; simp
  have s1 : (r.reverse ++ a :: v :: T).set (r.length + 1) a = r.reverse ++ a :: a :: T := by
   rw [List.set_append_right _ _ (by simp)]; simp
  have i3 : ix (r.reverse ++ a :: a :: T) ((r.length : Nat) : Int) = some a := by
   rw [ix_cast, List.getElem?_append_right (by simp)]; simp
  have s2 : (r.reverse ++ a :: a :: T).set r.length v = r.reverse ++ v :: a :: T := by
   rw [List.set_append_right _ _ (by simp)]; simp
  rw [i1, Option.bind_some, i2, Option.bind_some, cmpLess]
  simp only [Option.bind_some]
  rw [insR]
  by_cases c : v < a
  ·simp only [c, decide_true, if_true, Int.toNat_natCast, Option.bind_some]
   rw [s1, i3]
   simp only [Option.bind_some, s2]
   rw [insLoop r v (a :: T) (by simp; omega)]
   simp
  ·simp [c]
theorem insSort {x : List Int} (h : x.length ≤ 1048575) : Ens (f230 x 0 (x.length : Int)) fun r => r.Pairwise (· ≤ ·) ∧ r.Perm x := by
 unfold f230
 refine Ens.bind (Q := fun r => r.Pairwise (· ≤ ·) ∧ r.Perm x) ?_ fun a ha => Ens.of ha
 rw [w64_of (by omega)]
 cases x with
 | nil =>
  refine ⟨[], ?_, by simp, by simp⟩
  rw [iter_eq]; simp [f230_0]
 | cons y x =>
  simp only [List.length_cons] at h
  refine iter_up (f := f230_0 0 ((y :: x).length : Int)) x.length (fun k s => s.2 = ((k + 1 : Nat) : Int) ∧ ∃ r, s.1 = r.reverse ++ x.drop k ∧ r.length = k + 1 ∧ r.Pairwise (fun a b => b ≤ a) ∧ r.Perm (y :: x.take k)) _ (fun k s hk hI => ?_) (fun s hI => ?_) _ ⟨rfl, [y], by simp, by simp, by simp, by simp⟩
  ·obtain ⟨d, j⟩ := s
   obtain ⟨e1, r, e2, e3, e4, e5⟩ := hI
   dsimp only at e1 e2
   subst e1; subst e2
   simp only [f230_0]
   have e : r.reverse ++ x.drop k = r.reverse ++ x[k] :: x.drop (k + 1) := by rw [List.drop_eq_getElem_cons hk]
   rw [if_pos (by simp only [List.length_cons]; omega), e, ← e3, insLoop r x[k] _ (by simp; omega), Option.bind_some, w64_succ (by omega)]
   refine ⟨_, rfl, by simp only [e3], insR r x[k], rfl, by rw [insR_perm.length_eq]; simp [e3], insR_down e4, ?_⟩
   rw [e3, take_succ' hk]
   refine insR_perm.trans ((e5.cons _).trans ?_)
   have : (x[k] :: (y :: x.take k)).Perm ((y :: x.take k) ++ [x[k]]) := (List.perm_append_singleton _ _).symm
   simpa using this
  ·obtain ⟨d, j⟩ := s
   obtain ⟨e1, r, e2, e3, e4, e5⟩ := hI
   dsimp only at e1 e2
   subst e1; subst e2
   simp only [f230_0]
   rw [if_neg (by simp only [List.length_cons]; omega)]
   refine ⟨_, rfl, ?_, ?_⟩
   ·rw [List.drop_of_length_le (Nat.le_refl _), List.append_nil, List.pairwise_reverse]; exact e4
   ·rw [List.drop_of_length_le (Nat.le_refl _), List.append_nil]
    rw [List.take_of_length_le (Nat.le_refl _)] at e5
    exact (List.reverse_perm r).trans e5
theorem sort12 {x : List Int} (h : x.length ≤ 12) : Ens (f140 x) fun r => r.Pairwise (· ≤ ·) ∧ r.Perm x := by
 unfold f140
 obtain ⟨k, hk, _⟩ := bitsLen (n := (x.length : Int)) (by omega) (by omega)
 rw [hk, Option.bind_some]
 refine Ens.bind (Q := fun r => r.Pairwise (· ≤ ·) ∧ r.Perm x) ?_ fun a ha => Ens.of ha
 rw [show (64 : Nat) = 63 + 1 from rfl, f196]
 refine Ens.bind (Q := fun r => r.Pairwise (· ≤ ·) ∧ r.Perm x) ?_ fun a ha => Ens.of ha
 rw [iter_eq]
 simp only [f196_0]
 obtain ⟨r, hr, hq⟩ := insSort (x := x) (by omega)
 rw [w64_of (by omega), if_pos (by omega), hr]
 exact ⟨r, rfl, hq⟩
theorem compact_up : ∀ {l : List Int}, l.Pairwise (· ≤ ·) → (compactL l).Pairwise (· < ·) ∧ ∀ y, y ∈ compactL l ↔ y ∈ l
 | [], h => by simp [compactL]
 | [a], h => by simp [compactL]
 | a :: b :: r, h => by
  rw [List.pairwise_cons] at h
  obtain ⟨i1, i2⟩ := compact_up h.2
  rw [compactL]
  split
  ·rename_i e
   subst e
   exact ⟨i1, fun y => by rw [i2]; simp⟩
  ·rename_i e
   refine ⟨List.pairwise_cons.2 ⟨fun y hy => ?_, i1⟩, fun y => by simp [i2]⟩
   rw [i2] at hy
   have h1 := h.1 b (by simp)
   rcases List.mem_cons.1 hy with rfl | hy
   ·omega
   ·have := (List.pairwise_cons.1 h.2).1 y hy; omega
theorem union12 {a b : List Int} (h : a.length + b.length ≤ 12) : Ens (f104 a b) fun r => r.Pairwise (· < ·) ∧ (∀ y, y ∈ r ↔ y ∈ a ∨ y ∈ b) ∧ r.length ≤ 12 := by
 unfold f104
 have e : [a, b].flatten = a ++ b := by simp
 rw [concatN (by simp) (by rw [e]; simp; omega), e, Option.bind_some]
 refine Ens.bind (sort12 (by simp; omega)) fun r hr => ?_
 have hl := hr.2.length_eq
 simp only [List.length_append] at hl
 unfold f170 compactN
 rw [if_pos (by omega)]
 obtain ⟨c1, c2⟩ := compact_up hr.1
 exact Ens.of ⟨c1, fun y => by rw [c2, hr.2.mem_iff, List.mem_append], by have := compactL_len r; omega⟩
theorem up_ext : ∀ {a b : List Int}, a.Pairwise (· < ·) → b.Pairwise (· < ·) → (∀ y, y ∈ a ↔ y ∈ b) → a = b
 | [], [], _, _, _ => rfl
 | [], y :: b, _, _, h => by have := (h y).2 (by simp); cases this
 | x :: a, [], _, _, h => by have := (h x).1 (by simp); cases this
 | x :: a, y :: b, ha, hb, h => by
  rw [List.pairwise_cons] at ha hb
  have e : x = y := by
   have h1 := (h x).1 (by simp)
   have h2 := (h y).2 (by simp)
   rcases List.mem_cons.1 h1 with e | h1
   ·exact e
   ·rcases List.mem_cons.1 h2 with e | h2
    ·exact e.symm
    ·have := ha.1 y h2; have := hb.1 x h1; omega
  subst e
  congr 1
  refine up_ext ha.2 hb.2 fun y => ?_
  have := h y
  constructor
  ·intro hy
   have q := ha.1 y hy
   rcases List.mem_cons.1 (this.1 (List.mem_cons.2 (.inr hy))) with e | e
   ·omega
   ·exact e
  ·intro hy
   have q := hb.1 y hy
   rcases List.mem_cons.1 (this.2 (List.mem_cons.2 (.inr hy))) with e | e
   ·omega
   ·exact e
end Go.Proofs.YtcllfkplpdppiaaGreatH
namespace Go.Proofs.YtcllfkplpdppiaaGreatH
open Go
def avars (t : List Int) : List Int := (List.range 4).flatMap fun v => if t.contains ((v : Nat) : Int) = true then [((v : Nat) : Int)] else []
theorem avars_up {t : List Int} : (avars t).Pairwise (· < ·) := by
 unfold avars
 simp only [List.range, List.range.loop, List.flatMap_cons, List.flatMap_nil, List.append_nil]
 generalize t.contains ((0 : Nat) : Int) = a
 generalize t.contains ((1 : Nat) : Int) = b
 generalize t.contains ((2 : Nat) : Int) = c
 generalize t.contains ((3 : Nat) : Int) = d
 cases a <;> cases b <;> cases c <;> cases d <;> simp
theorem avars_mem {t : List Int} {y : Int} : y ∈ avars t ↔ y ∈ t ∧ btw y 0 3 = true := by
 unfold avars btw
 simp only [List.mem_flatMap, List.mem_range, Bool.and_eq_true, decide_eq_true_eq]
 constructor
 ·rintro ⟨v, hv, h⟩
  by_cases c : t.contains ((v : Nat) : Int) = true
  ·rw [if_pos c, List.mem_singleton] at h
   subst h
   exact ⟨by simpa using c, by omega, by omega⟩
  ·rw [if_neg c] at h; cases h
 ·rintro ⟨h, h1, h2⟩
  refine ⟨y.toNat, by omega, ?_⟩
  rw [Int.toNat_of_nonneg h1, if_pos (by simpa using h)]
  simp
theorem avars_len {t : List Int} : (avars t).length ≤ 4 := by
 unfold avars
 simp only [List.range, List.range.loop, List.flatMap_cons, List.flatMap_nil, List.append_nil, List.length_append]
 split <;> split <;> split <;> split <;> simp
theorem specVars {a : Atom} (h : Big a.Terms.length) : f120 a = some (avars a.Terms) := by
 unfold f120
 rw [iter_flat (List.range 4) (fun v => if a.Terms.contains ((v : Nat) : Int) = true then [((v : Nat) : Int)] else []) id (fun k hk => by
  simp only [List.length_range] at hk
  have el : (((List.range 4).take k).flatMap fun v => if a.Terms.contains ((v : Nat) : Int) = true then [((v : Nat) : Int)] else []).length ≤ k := by
   have := take_flat_le (l := List.range 4) (i := k) (g := fun v => if a.Terms.contains ((v : Nat) : Int) = true then [((v : Nat) : Int)] else []) (m := 1) (fun a => by split <;> simp)
   omega
  generalize ((List.range 4).take k).flatMap (fun v => if a.Terms.contains ((v : Nat) : Int) = true then [((v : Nat) : Int)] else []) = out at el ⊢
  simp only [List.getElem_range]
  simp only [f120_0]
  rw [if_pos (by omega), hasI h, Option.bind_some, w64_succ (by omega)]
  by_cases c : a.Terms.contains ((k : Nat) : Int) = true
  ·rw [if_pos c, if_pos c, app_fits (by simp; omega)]; rfl
  ·rw [if_neg c, if_neg c]; simp) (by
  simp only [f120_0]
  rw [if_neg (by simp)]; rfl)]
 rfl
theorem impVars {a : Atom} (h : a.Terms.length ≤ 12) : f102 a = some (avars a.Terms) := by
 unfold f102
 rw [iter_flat a.Terms (fun v => if btw v 0 3 = true then [v] else []) id (fun k hk => by
  have el : ((a.Terms.take k).flatMap fun v => if btw v 0 3 = true then [v] else []).length ≤ k := by
   have := take_flat_le (l := a.Terms) (i := k) (g := fun v => if btw v 0 3 = true then [v] else []) (m := 1) (fun a => by split <;> simp)
   omega
  generalize (a.Terms.take k).flatMap (fun v => if btw v 0 3 = true then [v] else []) = out at el ⊢
  simp only [f102_0]
  rw [if_pos (by omega), ix_nat hk, Option.bind_some, impIn, Option.bind_some, w64_succ (by omega)]
  by_cases c : btw a.Terms[k] 0 3 = true
  ·rw [if_pos c, if_pos c, app_fits (by simp; omega)]; rfl
  ·rw [if_neg c, if_neg c]; simp) (by
  simp only [f102_0]
  rw [if_neg (by omega)]; rfl)]
 rw [Option.bind_some]
 dsimp only [id]
 have el : (a.Terms.flatMap fun v => if btw v 0 3 = true then [v] else []).length ≤ a.Terms.length := by
  have := take_flat_le (l := a.Terms) (i := a.Terms.length) (g := fun v => if btw v 0 3 = true then [v] else []) (m := 1) (fun a => by split <;> simp)
  rw [List.take_of_length_le (Nat.le_refl _)] at this
  omega
 obtain ⟨r, h1, h2, h3, _⟩ := union12 (a := a.Terms.flatMap fun v => if btw v 0 3 = true then [v] else []) (b := []) (by rw [List.length_nil]; omega)
 rw [h1, Option.bind_some]
 congr 1
 refine up_ext h2 avars_up fun y => ?_
 rw [h3, avars_mem, List.mem_flatMap]
 constructor
 ·rintro (⟨v, hv, h⟩ | h)
  ·by_cases c : btw v 0 3 = true
   ·rw [if_pos c, List.mem_singleton] at h; subst h; exact ⟨hv, c⟩
   ·rw [if_neg c] at h; cases h
  ·cases h
 ·rintro ⟨h, c⟩
  exact .inl ⟨y, h, by rw [if_pos c]; simp⟩
def kvars (l : List Relation) (a : Atom) : List Int := if (btw a.Relation 0 (l.length - 1) && btw (keyLen l a.Relation) 0 a.Terms.length) = true then avars (a.Terms.take (keyLen l a.Relation).toNat) else []
theorem kvars_len {l : List Relation} {a : Atom} : (kvars l a).length ≤ 4 := by
 unfold kvars; split
 ·exact avars_len
 ·simp
theorem specKV {l : List Relation} {a : Atom} (hl : Big l.length) (h : Big a.Terms.length) : f96 l a = some (kvars l a) := by
 unfold f96 kvars
 rw [w64_of (by omega), specIn, Option.bind_some]
 cases hb : btw a.Relation 0 (l.length - 1)
 ·simp
 ·obtain ⟨x, h1, _, _, h2⟩ := ix_rel hb
  rw [h1]
  simp only [not_true_eq_false, if_false, Option.bind_some, specIn, h2]
  cases hk : btw (keyLen l a.Relation) 0 a.Terms.length
  ·simp
  ·unfold btw at hk; simp only [Bool.and_eq_true, decide_eq_true_eq] at hk
   simp only [not_true_eq_false, decide_false, Bool.false_eq_true, if_false, Bool.and_self, if_true]
   rw [cutL_ok (by omega) hk.1 hk.2, Option.bind_some, specVars (by simp; omega)]; rfl
theorem impKV {l : List Relation} {a : Atom} (hl : Big l.length) (h : a.Terms.length ≤ 12) : f101 l a = some (kvars l a) := by
 unfold f101 kvars
 rw [w64_of (by omega), impIn, Option.bind_some]
 cases hb : btw a.Relation 0 (l.length - 1)
 ·simp
 ·obtain ⟨x, h1, _, _, h2⟩ := ix_rel hb
  rw [h1]
  simp only [not_true_eq_false, if_false, Option.bind_some, impIn, h2]
  cases hk : btw (keyLen l a.Relation) 0 a.Terms.length
  ·simp
  ·unfold btw at hk; simp only [Bool.and_eq_true, decide_eq_true_eq] at hk
   simp only [not_true_eq_false, decide_false, Bool.false_eq_true, if_false, Bool.and_self, if_true]
   rw [cutL_ok (by omega) hk.1 hk.2, Option.bind_some, impVars (by simp; omega)]; rfl
theorem has14 {l w : List Int} (hl : Big l.length) (hw : Big w.length) : f152 l w = some (w.all l.contains) := by
 unfold f152
 rw [iter_ex w (fun v => !l.contains v) false (fun i hi => by
  simp only [f152_0]
  rw [if_pos (by omega), ix_nat hi, w64_succ (by omega)]
  simp only [Option.bind_some, hasI hl]
  cases l.contains w[i] <;> simp) (by
  simp only [f152_0]
  rw [if_neg (by omega)])]
 rw [any_not]
 cases w.all l.contains <;> simp
theorem vRels_arity {l : List Relation} {r : Int} (h : vRels l = true) (hb : btw r 0 (l.length - 1) = true) : arity l r ≤ 3 := by
 obtain ⟨x, h1, h2, h3, _⟩ := ix_rel hb
 unfold vRels at h; simp only [Bool.and_eq_true] at h
 obtain ⟨i, hi, rfl⟩ := List.mem_iff_getElem.1 h2
 have := (good_of h.1 hi).1
 unfold vRel btw at this
 simp only [Bool.and_eq_true, decide_eq_true_eq] at this
 omega
end Go.Proofs.YtcllfkplpdppiaaGreatH
namespace Go.Proofs.YtcllfkplpdppiaaGreatH
open Go
def Le4 (X Y : Int → Bool) : Prop := ∀ v, X v = true → Y v = true
theorem Le4.refl {X : Int → Bool} : Le4 X X := fun _ h => h
theorem Le4.trans {X Y Z : Int → Bool} (h : Le4 X Y) (g : Le4 Y Z) : Le4 X Z := fun v hv => g v (h v hv)
end Go.Proofs.YtcllfkplpdppiaaGreatH
namespace Go.Proofs.YtcllfkplpdppiaaGreatH
open Go
section
variable {l : List Relation}
end
end Go.Proofs.YtcllfkplpdppiaaGreatH
namespace Go.Proofs.YtcllfkplpdppiaaGreatH
open Go
def uni : List Int → List Int → List Int → Option (List Int)
 | t :: ts, v :: vs, x => if t < 0 then (if -1 - t = v then uni ts vs x else none) else if x.getD t.toNat 0 < 0 then uni ts vs (x.set t.toNat v) else if x.getD t.toNat 0 = v then uni ts vs x else none
 | _, _, x => some x
theorem uni_len : ∀ {ts vs x y : List Int}, uni ts vs x = some y → y.length = x.length
 | [], _, x, y, h => by simp [uni] at h; rw [h]
 | _ :: _, [], x, y, h => by simp [uni] at h; rw [h]
 | t :: ts, v :: vs, x, y, h => by
  simp only [uni] at h
  split at h
  ·split at h
   ·exact uni_len h
   ·cases h
  ·split at h
   ·rw [uni_len h]; simp
   ·split at h
    ·exact uni_len h
    ·cases h
def step (F : List Fact) (a : Atom) (x : List Int) (i : Nat) : Option (List Int) := match F[i]? with
 | some f => if f.Relation = a.Relation then uni a.Terms f.Values x else none
 | none => none
end Go.Proofs.YtcllfkplpdppiaaGreatH
namespace Go.Proofs.YtcllfkplpdppiaaGreatH
open Go
theorem cloneI {a : List Int} (h : a.length ≤ 1048576) : f135 a = some a := by
 unfold f135
 rw [app_fits (by simp; omega), Option.bind_some, List.nil_append]
theorem uni_nil {ts vs x : List Int} (h : ts = []) : uni ts vs x = some x := by subst h; rfl
theorem set_same {x : List Int} {i : Nat} {v : Int} (h : i < x.length) (e : x[i] = v) : x.set i v = x := by subst e; exact List.set_getElem_self h
def FitT (n : Nat) (ts vs : List Int) : Prop := ts.length = vs.length ∧ ts.length ≤ 1048576 ∧ ∀ t ∈ ts, -10 ≤ t ∧ t < n
theorem impUni {x ts vs : List Int} (hx : x.length ≤ 8) (h : FitT x.length ts vs) : f136 x ts vs = some (match uni ts vs x with | some y => (y, true) | none => ([], false)) := by
 obtain ⟨h1, h2, h3⟩ := h
 unfold f136
 rw [cloneI (by omega), Option.bind_some]
 obtain ⟨o, e, rfl⟩ := iter_up (f := f136_0 ts vs) ts.length (fun i s => ∃ y, s = (y, (i : Int)) ∧ uni (ts.drop i) (vs.drop i) y = uni ts vs x ∧ y.length = x.length)
  (fun o => o = (match uni ts vs x with | some y => .inl y | none => .inr ([], false))) (fun i s hi ⟨y, hs, hu, hl⟩ => by
   subst hs
   have hv : i < vs.length := by omega
   have ht := h3 _ (List.getElem_mem hi)
   rw [List.drop_eq_getElem_cons hi, List.drop_eq_getElem_cons hv, uni] at hu
   simp only [f136_0]
   rw [if_pos (by omega), ix_nat hi, Option.bind_some, w64_succ (by omega)]
   unfold f192 f193
   simp only [Option.bind_some, ix_nat hv]
   by_cases c1 : ts[i] < 0
   ·rw [if_pos c1] at hu
    rw [if_pos (by simpa using c1), w64_of (by omega)]
    by_cases c2 : -1 - ts[i] = vs[i]
    ·rw [if_pos c2] at hu
     rw [if_neg (by simpa using c2)]
     exact ⟨_, rfl, y, rfl, hu, hl⟩
    ·rw [if_neg c2] at hu
     rw [if_pos (by simpa using c2)]
     refine ⟨_, rfl, ?_⟩
     rw [← hu]
   ·rw [if_neg c1] at hu
    have hb : ts[i].toNat < y.length := by omega
    rw [if_neg (by simpa using c1), ix_of (by omega), List.getElem?_eq_getElem hb, Option.bind_some]
    have ed : y.getD ts[i].toNat 0 = y[ts[i].toNat] := by rw [List.getD_eq_getElem?_getD, List.getElem?_eq_getElem hb]; rfl
    rw [ed] at hu
    by_cases c2 : y[ts[i].toNat] < 0
    ·rw [if_pos c2] at hu
     rw [if_pos c2]
     exact ⟨_, rfl, _, rfl, hu, by rw [List.length_set]; exact hl⟩
    ·rw [if_neg c2] at hu
     rw [if_neg c2]
     by_cases c3 : y[ts[i].toNat] = vs[i]
     ·rw [if_pos c3] at hu
      rw [if_neg (by simpa using c3)]
      exact ⟨_, rfl, y, rfl, hu, hl⟩
     ·rw [if_neg c3] at hu
      rw [if_pos (by simpa using c3)]
      refine ⟨_, rfl, ?_⟩
      rw [← hu]) (fun s ⟨y, hs, hu, hl⟩ => by
   subst hs
   simp only [f136_0]
   rw [if_neg (by omega)]
   rw [uni_nil (List.drop_of_length_le (Nat.le_refl _))] at hu
   exact ⟨_, rfl, by rw [← hu]⟩) (x, 0) ⟨x, rfl, by simp, rfl⟩
 rw [e, Option.bind_some]
 cases uni ts vs x <;> rfl
theorem specMeet {x : List Int} {a : Atom} {f : Fact} (hx : x.length ≤ 8) (h : f.Relation = a.Relation → FitT x.length a.Terms f.Values) :
  Ens (f153 a f x) fun r => match (if f.Relation = a.Relation then uni a.Terms f.Values x else none) with | some y => r = (y, true) | none => r.2 = false := by
 unfold f153
 rw [app_fits (by simp; omega), Option.bind_some, List.nil_append]
 by_cases hr : f.Relation = a.Relation
 ·obtain ⟨h1, h2, h3⟩ := h hr
  rw [if_pos hr, if_neg (by simpa using hr), Option.bind_some, if_neg (by simp [h1])]
  refine Ens.bind (Q := fun o => match uni a.Terms f.Values x with | some y => o = .inl y | none => ∃ z, o = .inr (z, false)) ?_ fun o ho => ?_
  ·refine iter_up (f := f153_0 a f) a.Terms.length (fun i s => ∃ y, s = (y, (i : Int)) ∧ uni (a.Terms.drop i) (f.Values.drop i) y = uni a.Terms f.Values x ∧ y.length = x.length) _ (fun i s hi ⟨y, hs, hu, hl⟩ => ?_) (fun s ⟨y, hs, hu, hl⟩ => ?_) (x, 0) ⟨x, rfl, by simp, rfl⟩
   ·subst hs
    have hv : i < f.Values.length := by omega
    have ht := h3 _ (List.getElem_mem hi)
    rw [List.drop_eq_getElem_cons hi, List.drop_eq_getElem_cons hv, uni] at hu
    simp only [f153_0]
    rw [if_pos (by omega), ix_nat hi, Option.bind_some, w64_succ (by omega)]
    simp only [Option.bind_some, ix_nat hv]
    by_cases c1 : a.Terms[i] < 0
    ·rw [if_pos c1] at hu
     rw [if_pos c1, w64_of (by omega)]
     by_cases c2 : -1 - a.Terms[i] = f.Values[i]
     ·rw [if_pos c2] at hu
      rw [if_neg (by simpa using c2)]
      exact ⟨_, rfl, y, rfl, hu, hl⟩
     ·rw [if_neg c2] at hu
      rw [if_pos (by simpa using c2)]
      refine ⟨_, rfl, ?_⟩
      dsimp only
      rw [← hu]; exact ⟨_, rfl⟩
    ·rw [if_neg c1] at hu
     have hb : a.Terms[i].toNat < y.length := by omega
     rw [if_neg c1, ix_of (by omega), List.getElem?_eq_getElem hb, Option.bind_some]
     have ed : y.getD a.Terms[i].toNat 0 = y[a.Terms[i].toNat] := by rw [List.getD_eq_getElem?_getD, List.getElem?_eq_getElem hb]; rfl
     rw [ed] at hu
     by_cases c2 : y[a.Terms[i].toNat] < 0
     ·rw [if_pos c2] at hu
      rw [if_neg (by omega), Option.bind_some, if_neg (by simp)]
      exact ⟨_, rfl, _, rfl, hu, by rw [List.length_set]; exact hl⟩
     ·rw [if_neg c2] at hu
      rw [if_pos (by omega), Option.bind_some]
      by_cases c3 : y[a.Terms[i].toNat] = f.Values[i]
      ·rw [if_pos c3] at hu
       rw [if_neg (by simpa using c3)]
       exact ⟨_, rfl, _, rfl, by rw [set_same hb c3]; exact hu, by rw [List.length_set]; exact hl⟩
      ·rw [if_neg c3] at hu
       rw [if_pos (by simpa using c3)]
       refine ⟨_, rfl, ?_⟩
       dsimp only
       rw [← hu]; exact ⟨_, rfl⟩
   ·subst hs
    simp only [f153_0]
    rw [if_neg (by omega)]
    rw [uni_nil (List.drop_of_length_le (Nat.le_refl _))] at hu
    exact ⟨_, rfl, by rw [← hu]⟩
  ·revert ho
   cases uni a.Terms f.Values x with
   | some y => intro ho; dsimp only at ho; subst ho; exact Ens.of rfl
   | none => rintro ⟨z, rfl⟩; exact Ens.of rfl
 ·rw [if_neg hr, if_pos (by simpa using hr), Option.bind_some, if_pos rfl]
  exact Ens.of rfl
theorem noneOk {n : Int} (h0 : 0 ≤ n) (h4 : n ≤ 4) : f75 n = some (List.replicate n.toNat (-1)) := by
 unfold f75
 have := iter_steps (f := f75_0 n) (fun i => List.replicate i (-1)) n.toNat (List.replicate n.toNat (-1)) (fun i hi => by
  simp only [f75_0]
  rw [if_pos (by simp; omega), app_fits (by simp; omega), Option.bind_some, List.replicate_succ']) (by
  simp only [f75_0]
  rw [if_neg (by simp; omega)])
 simp only [List.replicate_zero] at this
 rw [this]; rfl
theorem unknownOk {n : Int} (h0 : 0 ≤ n) (h4 : n ≤ 4) : f81 n = some (List.replicate n.toNat (-1)) := by
 have : n = 0 ∨ n = 1 ∨ n = 2 ∨ n = 3 ∨ n = 4 := by omega
 unfold f81 f161
 rcases this with rfl | rfl | rfl | rfl | rfl
 ·have e : f213 (IntKind.u64.wrap (([-1] : List Int).length : Int)) (IntKind.u64.wrap 0) = some (0, 0) := by decide
  rw [e]
  rw [if_neg (by decide), Option.bind_some, Option.bind_some, if_neg (by decide), Option.bind_some, if_neg (by decide), Option.bind_some, w64_of (by decide), mkl_ok (by decide) (by decide) (by decide), Option.bind_some]
  exact (congrArg (fun o => (Option.bind o fun o => some o).bind fun o => some o) (iter_of (f := f161_0) (n := 5) (s := ([], 0)) (r := []) (by decide)))
 ·have e : f213 (IntKind.u64.wrap (([-1] : List Int).length : Int)) (IntKind.u64.wrap 1) = some (0, 1) := by decide
  rw [e]
  rw [if_neg (by decide), Option.bind_some, Option.bind_some, if_neg (by decide), Option.bind_some, if_neg (by decide), Option.bind_some, w64_of (by decide), mkl_ok (by decide) (by decide) (by decide), Option.bind_some]
  exact (congrArg (fun o => (Option.bind o fun o => some o).bind fun o => some o) (iter_of (f := f161_0) (n := 5) (s := ([-1], 1)) (r := [-1]) (by decide)))
 ·have e : f213 (IntKind.u64.wrap (([-1] : List Int).length : Int)) (IntKind.u64.wrap 2) = some (0, 2) := by decide
  rw [e]
  rw [if_neg (by decide), Option.bind_some, Option.bind_some, if_neg (by decide), Option.bind_some, if_neg (by decide), Option.bind_some, w64_of (by decide), mkl_ok (by decide) (by decide) (by decide), Option.bind_some]
  exact (congrArg (fun o => (Option.bind o fun o => some o).bind fun o => some o) (iter_of (f := f161_0) (n := 5) (s := ([-1, 0], 1)) (r := [-1, -1]) (by decide)))
 ·have e : f213 (IntKind.u64.wrap (([-1] : List Int).length : Int)) (IntKind.u64.wrap 3) = some (0, 3) := by decide
  rw [e]
  rw [if_neg (by decide), Option.bind_some, Option.bind_some, if_neg (by decide), Option.bind_some, if_neg (by decide), Option.bind_some, w64_of (by decide), mkl_ok (by decide) (by decide) (by decide), Option.bind_some]
  exact (congrArg (fun o => (Option.bind o fun o => some o).bind fun o => some o) (iter_of (f := f161_0) (n := 5) (s := ([-1, 0, 0], 1)) (r := [-1, -1, -1]) (by decide)))
 ·have e : f213 (IntKind.u64.wrap (([-1] : List Int).length : Int)) (IntKind.u64.wrap 4) = some (0, 4) := by decide
  rw [e]
  rw [if_neg (by decide), Option.bind_some, Option.bind_some, if_neg (by decide), Option.bind_some, if_neg (by decide), Option.bind_some, w64_of (by decide), mkl_ok (by decide) (by decide) (by decide), Option.bind_some]
  exact (congrArg (fun o => (Option.bind o fun o => some o).bind fun o => some o) (iter_of (f := f161_0) (n := 5) (s := ([-1, 0, 0, 0], 1)) (r := [-1, -1, -1, -1]) (by decide)))
end Go.Proofs.YtcllfkplpdppiaaGreatH
namespace Go.Proofs.YtcllfkplpdppiaaGreatH
open Go
end Go.Proofs.YtcllfkplpdppiaaGreatH
namespace Go.Proofs.YtcllfkplpdppiaaGreatH
open Go
variable {d : Database}
end Go.Proofs.YtcllfkplpdppiaaGreatH
namespace Go.Proofs.YtcllfkplpdppiaaGreatH
open Go
variable {d : Database}
end Go.Proofs.YtcllfkplpdppiaaGreatH
namespace Go.Proofs.YtcllfkplpdppiaaGreatH
open Go
variable {n : Nat} {sk : Nat → Nat → Bool}
theorem blk_mem {i x : Nat} {j : Int} : j ∈ blk sk i x ↔ ∃ k : Nat, k < x ∧ j = k ∧ sk i k = true := by
 unfold blk
 rw [List.mem_flatMap]
 constructor
 ·rintro ⟨k, hk, h⟩
  split at h
  ·rename_i c
   exact ⟨k, List.mem_range.1 hk, by simpa using h, c⟩
  ·cases h
 ·rintro ⟨k, h1, h2, h3⟩
  exact ⟨k, List.mem_range.2 h1, by rw [if_pos h3]; simp [h2]⟩
theorem mem_blks {y x : Nat} {B : List Int} : B ∈ blks sk y x ↔ ∃ s, s < y ∧ start sk s = true ∧ B = blk sk s x := by
 unfold blks
 rw [List.mem_flatMap]
 constructor
 ·rintro ⟨k, hk, h⟩
  split at h
  ·rename_i c
   exact ⟨k, List.mem_range.1 hk, c, by simpa using h⟩
  ·cases h
 ·rintro ⟨k, h1, h2, h3⟩
  exact ⟨k, List.mem_range.2 h1, by rw [if_pos h2]; simp [h3]⟩
end Go.Proofs.YtcllfkplpdppiaaGreatH
namespace Go.Proofs.YtcllfkplpdppiaaGreatH
open Go
theorem szAtom {a : Atom} {n : Int} (h : ok a) (h0 : 0 ≤ n) (h1 : n ≤ 1048576) : f149 a n = some (lft n a.Terms.length) := by
 unfold f149
 rw [szI h.2.1 h0 h1, Option.bind_some]
 split
 ·rename_i hlt; rw [lft_bad hlt]
 ·rfl
end Go.Proofs.YtcllfkplpdppiaaGreatH
namespace Go.Proofs.YtcllfkplpdppiaaGreatH
open Go
variable {d : Database}
def nums (l : List Int) : Prop := l.length ≤ 1048576 ∧ ∀ v ∈ l, 0 ≤ v ∧ v ≤ 1048576
theorem blks_nums {B : List Int} (h14 : d.Facts.length ≤ 14) (h : B ∈ blks (skOf d) d.Facts.length d.Facts.length) : nums B ∧ B.length ≤ 14 := by
 obtain ⟨s, _, _, rfl⟩ := mem_blks.1 h
 have hl := blk_len (sk := skOf d) (i := s) (x := d.Facts.length)
 refine ⟨⟨by omega, fun v hv => ?_⟩, by omega⟩
 obtain ⟨k, k1, rfl, _⟩ := blk_mem.1 hv
 omega
def bks (d : Database) : List (List Int) := blks (skOf d) d.Facts.length d.Facts.length
theorem bks_few (h : d.Facts.length ≤ 14) : (bks d).length ≤ 14 ∧ ∀ x ∈ bks d, x.length ≤ 14 := by
 have := blks_len (sk := skOf d) (y := d.Facts.length) (x := d.Facts.length)
 exact ⟨by unfold bks; omega, fun x hx => (blks_nums h hx).2⟩
end Go.Proofs.YtcllfkplpdppiaaGreatH
namespace Go.Proofs.YtcllfkplpdppiaaGreatH
open Go
def stepSize (a : RewritingStep) : Nat := a.Atom.Terms.length + a.Existential.length + a.Universal.length
def rwSize (l : List RewritingStep) : Nat := l.length + (l.map stepSize).sum
theorem szAt {a : Atom} {n : Int} (h : ok a) (h0 : 0 ≤ n) (h1 : n ≤ 1048576) : f149 a n = some (lft n a.Terms.length) := by
 unfold f149
 rw [szI h.2.1 h0 h1, Option.bind_some]
 split
 ·rename_i hlt; rw [lft_bad hlt]
 ·rfl
theorem lft_lft {n : Int} {a b : Nat} (h : ¬ lft n a < 0) : lft (lft n a) b = lft n (a + b) := by
 obtain ⟨e, h'⟩ := lft_pos h
 rw [e, lft_sub (by omega)]
theorem lft_neg_add {n : Int} {a b : Nat} (h : lft n a < 0) : lft n (a + b) = -1 := by
 have := lft_neg.1 h
 unfold lft; rw [if_neg (by omega)]
theorem szStep {a : RewritingStep} {n : Int} (h : ok a) (h0 : 0 ≤ n) (h1 : n ≤ 1048576) : f72 a n = some (lft n (stepSize a)) := by
 unfold f72 stepSize
 rw [szAt h.1 h0 h1, Option.bind_some]
 by_cases c1 : lft n a.Atom.Terms.length < 0
 ·rw [if_pos c1, Nat.add_assoc, lft_neg_add c1]
 ·rw [if_neg c1]
  have b1 := lft_pos c1
  rw [szI h.2.1.1 (by omega) (by omega), Option.bind_some, lft_lft c1]
  by_cases c2 : lft n (a.Atom.Terms.length + a.Existential.length) < 0
  ·rw [if_pos c2, lft_neg_add c2]
  ·rw [if_neg c2]
   have b2 := lft_pos c2
   rw [szI h.2.2.1 (by omega) (by omega), Option.bind_some, lft_lft c2]
   split
   ·rename_i hlt; rw [lft_bad hlt]
   ·rfl
theorem szRw {a : List RewritingStep} {n : Int} (h : ok a) (h0 : 0 ≤ n) (h1 : n ≤ 1048576) : f12 a n = some (lft n (rwSize a)) := by
 obtain ⟨h, h'⟩ := h
 unfold f12 rwSize
 rw [w64_of (by omega)]
 by_cases hc : n < (a.length : Int)
 ·rw [if_pos (by omega)]
  unfold lft
  rw [if_neg (by omega)]
 ·rw [if_neg (by omega)]
  rw [iter_sz stepSize a _ (by omega) (fun i hi b hb hb' => by
   simp only [f12_0]
   rw [if_pos (by omega), ix_nat hi, w64_succ (by omega)]
   simp only [Option.bind_some, szStep (h' _ (List.getElem_mem hi)) hb (by omega)]
   split <;> rfl) (fun b => by
   simp only [f12_0]
   rw [if_neg (by omega)]), lft_sub hc]
  split
  ·rename_i hlt
   rw [lft_bad hlt]; rfl
  ·rfl
def FitsS (a : RewritingStep) : Prop := a.Atom.Terms.length ≤ 1048576 ∧ a.Existential.length ≤ 1048576 ∧ a.Universal.length ≤ 1048576
theorem rw_fits {l : List RewritingStep} (h : rwSize l ≤ 1048576) : l.length ≤ 1048576 ∧ ∀ x ∈ l, FitsS x := by
 unfold rwSize at h
 refine ⟨by omega, fun x hx => ?_⟩
 have := mem_le_sum (s := stepSize) hx
 have e : stepSize x = x.Atom.Terms.length + x.Existential.length + x.Universal.length := rfl
 exact ⟨by omega, by omega, by omega⟩
theorem toStep {a : RewritingStep} (h : FitsS a) : f78 a = some a := by
 unfold f78 f155
 rw [toI h.1, toI h.2.1, toI h.2.2]; rfl
theorem toRw {a : List RewritingStep} (h : a.length ≤ 1048576) (h' : ∀ x ∈ a, FitsS x) : f15 a = some a := by
 unfold f15
 rw [mkl_ok (by omega) (by omega) (by omega)]
 have : iter (f15_0 a) (List.replicate (a.length : Int).toNat (({ Atom := ({ Relation := 0, Terms := [] } : Atom), Existential := [], Universal := [] } : RewritingStep) : RewritingStep), 0) = some a := iter_copy (by simp) (fun i hi out ho => by
  simp only [f15_0]
  rw [if_pos (by omega), ix_nat hi, ix_nat ho, Int.toNat_natCast, w64_succ (by omega)]
  simp only [Option.bind_some, toStep (h' _ (List.getElem_mem hi))]) (fun out => by
  simp only [f15_0]
  rw [if_neg (by omega)])
 simp only [Option.bind_some, this]
theorem eqStep {a : RewritingStep} (h : FitsS a) : f85 a a = some true := by
 unfold f85 f164
 rw [eqI (by have := h.1; omega), eqI (by have := h.2.1; omega), eqI (by have := h.2.2; omega)]; simp
theorem eqRw {a : List RewritingStep} (h : a.length ≤ 1048576) (h' : ∀ x ∈ a, FitsS x) : f19 a a = some true := by
 unfold f19
 rw [if_neg (by simp)]
 rw [iter_ex (List.range a.length) (fun _ => false) false (fun i hi => by
  simp only [f19_0]
  simp only [List.length_range] at hi
  rw [if_pos (by omega), ix_nat hi, w64_succ (by omega)]
  simp only [Option.bind_some, eqStep (h' _ (List.getElem_mem hi))]
  simp) (by
  simp only [f19_0]
  rw [if_neg (by simp)])]
 simp
def vStep (l : List Relation) (s : RewritingStep) : Bool :=
 vRels l && (btw s.Atom.Relation 0 (l.length - 1) && (decide ((s.Atom.Terms.length : Int) = arity l s.Atom.Relation) && ((s.Atom.Terms.all fun v => btw v (-10) 3) && (s.Existential.all (kvars l s.Atom).contains && s.Universal.all (avars s.Atom.Terms).contains))))
def vRw (l : List Relation) (f : List RewritingStep) : Bool := f.all (vStep l) && decide (f.length ≤ 3)
theorem specRw {l : List Relation} {f : List RewritingStep} (hl : Big l.length) (hf : Big f.length) (h : ∀ x ∈ f, FitsS x) : f74 l f = some (vRw l f) := by
 unfold f74
 rw [iter_ex f (fun s => !vStep l s) false (fun i hi => by
  have hs := h _ (List.getElem_mem hi)
  simp only [f74_0]
  rw [if_pos (by omega), ix_nat hi, w64_succ (by omega)]
  generalize f[i] = s at hs
  obtain ⟨s1, s2, s3⟩ := hs
  unfold vStep
  rw [Option.bind_some, specRels hl, Option.bind_some, w64_of (by omega)]
  cases vRels l
  ·simp
  simp only [specIn]
  cases hb : btw s.Atom.Relation 0 (l.length - 1)
  ·simp
  obtain ⟨x, h1, _, h2, _⟩ := ix_rel hb
  rw [h1]
  by_cases ha : (s.Atom.Terms.length : Int) = arity l s.Atom.Relation
  ·rw [iter_ex s.Atom.Terms (fun v => !btw v (-10) 3) false (fun i hi => by
    simp only [f74_1]
    rw [if_pos (by omega), ix_nat hi, w64_succ (by omega)]
    simp only [Option.bind_some, specIn]
    cases btw s.Atom.Terms[i] (-10) 3 <;> simp) (by
    simp only [f74_1]
    rw [if_neg (by omega)]), any_not]
   have k1 := kvars_len (l := l) (a := s.Atom)
   have k2 := avars_len (t := s.Atom.Terms)
   cases s.Atom.Terms.all (fun v => btw v (-10) 3)
   ·simp [h2, ha]
   ·simp only [h2, ha, not_true_eq_false, if_false, Option.bind_some, ne_eq, decide_false, Bool.false_eq_true, Bool.not_true, specKV hl (show Big s.Atom.Terms.length by omega), has14 (l := kvars l s.Atom) (w := s.Existential) (by omega) (by omega),
     specVars (a := s.Atom) (by omega), has14 (l := avars s.Atom.Terms) (w := s.Universal) (by omega) (by omega)]
    cases s.Existential.all (kvars l s.Atom).contains
    ·simp
    ·cases s.Universal.all (avars s.Atom.Terms).contains <;> simp
  ·simp [h2, ha]) (by
  simp only [f74_0]
  rw [if_neg (by omega)]), any_not]
 unfold vRw
 cases f.all (vStep l)
 ·simp
 ·simp; omega
theorem impRw {l : List Relation} {f : List RewritingStep} (hl : Big l.length) (hf : Big f.length) (h : ∀ x ∈ f, FitsS x) : f80 l f = some (vRw l f) := by
 unfold f80
 rw [iter_ex (List.range f.length) (fun i => decide (3 ≤ i) || !(match f[i]? with | some s => vStep l s | none => true)) false (fun i hi => by
  simp only [List.length_range] at hi
  simp only [List.getElem_range]
  rw [List.getElem?_eq_getElem hi]
  dsimp only
  have hs := h _ (List.getElem_mem hi)
  simp only [f80_0]
  rw [if_pos (by omega), ix_nat hi, w64_succ (by omega)]
  generalize f[i] = s at hs
  obtain ⟨s1, s2, s3⟩ := hs
  by_cases c3 : 3 ≤ i
  ·rw [Option.bind_some, if_pos (by omega)]; simp [c3]
  rw [Option.bind_some, if_neg (by omega)]
  simp only [c3, decide_false, Bool.false_or]
  unfold vStep
  rw [impRels hl, Option.bind_some, w64_of (by omega)]
  cases hv : vRels l
  ·simp
  simp only [impIn]
  cases hb : btw s.Atom.Relation 0 (l.length - 1)
  ·simp
  obtain ⟨x, h1, _, h2, _⟩ := ix_rel hb
  rw [h1]
  by_cases ha : (s.Atom.Terms.length : Int) = arity l s.Atom.Relation
  ·have h3 := vRels_arity hv hb
   have i1 : f159 s.Atom.Terms (fun x0 => f160 x0) = some (s.Atom.Terms.any fun v => !btw v (-10) 3) := indexI (by omega) (fun v _ => by
    unfold f160
    rw [impIn]; cases btw v (-10) 3 <;> simp)
   rw [i1, any_not]
   have k1 := kvars_len (l := l) (a := s.Atom)
   have k2 := avars_len (t := s.Atom.Terms)
   cases s.Atom.Terms.all (fun v => btw v (-10) 3)
   ·simp [h2, ha]
   ·simp only [h2, ha, not_true_eq_false, if_false, Option.bind_some, ne_eq, decide_false, Bool.false_eq_true, Bool.not_true, impKV hl (show s.Atom.Terms.length ≤ 12 by omega), subset (a := s.Existential) (b := kvars l s.Atom) (by omega) (by omega),
     impVars (a := s.Atom) (by omega), subset (a := s.Universal) (b := avars s.Atom.Terms) (by omega) (by omega)]
    cases s.Existential.all (kvars l s.Atom).contains
    ·simp
    ·cases s.Universal.all (avars s.Atom.Terms).contains <;> simp
  ·simp [h2, ha]) (by
  simp only [f80_0]
  rw [if_neg (by simp)])]
 have e : ((List.range f.length).any fun i => decide (3 ≤ i) || !(match f[i]? with | some s => vStep l s | none => true)) = !vRw l f := by
  unfold vRw
  by_cases hn : f.length ≤ 3
  ·have e1 : ((List.range f.length).any fun i => decide (3 ≤ i) || !(match f[i]? with | some s => vStep l s | none => true)) = f.any fun s => !vStep l s := by
    rw [Bool.eq_iff_iff]
    simp only [List.any_eq_true, List.mem_range]
    constructor
    ·rintro ⟨i, hi, hp⟩
     rw [List.getElem?_eq_getElem hi] at hp
     simp only [show ¬ 3 ≤ i by omega, decide_false, Bool.false_or] at hp
     exact ⟨f[i], List.getElem_mem hi, hp⟩
    ·rintro ⟨s, hs, hp⟩
     obtain ⟨i, hi, rfl⟩ := List.mem_iff_getElem.1 hs
     refine ⟨i, hi, ?_⟩
     rw [List.getElem?_eq_getElem hi]
     dsimp only
     rw [hp]; simp
   rw [e1, any_not]; simp [hn]
  ·simp only [hn, decide_false, Bool.and_false, Bool.not_false]
   rw [List.any_eq_true]
   exact ⟨3, by simp; omega, by simp⟩
 rw [e]
 cases vRw l f <;> simp
end Go.Proofs.YtcllfkplpdppiaaGreatH
namespace Go.Proofs.YtcllfkplpdppiaaGreatH
open Go
variable {d : Database}
def nrm (x : List Int) : List Int := x.map fun v => if v > -1 then v else -1
theorem nrm_len {x : List Int} : (nrm x).length = x.length := by simp [nrm]
theorem nrm_get {x : List Int} {i : Nat} (h : i < x.length) : (nrm x).getD i 0 = if x.getD i 0 > -1 then x.getD i 0 else -1 := by
 rw [List.getD_eq_getElem?_getD, List.getD_eq_getElem?_getD, List.getElem?_eq_getElem (by rw [nrm_len]; exact h), List.getElem?_eq_getElem h]
 simp [nrm]
theorem uni_nrm : ∀ {ts vs x : List Int}, (∀ t ∈ ts, t < x.length) → (∀ v ∈ vs, 0 ≤ v) → uni ts vs (nrm x) = (uni ts vs x).map nrm
 | [], vs, x, _, _ => by simp [uni]
 | t :: ts, [], x, _, _ => by simp [uni]
 | t :: ts, v :: vs, x, h1, h2 => by
  have ht := h1 t (by simp)
  have hv := h2 v (by simp)
  have h1' : ∀ t ∈ ts, t < x.length := fun s hs => h1 s (by simp [hs])
  have h2' : ∀ v ∈ vs, 0 ≤ v := fun s hs => h2 s (by simp [hs])
  rw [uni, uni]
  by_cases c1 : t < 0
  ·rw [if_pos c1, if_pos c1]
   split
   ·exact uni_nrm h1' h2'
   ·rfl
  ·rw [if_neg c1, if_neg c1, nrm_get (by omega)]
   by_cases c2 : x.getD t.toNat 0 < 0
   ·rw [if_pos c2, if_pos (by split <;> omega)]
    have e : (nrm x).set t.toNat v = nrm (x.set t.toNat v) := by
     unfold nrm
     rw [List.map_set, if_pos (by omega)]
    rw [e]
    exact uni_nrm (fun s hs => by rw [List.length_set]; exact h1' s hs) h2'
   ·have e2 : (if x.getD t.toNat 0 > -1 then x.getD t.toNat 0 else -1) = x.getD t.toNat 0 := if_pos (by omega)
    rw [e2, if_neg c2, if_neg c2]
    split
    ·exact uni_nrm h1' h2'
    ·rfl
def ev (d : Database) : List RewritingStep → List Int → Bool
 | [], _ => true
 | r :: rs, x => (bks d).any fun b => decide ((fat d (b.getD 0 0)).Relation = r.Atom.Relation) && match uni (r.Atom.Terms.take (keyLen d.Relations r.Atom.Relation).toNat) ((fat d (b.getD 0 0)).Values.take (keyLen d.Relations r.Atom.Relation).toNat) x with
  | none => false
  | some y => b.all fun i => match uni r.Atom.Terms (fat d i).Values y with
   | none => false
   | some z => ev d rs z
structure OkS (d : Database) (r : RewritingStep) : Prop where
 rel : btw r.Atom.Relation 0 (d.Relations.length - 1) = true
 len : (r.Atom.Terms.length : Int) = arity d.Relations r.Atom.Relation
 rng : ∀ t ∈ r.Atom.Terms, -10 ≤ t ∧ t < 4
structure OkB (d : Database) (b : List Int) : Prop where
 ne : 0 < b.length
 ln : b.length ≤ 14
 rng : ∀ v ∈ b, 0 ≤ v ∧ v < d.Facts.length
 rel : ∀ v ∈ b, (fat d v).Relation = (fat d (b.getD 0 0)).Relation
theorem okb (hv : vDb d = true) {b : List Int} (h : b ∈ bks d) : OkB d b := by
 have h14 := (vDb_of hv).2.1
 have hn := blks_nums h14 h
 have K := kin hv
 obtain ⟨s, s1, s2, rfl⟩ := mem_blks.1 h
 have hm : ((s : Nat) : Int) ∈ blk (skOf d) s d.Facts.length := blk_mem.2 ⟨s, s1, rfl, K.refl s s1⟩
 have hne : 0 < (blk (skOf d) s d.Facts.length).length := List.length_pos_of_mem hm
 have hrel : ∀ v ∈ blk (skOf d) s d.Facts.length, (0 ≤ v ∧ v < d.Facts.length) ∧ (fat d v).Relation = (fat d ((s : Nat) : Int)).Relation := fun v hv' => by
  obtain ⟨k, k1, rfl, k3⟩ := blk_mem.1 hv'
  refine ⟨by omega, ?_⟩
  rw [sk_get s1 k1] at k3
  unfold same at k3
  simp only [Bool.and_eq_true, decide_eq_true_eq] at k3
  rw [fat_get k1, fat_get s1]
  exact k3.1.symm
 have h0 : (blk (skOf d) s d.Facts.length).getD 0 0 ∈ blk (skOf d) s d.Facts.length := by
  rw [List.getD_eq_getElem?_getD, List.getElem?_eq_getElem hne]
  exact List.getElem_mem hne
 exact ⟨hne, hn.2, fun v hv' => (hrel v hv').1, fun v hv' => by rw [(hrel v hv').2, (hrel _ h0).2]⟩
theorem getD0 {b : List Int} (h : 0 < b.length) : b.getD 0 0 = b[0] := by rw [List.getD_eq_getElem?_getD, List.getElem?_eq_getElem h]; rfl
theorem fact_at (hv : vDb d = true) {v : Int} (h : 0 ≤ v ∧ v < d.Facts.length) : vFact d.Relations (fat d v) = true := by
 obtain ⟨k, hk, e⟩ := List.getElem_of_mem (fat_mem h)
 rw [← e]; exact fact_ok hv hk
theorem fact_vals (hv : vDb d = true) {v : Int} (h : 0 ≤ v ∧ v < d.Facts.length) : ((fat d v).Values.length : Int) = arity d.Relations (fat d v).Relation ∧ (fat d v).Values.length ≤ 3 ∧ ∀ w ∈ (fat d v).Values, 0 ≤ w := by
 have hf := fact_at hv h
 unfold vFact at hf
 simp only [Bool.and_eq_true, decide_eq_true_eq] at hf
 have ha := vRels_arity (vDb_of hv).1 hf.1
 refine ⟨hf.2.1, by omega, fun w hw => ?_⟩
 have := List.all_eq_true.1 hf.2.2 w hw
 simp only [btw, Bool.and_eq_true, decide_eq_true_eq] at this
 omega
theorem ix_fat {v : Int} (h : 0 ≤ v ∧ v < d.Facts.length) : ix d.Facts v = some (fat d v) := by
 rw [ix_of h.1, List.getElem?_eq_getElem (by omega)]
 congr 1
 have e : v = ((v.toNat : Nat) : Int) := by omega
 conv => rhs; rw [e]
 exact (fat_get (by omega)).symm
theorem fit_full (hv : vDb d = true) {r : RewritingStep} (hr : OkS d r) {x : List Int} (hx : x.length = 4) {v : Int} (h : 0 ≤ v ∧ v < d.Facts.length) (e : (fat d v).Relation = r.Atom.Relation) : FitT x.length r.Atom.Terms (fat d v).Values := by
 obtain ⟨a1, a2, a3⟩ := fact_vals hv h
 have := hr.len
 rw [e] at a1
 refine ⟨by omega, by omega, fun t ht => ?_⟩
 have := hr.rng t ht
 omega
theorem fit_key (hv : vDb d = true) {r : RewritingStep} (hr : OkS d r) {x : List Int} (hx : x.length = 4) {v : Int} (h : 0 ≤ v ∧ v < d.Facts.length) (e : (fat d v).Relation = r.Atom.Relation) (n : Nat) : FitT x.length (r.Atom.Terms.take n) ((fat d v).Values.take n) := by
 obtain ⟨f1, f2, f3⟩ := fit_full hv hr hx h e
 refine ⟨by rw [List.length_take, List.length_take, f1], by rw [List.length_take]; omega, fun t ht => f3 t (List.mem_of_mem_take ht)⟩
theorem key_of (hv : vDb d = true) {r : RewritingStep} (hr : OkS d r) : ∃ x, ix d.Relations r.Atom.Relation = some x ∧ x.KeyLength = keyLen d.Relations r.Atom.Relation ∧ 0 ≤ x.KeyLength ∧ x.KeyLength ≤ r.Atom.Terms.length := by
 obtain ⟨x, h1, h2, h3, h4⟩ := ix_rel hr.rel
 have hx := vRel_mem (vDb_of hv).1 h2
 unfold vRel at hx
 simp only [btw, Bool.and_eq_true, decide_eq_true_eq] at hx
 have := hr.len
 exact ⟨x, h1, h4, by omega, by omega⟩
theorem ev_nrm (hv : vDb d = true) : ∀ {rs : List RewritingStep} {x : List Int}, (∀ r ∈ rs, OkS d r) → x.length = 4 → ev d rs (nrm x) = ev d rs x
 | [], x, _, _ => rfl
 | r :: rs, x, hr, hx => by
  rw [ev, ev]
  have hr0 := hr r (by simp)
  refine any_mem_congr fun b hb => ?_
  have ob := okb hv hb
  by_cases e : (fat d (b.getD 0 0)).Relation = r.Atom.Relation
  ·rw [decide_eq_true e, Bool.true_and, Bool.true_and]
   have h0 : b.getD 0 0 ∈ b := by rw [getD0 ob.ne]; exact List.getElem_mem _
   have hk := fit_key hv hr0 hx (ob.rng _ h0) e (keyLen d.Relations r.Atom.Relation).toNat
   rw [uni_nrm (fun t ht => (hk.2.2 t ht).2) (fun w hw => (fact_vals hv (ob.rng _ h0)).2.2 w (List.mem_of_mem_take hw))]
   cases hu : uni (r.Atom.Terms.take (keyLen d.Relations r.Atom.Relation).toNat) ((fat d (b.getD 0 0)).Values.take (keyLen d.Relations r.Atom.Relation).toNat) x with
   | none => rfl
   | some y =>
    have hy := uni_len hu
    dsimp only [Option.map_some]
    refine all_mem_congr fun i hi => ?_
    have hf := fit_full hv hr0 (x := y) (by omega) (ob.rng i hi) (by rw [ob.rel i hi, e])
    rw [uni_nrm (fun t ht => (hf.2.2 t ht).2) (fun w hw => (fact_vals hv (ob.rng i hi)).2.2 w hw)]
    cases hz : uni r.Atom.Terms (fat d i).Values y with
    | none => rfl
    | some z =>
     have hzl := uni_len hz
     dsimp only [Option.map_some]
     exact ev_nrm hv (fun s hs => hr s (by simp [hs])) (by omega)
  ·rw [decide_eq_false e, Bool.false_and, Bool.false_and]
end Go.Proofs.YtcllfkplpdppiaaGreatH
namespace Go.Proofs.YtcllfkplpdppiaaGreatH
open Go
variable {d : Database}
theorem iter_while {α : Type} {f : Bool × Int → Option ((Bool × Int) ⊕ Bool)} (L : List α) (c : α → Bool) (x : Bool)
  (hs : ∀ (i : Nat) (h : i < L.length), f (true, (i : Int)) = some (.inl (c L[i], ((i + 1 : Nat) : Int)))) (hf : ∀ (i : Nat), i ≤ L.length → f (false, (i : Int)) = some (.inr false)) (he : f (true, (L.length : Int)) = some (.inr true)) :
  iter f (x, 0) = some (x && L.all c) := by
 obtain ⟨o, h1, h2⟩ := iter_up (f := f) L.length (fun k t => t = (x && (L.take k).all c, (k : Int))) (fun o => o = (x && L.all c)) (fun k t hk h => by
  subst h
  cases hc : x && (L.take k).all c
  ·refine ⟨_, hf k (by omega), ?_⟩
   dsimp only
   symm
   rw [Bool.and_eq_false_iff] at hc ⊢
   rcases hc with hc | hc
   ·exact .inl hc
   ·refine .inr ?_
    rw [Bool.eq_false_iff]
    intro ha
    rw [Bool.eq_false_iff] at hc
    exact hc (List.all_eq_true.2 fun v hv => List.all_eq_true.1 ha v (List.mem_of_mem_take hv))
  ·refine ⟨_, hs k hk, ?_⟩
   dsimp only
   rw [take_succ' hk, List.all_append, ← Bool.and_assoc, hc]
   simp) (fun t h => by
  subst h
  rw [List.take_of_length_le (Nat.le_refl _)]
  cases x && L.all c
  ·exact ⟨_, hf _ (Nat.le_refl _), rfl⟩
  ·exact ⟨_, he, rfl⟩) (x, 0) (by simp)
 rw [h1, h2]
theorem cut0 {l : List Int} {n : Int} (h0 : 0 ≤ n) (h : n ≤ l.length) : cutL l 0 n = some (l.take n.toNat) := by
 rw [cutL_ok (by omega) h0 h]; simp
theorem evImp (hv : vDb d = true) (hf : Fits d) : ∀ (n : Nat) {rs : List RewritingStep} {x : List Int}, rs.length < n → (∀ r ∈ rs, OkS d r) → x.length = 4 → rs.length ≤ 3 → f82 n d (bks d) rs x = some (ev d rs x)
  | 0, rs, x, h, _, _, _ => by omega
  | n + 1, [], x, _, _, _, _ => by
    rw [f82]
    dsimp only
    rw [if_pos (by simp)]; rfl
  | n + 1, r :: rs, x, hn, hr, hx, h3 => by
    have hr0 := hr r (by simp)
    have h14 := (vDb_of hv).2.1
    have hB := bks_few h14
    obtain ⟨rl, k1, k2, k3, k4⟩ := key_of hv hr0
    simp only [List.length_cons] at hn h3
    rw [f82]
    dsimp only
    rw [if_neg (by simp only [List.length_cons]; omega), ix_of (by omega)]
    simp only [Int.toNat_zero, List.getElem?_cons_zero, Option.bind_some, k1]
    rw [iter_ex (f := f82_0 d (bks d) (r :: rs) x (f82 n) r rl) (bks d) (fun b => decide ((fat d (b.getD 0 0)).Relation = r.Atom.Relation) && match uni (r.Atom.Terms.take (keyLen d.Relations r.Atom.Relation).toNat) ((fat d (b.getD 0 0)).Values.take (keyLen d.Relations r.Atom.Relation).toNat) x with
      | none => false
      | some y => b.all fun i => match uni r.Atom.Terms (fat d i).Values y with
        | none => false
        | some z => ev d rs z) true (fun i hi => by
      have ob := okb hv (List.getElem_mem hi)
      have h0 : (bks d)[i].getD 0 0 ∈ (bks d)[i] := by rw [getD0 ob.ne]; exact List.getElem_mem _
      have hr1 := ob.rng _ h0
      simp only [f82_0]
      rw [if_pos (by omega), ix_nat hi, Option.bind_some, ix_of (l := (bks d)[i]) (by omega), List.getElem?_eq_getElem (by simpa using ob.ne), Option.bind_some]
      simp only [Int.toNat_zero]
      rw [← getD0 ob.ne, ix_fat hr1, Option.bind_some, w64_succ (by omega)]
      by_cases e : (fat d ((bks d)[i].getD 0 0)).Relation = r.Atom.Relation
      · have hfv := fact_vals hv hr1
        have hl := hr0.len
        rw [e] at hfv
        rw [if_neg (by simpa using e), cut0 k3 k4, Option.bind_some, cut0 k3 (by omega), Option.bind_some, k2, impUni (by omega) (fit_key hv hr0 hx hr1 e _), Option.bind_some, decide_eq_true e, Bool.true_and]
        have it : ∀ (y : List Int) (b0 : Bool), y.length = 4 ∨ b0 = false → iter (f82_1 d (bks d) (r :: rs) (f82 n) r (bks d)[i] (y, b0)) (b0, 0) = some (b0 && (bks d)[i].all fun i => match uni r.Atom.Terms (fat d i).Values y with
            | none => false
            | some z => ev d rs z) := fun y b0 hy => by
          by_cases hb : b0 = false
          · subst hb
            rw [iter_eq]
            simp only [f82_1]
            by_cases hlt : (0 : Int) < (bks d)[i].length
            · rw [if_pos hlt]; simp
            · rw [if_neg hlt]; simp
          · have hy4 := hy.resolve_right hb
            simp only [Bool.not_eq_false] at hb
            subst hb
            refine iter_while (bks d)[i] _ true (fun j hj => ?_) (fun j hj => ?_) ?_
            · have hjr := ob.rng _ (List.getElem_mem hj)
              have hje := ob.rel _ (List.getElem_mem hj)
              simp only [f82_1]
              rw [if_pos (by omega), Option.bind_some, if_pos rfl, ix_nat hj, Option.bind_some, ix_fat hjr, Option.bind_some, impUni (by omega) (fit_full hv hr0 hy4 hjr (by rw [hje, e])), Option.bind_some, w64_succ (by have := ob.ln; omega)]
              cases hu : uni r.Atom.Terms (fat d (bks d)[i][j]).Values y with
              | none => simp
              | some z =>
                have hz := uni_len hu
                dsimp only
                rw [if_pos rfl, cutL_ok (by omega) (by simp only [List.length_cons]; omega) (by omega), Option.bind_some]
                have ed : ((r :: rs).take (((r :: rs).length : Nat) : Int).toNat).drop (1 : Int).toNat = rs := by simp
                rw [ed, evImp hv hf n (by omega) (fun s hs => hr s (by simp [hs])) (by omega) (by omega)]
                rfl
            · simp only [f82_1]
              by_cases hlt : (j : Int) < (bks d)[i].length
              · rw [if_pos hlt]; simp
              · rw [if_neg hlt]; simp
            · simp only [f82_1]
              rw [if_neg (by omega)]; simp
        cases hu : uni (r.Atom.Terms.take (keyLen d.Relations r.Atom.Relation).toNat) ((fat d ((bks d)[i].getD 0 0)).Values.take (keyLen d.Relations r.Atom.Relation).toNat) x with
        | none =>
          dsimp only
          rw [it [] false (.inr rfl)]
          simp
        | some y =>
          have hy := uni_len hu
          dsimp only
          rw [it y true (.inl (by omega)), Option.bind_some, Bool.true_and]
          split <;> simp
      · rw [if_pos (by simpa using e), decide_eq_false e, Bool.false_and]
        simp) (by
      simp only [f82_0]
      rw [if_neg (by omega)])]
    rw [ev]
    cases hcase : (bks d).any fun b => decide ((fat d (b.getD 0 0)).Relation = r.Atom.Relation) && match uni (r.Atom.Terms.take (keyLen d.Relations r.Atom.Relation).toNat) ((fat d (b.getD 0 0)).Values.take (keyLen d.Relations r.Atom.Relation).toNat) x with
      | none => false
      | some y => b.all fun i => match uni r.Atom.Terms (fat d i).Values y with
        | none => false
        | some z => ev d rs z
    · rfl
    · rfl
theorem evSpec (hv : vDb d = true) (hf : Fits d) {f : List RewritingStep} (hr : ∀ r ∈ f, OkS d r) (h3 : f.length ≤ 3) : ∀ (n : Nat) {k : Nat} {x : List Int}, f.length < n + k → k ≤ f.length → x.length = 4 → f76 n d f (k : Int) x = some (ev d (f.drop k) x)
  | 0, k, x, h, hk, _ => by omega
  | n + 1, k, x, hn, hk, hx => by
    rw [f76]
    dsimp only
    by_cases hke : k = f.length
    · rw [if_pos (by omega), List.drop_of_length_le (by omega)]; rfl
    have hkl : k < f.length := by omega
    have hr0 := hr _ (List.getElem_mem hkl)
    have h14 := (vDb_of hv).2.1
    have hB := bks_few h14
    obtain ⟨rl, k1, k2, k3, k4⟩ := key_of hv hr0
    have hblk : f141 d = some (bks d) := blocksSpec hv hf
    rw [if_neg (by omega), ix_nat hkl, Option.bind_some, k1, Option.bind_some, hblk, Option.bind_some, List.drop_eq_getElem_cons hkl]
    rw [iter_ex (f := f76_0 d f (k : Int) x (f76 n) f[k] rl (bks d)) (bks d) (fun b => decide ((fat d (b.getD 0 0)).Relation = f[k].Atom.Relation) && match uni (f[k].Atom.Terms.take (keyLen d.Relations f[k].Atom.Relation).toNat) ((fat d (b.getD 0 0)).Values.take (keyLen d.Relations f[k].Atom.Relation).toNat) x with
      | none => false
      | some y => b.all fun i => match uni f[k].Atom.Terms (fat d i).Values y with
        | none => false
        | some z => ev d (f.drop (k + 1)) z) true (fun i hi => by
      have ob := okb hv (List.getElem_mem hi)
      have h0 : (bks d)[i].getD 0 0 ∈ (bks d)[i] := by rw [getD0 ob.ne]; exact List.getElem_mem _
      have hr1 := ob.rng _ h0
      simp only [f76_0]
      rw [if_pos (by omega), ix_nat hi, Option.bind_some, ix_of (l := (bks d)[i]) (by omega), List.getElem?_eq_getElem (by simpa using ob.ne), Option.bind_some]
      simp only [Int.toNat_zero]
      rw [← getD0 ob.ne, ix_fat hr1, Option.bind_some, w64_succ (i := i) (by omega)]
      by_cases e : (fat d ((bks d)[i].getD 0 0)).Relation = f[k].Atom.Relation
      · have hfv := fact_vals hv hr1
        have hl := hr0.len
        rw [e] at hfv
        obtain ⟨o, ho, hoq⟩ := specMeet (x := x) (a := ⟨f[k].Atom.Relation, f[k].Atom.Terms.take rl.KeyLength.toNat⟩) (f := ⟨f[k].Atom.Relation, (fat d ((bks d)[i].getD 0 0)).Values.take rl.KeyLength.toNat⟩) (by omega) (fun _ => fit_key hv hr0 hx hr1 e _)
        rw [if_neg (by simpa using e), cut0 k3 k4, Option.bind_some, cut0 k3 (by omega), Option.bind_some, ho, Option.bind_some, decide_eq_true e, Bool.true_and, ← k2]
        rw [if_pos rfl] at hoq
        have it : ∀ (y : List Int) (b0 : Bool), y.length = 4 ∨ b0 = false → iter (f76_1 d f (k : Int) (f76 n) f[k] (bks d) (i : Int) (y, b0)) (b0, 0) = some (b0 && (bks d)[i].all fun i => match uni f[k].Atom.Terms (fat d i).Values y with
            | none => false
            | some z => ev d (f.drop (k + 1)) z) := fun y b0 hy => by
          by_cases hb : b0 = false
          · subst hb
            rw [iter_eq]
            simp only [f76_1]
            rw [ix_nat hi, Option.bind_some]
            by_cases hlt : (0 : Int) < (bks d)[i].length
            · rw [if_pos hlt]; simp
            · rw [if_neg hlt]; simp
          · have hy4 := hy.resolve_right hb
            simp only [Bool.not_eq_false] at hb
            subst hb
            refine iter_while (bks d)[i] _ true (fun j hj => ?_) (fun j hj => ?_) ?_
            · have hjr := ob.rng _ (List.getElem_mem hj)
              have hje := ob.rel _ (List.getElem_mem hj)
              obtain ⟨o2, ho2, hq2⟩ := specMeet (x := y) (a := f[k].Atom) (f := fat d (bks d)[i][j]) (by omega) (fun h => fit_full hv hr0 hy4 hjr h)
              rw [if_pos (by rw [hje, e])] at hq2
              simp only [f76_1]
              rw [ix_nat hi, Option.bind_some, if_pos (by omega), Option.bind_some, if_pos rfl, ix_nat hj, Option.bind_some, ix_fat hjr, Option.bind_some, ho2, Option.bind_some, w64_succ (i := j) (by have := ob.ln; omega)]
              cases hu : uni f[k].Atom.Terms (fat d (bks d)[i][j]).Values y with
              | none =>
                rw [hu] at hq2
                dsimp only at hq2
                rw [hq2]; simp
              | some z =>
                rw [hu] at hq2
                dsimp only at hq2
                subst hq2
                have hz := uni_len hu
                dsimp only
                rw [if_pos rfl, w64_succ (i := k) (by omega), evSpec hv hf hr h3 n (by omega) (by omega) (by omega)]
                rfl
            · simp only [f76_1]
              rw [ix_nat hi, Option.bind_some]
              by_cases hlt : (j : Int) < (bks d)[i].length
              · rw [if_pos hlt]; simp
              · rw [if_neg hlt]; simp
            · simp only [f76_1]
              rw [ix_nat hi, Option.bind_some, if_neg (by omega)]; simp
        cases hu : uni (f[k].Atom.Terms.take rl.KeyLength.toNat) ((fat d ((bks d)[i].getD 0 0)).Values.take rl.KeyLength.toNat) x with
        | none =>
          rw [hu] at hoq
          dsimp only at hoq ⊢
          obtain ⟨o1, o2⟩ := o
          simp only at hoq
          subst hoq
          rw [it o1 false (.inr rfl)]
          simp
        | some y =>
          rw [hu] at hoq
          dsimp only at hoq ⊢
          subst hoq
          have hy := uni_len hu
          rw [it y true (.inl (by omega)), Option.bind_some, Bool.true_and]
          split <;> simp
      · rw [if_pos (by simpa using e), decide_eq_false e, Bool.false_and]
        simp) (by
      simp only [f76_0]
      rw [if_neg (by omega)])]
    rw [ev]
    cases hcase : (bks d).any fun b => decide ((fat d (b.getD 0 0)).Relation = f[k].Atom.Relation) && match uni (f[k].Atom.Terms.take (keyLen d.Relations f[k].Atom.Relation).toNat) ((fat d (b.getD 0 0)).Values.take (keyLen d.Relations f[k].Atom.Relation).toNat) x with
      | none => false
      | some y => b.all fun i => match uni f[k].Atom.Terms (fat d i).Values y with
        | none => false
        | some z => ev d (f.drop (k + 1)) z
    · rfl
    · rfl
def pad (x : List Int) : List Int := x ++ List.replicate (4 - x.length) (-1)
def evalR (d : Database) (f : List RewritingStep) (x : List Int) : Bool := vDb d && (vRw d.Relations f && (decide (x.length ≤ 4) && ev d f (pad x)))
theorem rw_ok {f : List RewritingStep} (hv : vRw d.Relations f = true) : (∀ r ∈ f, OkS d r) ∧ f.length ≤ 3 := by
 unfold vRw at hv
 simp only [Bool.and_eq_true, decide_eq_true_eq] at hv
 refine ⟨fun r hr => ?_, hv.2⟩
 have := List.all_eq_true.1 hv.1 r hr
 unfold vStep at this
 simp only [Bool.and_eq_true, decide_eq_true_eq] at this
 refine ⟨this.2.1, this.2.2.1, fun t ht => ?_⟩
 have h2 := List.all_eq_true.1 this.2.2.2.1 t ht
 simp only [btw, Bool.and_eq_true, decide_eq_true_eq] at h2
 omega
theorem pad_len {x : List Int} (h : x.length ≤ 4) : (pad x).length = 4 := by
 unfold pad
 rw [List.length_append, List.length_replicate]; omega
theorem evalImp {f : List RewritingStep} {x : List Int} (hf : Fits d) (hff : f.length ≤ 1048576 ∧ ∀ r ∈ f, FitsS r) (hx : x.length ≤ 1048576) : f17 d f x = some (evalR d f x) := by
 unfold f17 evalR
 have hr := fits_room hf
 rw [impDb hr, Option.bind_some]
 cases hv : vDb d
 ·simp
 ·rw [if_neg (by simp), impRw hr.1 (by omega) hff.2, Option.bind_some]
  cases hw : vRw d.Relations f
  ·simp
  ·obtain ⟨o1, o2⟩ := rw_ok hw
   by_cases h4 : x.length ≤ 4
   ·rw [if_neg (by simp), Option.bind_some, Option.bind_some, if_neg (by simp; omega), unknownOk (by omega) (by omega), Option.bind_some]
    have hb : f83 d = some (bks d) := blocksImp hv hf
    have hn : nel (List.replicate (4 : Int).toNat (-1 : Int)) = some () := by decide
    have hc : cpL (List.replicate (4 : Int).toNat (-1)) x = pad x := by
     unfold cpL pad
     rw [List.length_replicate, List.take_of_length_le (by omega), List.drop_replicate]; rfl
    rw [hn, Option.bind_some, hc, hb, Option.bind_some, evImp hv hf 64 (by omega) o1 (pad_len h4) o2, decide_eq_true h4]
    simp
   ·rw [if_neg (by simp), Option.bind_some, Option.bind_some, if_pos (by simp; omega), decide_eq_false h4]
    simp
theorem evalSpec {f : List RewritingStep} {x : List Int} (hf : Fits d) (hff : f.length ≤ 1048576 ∧ ∀ r ∈ f, FitsS r) (hx : x.length ≤ 1048576) : f13 d f x = some (evalR d f x) := by
 unfold f13 evalR
 have hr := fits_room hf
 rw [specDb hr, Option.bind_some]
 cases hv : vDb d
 ·simp
 ·rw [if_neg (by simp), specRw hr.1 (by omega) hff.2, Option.bind_some]
  cases hw : vRw d.Relations f
  ·simp
  ·obtain ⟨o1, o2⟩ := rw_ok hw
   by_cases h4 : x.length ≤ 4
   ·rw [if_neg (by simp), Option.bind_some, Option.bind_some, if_neg (by simp; omega), noneOk (by omega) (by omega), Option.bind_some]
    have it := iter_steps (f := f13_0 x) (fun i => (nrm (x.take i) ++ List.replicate (4 - i) (-1), (i : Int))) x.length (nrm (pad x)) (fun i hi => by
     have hl : (nrm (x.take i)).length = i := by rw [nrm_len, List.length_take]; omega
     simp only [f13_0]
     rw [if_pos (by omega), ix_nat hi, Option.bind_some, ix_nat (by rw [List.length_append, hl, List.length_replicate]; omega), Option.bind_some, w64_succ (by omega), Int.toNat_natCast, List.set_append_right _ _ (by omega), hl, Nat.sub_self, show 4 - i = (4 - (i + 1)) + 1 by omega, List.replicate_succ, List.set_cons_zero, take_succ' hi]
     unfold nrm
     rw [List.map_append]
     simp) (by
     simp only [f13_0]
     rw [if_neg (by omega), List.take_of_length_le (Nat.le_refl _)]
     unfold nrm pad
     rw [List.map_append, List.map_replicate]; rfl)
    simp only [List.take_zero, nrm, List.map_nil, List.nil_append, Nat.sub_zero, Int.natCast_zero, Int.ofNat_zero] at it
    have e4 : (4 : Int).toNat = 4 := rfl
    rw [e4]
    erw [it]
    rw [Option.bind_some]
    have := evSpec hv hf o1 o2 64 (k := 0) (x := nrm (pad x)) (by omega) (by omega) (by rw [nrm_len]; exact pad_len h4)
    have e0 : ((0 : Nat) : Int) = 0 := rfl
    rw [e0] at this
    unfold nrm at this
    rw [this, Option.bind_some, List.drop_zero]
    have hn := ev_nrm hv o1 (pad_len h4)
    unfold nrm at hn
    rw [hn, decide_eq_true h4]
    simp
   ·rw [if_neg (by simp), Option.bind_some, Option.bind_some, if_pos (by simp; omega), decide_eq_false h4]
    simp
end Go.Proofs.YtcllfkplpdppiaaGreatH
namespace Go.Proofs.YtcllfkplpdppiaaGreatH
open Go
theorem lawFnExactEvaluateRewriting (a : Database) (ha : ok a) (b : List RewritingStep) (hb : ok b) (c : List Int) (hc : ok c) : f3 a b c = some true := by
 unfold f3
 by_cases h0 : (c.length : Int) > 1048576
 ·rw [if_pos h0]
 rw [if_neg h0, szDb ha (by omega) (by omega), Option.bind_some]
 by_cases h1 : lft 1048576 (dbSize a) < 0
 ·rw [if_pos h1]
 rw [if_neg h1]
 have b1 := lft_pos h1
 rw [szRw hb (by omega) (by omega), Option.bind_some, lft_lft h1]
 by_cases h2 : lft 1048576 (dbSize a + rwSize b) < 0
 ·rw [if_pos h2]
 rw [if_neg h2]
 have b2 := lft_pos h2
 have fd := db_fits (a := a) (by omega)
 obtain ⟨f1, f2⟩ := rw_fits (l := b) (by omega)
 have hl : c.length ≤ 1048576 := by omega
 simp only [toDb fd, toRw f1 f2, toI hl, evalSpec fd ⟨f1, f2⟩ hl, evalImp fd ⟨f1, f2⟩ hl, Option.bind_some, eqDb fd, eqRw f1 f2, eqI (a := c) (by omega)]
 simp
end Go.Proofs.YtcllfkplpdppiaaGreatH
