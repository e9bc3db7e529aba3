import Derived.Test.YtcllfkplpdppiaaDoorTd1
import Derived.Test.YtcllfkplpdppiaaDoorX3
import Derived.Test.YtcllfkplpdppiaaDoorRd1
import Derived.Lib.ItoaLen
import Derived.Lib.Join
set_option linter.unusedVariables false
set_option linter.unusedSimpArgs false
set_option linter.defProp false
set_option linter.unusedSectionVars false
namespace Go.Proofs.YtcllfkplpdppiaaDoorH
theorem bS {α β : Type} {a : α} {f : α → Option β} : (some a).bind f = f a := rfl
end Go.Proofs.YtcllfkplpdppiaaDoorH
namespace Go.Proofs.YtcllfkplpdppiaaDoorH
open Go
theorem toI {a : List Int} (h : a.length ≤ 1048576) : f54 a = some a := by
 unfold f54
 rw [mkl_ok (by omega) (by omega) (by omega)]
 have : iter (f54_0 a) (List.replicate (a.length : Int).toNat 0, 0) = some a := iter_copy (by simp) (fun i hi out ho => by
  simp only [f54_0]
  rw [if_pos (by omega), ix_nat hi, ix_nat ho, Int.toNat_natCast, w64_succ (by omega)]; rfl) (fun out => by
  simp only [f54_0]
  rw [if_neg (by omega)])
 simp only [bS, this]
theorem eqI {a : List Int} (h : a.length ≤ 9223372036854775807) : f65 a a = some true := by
 unfold f65
 rw [if_neg (by simp)]
 rw [iter_ex (List.range a.length) (fun _ => false) false (fun i hi => by
  simp only [f65_0]
  simp only [List.length_range] at hi
  rw [if_pos (by omega), ix_nat hi, w64_succ (by omega)]
  simp) (by
  simp only [f65_0]
  rw [if_neg (by simp)])]
 simp
theorem szI {a : List Int} {n : Int} (h : a.length ≤ 9223372036854775807) (h0 : 0 ≤ n) (h1 : n ≤ 1048576) : f47 a n = some (lft n a.length) := by
 unfold f47
 rw [w64_of (by omega)]
 unfold lft
 by_cases hc : n < (a.length : Int)
 ·rw [if_pos (by omega), if_neg (by omega)]
 ·rw [if_neg (by omega), if_pos (by omega)]
end Go.Proofs.YtcllfkplpdppiaaDoorH
namespace Go.Proofs.YtcllfkplpdppiaaDoorH
open Go
abbrev Big (n : Nat) : Prop := n ≤ 9223372036854775806
theorem indexI {s : List Int} {f : Int → Option Bool} {p : Int → Bool} (h : Big s.length) (hf : ∀ a ∈ s, f a = some (p a)) : f74 s f = some (s.any p) := by
 unfold f74 f96
 obtain ⟨o, h1, h2⟩ := iter_idx (f := f96_0 s f) s p (fun i hi => by
  simp only [f96_0]
  rw [if_pos (by omega), ix_nat hi, w64_succ (by omega)]
  simp only [bS, hf _ (List.getElem_mem hi)]
  split <;> rfl) (by
  simp only [f96_0]
  rw [if_neg (by omega)])
 rw [h1]
 cases o with
 | inl _ => dsimp only at h2; rw [h2]; rfl
 | inr x => dsimp only at h2; rw [h2.2]; simp; omega
end Go.Proofs.YtcllfkplpdppiaaDoorH
namespace Go.Proofs.YtcllfkplpdppiaaDoorH
open Go
end Go.Proofs.YtcllfkplpdppiaaDoorH
namespace Go.Proofs.YtcllfkplpdppiaaDoorH
open Go
theorem toRs {a : List Relation} (h : a.length ≤ 1048576) : f16 a = some a := by
 unfold f16
 rw [mkl_ok (by omega) (by omega) (by omega)]
 have : iter (f16_0 a) (List.replicate (a.length : Int).toNat ({ Name := [], Arity := 0, KeyLength := 0 } : Relation), 0) = some a := iter_copy (by simp) (fun i hi out ho => by
  simp only [f16_0]
  rw [if_pos (by omega), ix_nat hi, ix_nat ho, Int.toNat_natCast, w64_succ (by omega)]; rfl) (fun out => by
  simp only [f16_0]
  rw [if_neg (by omega)])
 simp only [bS, this]
theorem toFt {a : Fact} (h : a.Values.length ≤ 1048576) : f53 a = some a := by
 unfold f53
 rw [toI h]; rfl
theorem toFs {a : List Fact} (h : a.length ≤ 1048576) (h' : ∀ x ∈ a, x.Values.length ≤ 1048576) : f26 a = some a := by
 unfold f26
 rw [mkl_ok (by omega) (by omega) (by omega)]
 have : iter (f26_0 a) (List.replicate (a.length : Int).toNat ({ Relation := 0, Values := [] } : Fact), 0) = some a := iter_copy (by simp) (fun i hi out ho => by
  simp only [f26_0]
  rw [if_pos (by omega), ix_nat hi, ix_nat ho, Int.toNat_natCast, w64_succ (by omega)]
  simp only [bS, toFt (h' _ (List.getElem_mem hi))]) (fun out => by
  simp only [f26_0]
  rw [if_neg (by omega)])
 simp only [bS, this]
def Fits (d : Database) : Prop := d.Relations.length ≤ 1048576 ∧ d.Facts.length ≤ 1048576 ∧ ∀ x ∈ d.Facts, x.Values.length ≤ 1048576
theorem toDb {a : Database} (h : Fits a) : f8 a = some a := by
 unfold f8
 rw [toRs h.1, bS, toFs h.2.1 h.2.2]; rfl
theorem eqRl {a : Relation} : f44 a a = some true := by unfold f44; simp
theorem eqRs {a : List Relation} (h : a.length ≤ 9223372036854775807) : f19 a a = some true := by
 unfold f19
 rw [if_neg (by simp)]
 rw [iter_ex (List.range a.length) (fun _ => false) false (fun i hi => by
  simp only [f19_0]
  simp only [List.length_range] at hi
  rw [if_pos (by omega), ix_nat hi, w64_succ (by omega)]
  simp only [bS, eqRl]
  simp) (by
  simp only [f19_0]
  rw [if_neg (by simp)])]
 simp
theorem eqFt {a : Fact} (h : a.Values.length ≤ 9223372036854775807) : f64 a a = some true := by
 unfold f64
 rw [if_neg (by simp), eqI h]; simp
theorem eqFs {a : List Fact} (h : a.length ≤ 9223372036854775807) (h' : ∀ x ∈ a, x.Values.length ≤ 9223372036854775807) : f32 a a = some true := by
 unfold f32
 rw [if_neg (by simp)]
 rw [iter_ex (List.range a.length) (fun _ => false) false (fun i hi => by
  simp only [f32_0]
  simp only [List.length_range] at hi
  rw [if_pos (by omega), ix_nat hi, w64_succ (by omega)]
  simp only [bS, eqFt (h' _ (List.getElem_mem hi))]
  simp) (by
  simp only [f32_0]
  rw [if_neg (by simp)])]
 simp
theorem eqDb {a : Database} (h : Fits a) : f11 a a = some true := by
 unfold f11
 rw [eqRs (by have := h.1; omega), bS, if_neg (by simp), eqFs (by have := h.2.1; omega) (fun x hx => by have := h.2.2 x hx; omega)]
 simp
theorem szRl {a : Relation} {n : Int} (h : ok a) (h0 : 0 ≤ n) (h1 : n ≤ 1048576) : f34 a n = some (lft n a.Name.length) := by
 have h := h.1.1
 unfold f34
 rw [w64_of (by omega)]
 unfold lft
 by_cases hc : n < (a.Name.length : Int)
 ·rw [if_pos (by omega), if_neg (by omega)]
 ·rw [if_neg (by omega), if_pos (by omega)]
theorem szFt {a : Fact} {n : Int} (h : ok a) (h0 : 0 ≤ n) (h1 : n ≤ 1048576) : f46 a n = some (lft n a.Values.length) := by
 unfold f46
 rw [szI h.2.1 h0 h1, bS]
 split
 ·rename_i hlt; rw [lft_bad hlt]
 ·rfl
theorem lft_sub {n : Int} {a b : Nat} (h : ¬ n < a) : lft (n - a) b = lft n (a + b) := by
 unfold lft
 by_cases hc2 : ((b : Nat) : Int) ≤ n - a
 ·rw [if_pos hc2, if_pos (by omega)]; omega
 ·rw [if_neg hc2, if_neg (by omega)]
theorem szRs {a : List Relation} {n : Int} (h : ok a) (h0 : 0 ≤ n) (h1 : n ≤ 1048576) : f13 a n = some (lft n (a.length + (a.map (·.Name.length)).sum)) := by
 obtain ⟨h, h'⟩ := h
 unfold f13
 rw [w64_of (by omega)]
 by_cases hc : n < (a.length : Int)
 ·rw [if_pos (by omega)]
  unfold lft
  rw [if_neg (by omega)]
 ·rw [if_neg (by omega)]
  rw [iter_sz (fun x : Relation => x.Name.length) a _ (by omega) (fun i hi b hb hb' => by
   simp only [f13_0]
   rw [if_pos (by omega), ix_nat hi, w64_succ (by omega)]
   simp only [bS, szRl (h' _ (List.getElem_mem hi)) hb (by omega)]
   split <;> rfl) (fun b => by
   simp only [f13_0]
   rw [if_neg (by omega)]), lft_sub hc]
  split
  ·rename_i hlt
   rw [lft_bad hlt]; rfl
  ·rfl
theorem szFs {a : List Fact} {n : Int} (h : ok a) (h0 : 0 ≤ n) (h1 : n ≤ 1048576) : f21 a n = some (lft n (a.length + (a.map (·.Values.length)).sum)) := by
 obtain ⟨h, h'⟩ := h
 unfold f21
 rw [w64_of (by omega)]
 by_cases hc : n < (a.length : Int)
 ·rw [if_pos (by omega)]
  unfold lft
  rw [if_neg (by omega)]
 ·rw [if_neg (by omega)]
  rw [iter_sz (fun x : Fact => x.Values.length) a _ (by omega) (fun i hi b hb hb' => by
   simp only [f21_0]
   rw [if_pos (by omega), ix_nat hi, w64_succ (by omega)]
   simp only [bS, szFt (h' _ (List.getElem_mem hi)) hb (by omega)]
   split <;> rfl) (fun b => by
   simp only [f21_0]
   rw [if_neg (by omega)]), lft_sub hc]
  split
  ·rename_i hlt
   rw [lft_bad hlt]; rfl
  ·rfl
def relSize (l : List Relation) : Nat := l.length + (l.map (·.Name.length)).sum
def factSize (l : List Fact) : Nat := l.length + (l.map (·.Values.length)).sum
def dbSize (d : Database) : Nat := relSize d.Relations + factSize d.Facts
theorem szDb {a : Database} {n : Int} (h : ok a) (h0 : 0 ≤ n) (h1 : n ≤ 1048576) : f5 a n = some (lft n (dbSize a)) := by
 unfold f5
 rw [szRs h.1 h0 h1, bS]
 change (if lft n (relSize a.Relations) < 0 then _ else _) = _
 by_cases hc : lft n (relSize a.Relations) < 0
 ·rw [if_pos hc]
  have := lft_neg.1 hc
  unfold lft dbSize; rw [if_neg (by omega)]
 ·rw [if_neg hc]
  obtain ⟨e1, e2⟩ := lft_pos hc
  change (f21 a.Facts (lft n (relSize a.Relations))).bind _ = _
  rw [e1, szFs h.2 (by omega) (by omega), bS]
  change (if lft (n - relSize a.Relations) (factSize a.Facts) < 0 then _ else _) = _
  change (if lft (n - relSize a.Relations) (factSize a.Facts) < 0 then _ else some (lft (n - relSize a.Relations) (factSize a.Facts))) = _
  rw [lft_sub (by omega)]
  split
  ·rename_i hlt; unfold dbSize; rw [lft_bad hlt]
  ·rfl
theorem db_fits {a : Database} (h : dbSize a ≤ 1048576) : Fits a := by
 unfold dbSize relSize factSize at h
 refine ⟨by omega, by omega, fun x hx => ?_⟩
 have := mem_le_sum (s := fun x : Fact => x.Values.length) hx
 omega
end Go.Proofs.YtcllfkplpdppiaaDoorH
namespace Go.Proofs.YtcllfkplpdppiaaDoorH
open Go
variable {α ρ : Type}
def good (q : α → Bool) (r : α → α → Bool) (l : List α) : Bool := decide (∀ i (h : i < l.length), (q l[i] && (decide (i = 0) || r (l[i - 1]'(by omega)) l[i])) = true)
theorem good_of {q : α → Bool} {r : α → α → Bool} {l : List α} (h : good q r l = true) {i : Nat} (hi : i < l.length) : q l[i] = true ∧ (0 < i → r (l[i - 1]'(by omega)) l[i] = true) := by
 have := of_decide_eq_true h i hi
 simp only [Bool.and_eq_true, Bool.or_eq_true, decide_eq_true_eq] at this
 exact ⟨this.1, fun hp => this.2.resolve_left (by omega)⟩
theorem iter_adj {f : Int → Option (Int ⊕ (Unit ⊕ ρ))} (q : α → Bool) (r : α → α → Bool) (L : List α) (c : ρ)
  (hs : ∀ (i : Nat) (h : i < L.length), f (i : Int) = some (if (q L[i] && (decide (i = 0) || r (L[i - 1]'(by omega)) L[i])) = true then .inl ((i + 1 : Nat) : Int) else .inr (.inr c)))
  (he : f (L.length : Int) = some (.inr (.inl ()))) : iter f 0 = some (if good q r L = true then .inl () else .inr c) := by
 obtain ⟨o, h1, h2⟩ := iter_up (f := f) L.length (fun i s => s = (i : Int) ∧ ∀ j (h : j < L.length), j < i → (q L[j] && (decide (j = 0) || r (L[j - 1]'(by omega)) L[j])) = true)
  (fun o => o = if good q r L = true then .inl () else .inr c) (fun i s hi ⟨h, hp⟩ => by
   subst h
   refine ⟨_, hs i hi, ?_⟩
   by_cases hc : (q L[i] && (decide (i = 0) || r (L[i - 1]'(by omega)) L[i])) = true
   ·rw [if_pos hc]
    refine ⟨rfl, fun j hj hlt => ?_⟩
    by_cases e : j = i
    ·subst e; exact hc
    ·exact hp j hj (by omega)
   ·rw [if_neg hc]
    dsimp only
    rw [if_neg]
    intro hg
    exact hc (of_decide_eq_true hg i hi)) (fun s ⟨h, hp⟩ => by
   subst h
   refine ⟨_, he, ?_⟩
   rw [if_pos]
   exact decide_eq_true fun i hi => hp i hi hi) 0 ⟨rfl, fun j _ h => by omega⟩
 rw [h1, h2]
def btw (x low high : Int) : Bool := decide (low ≤ x) && decide (x ≤ high)
theorem specIn {x a b : Int} : f67 x a b = some (btw x a b) := by
 unfold f67 btw
 by_cases h : a ≤ x
 ·rw [if_pos (show x ≥ a from h)]; simp [h]
 ·rw [if_neg (show ¬ x ≥ a from h)]; simp [h]
theorem impIn {x a b : Int} : f73 x a b = some (btw x a b) := by
 unfold f73 btw
 by_cases h : a ≤ x
 ·rw [if_pos h]; simp [h]
 ·rw [if_neg h]; simp [h]
def vRel (r : Relation) : Bool := decide (r.Name.length = 1) && (decide (97 ≤ (r.Name.getD 0 0).toNat) && (decide ((r.Name.getD 0 0).toNat ≤ 122) && (btw r.Arity 1 3 && btw r.KeyLength 0 r.Arity)))
theorem specRel {r : Relation} : f83 r = some (vRel r) := by
 unfold f83 vRel
 by_cases h1 : r.Name.length = 1
 ·rw [if_pos (by omega)]
  have e : ix r.Name 0 = some (r.Name.getD 0 0) := by rw [ix_of (by omega)]; simp [List.getElem?_eq_getElem (show 0 < r.Name.length by omega)]
  rw [e, bS]
  generalize r.Name.getD 0 0 = c
  by_cases h2 : 97 ≤ c.toNat
  ·rw [if_pos (by omega)]
   by_cases h3 : c.toNat ≤ 122
   ·rw [if_pos (by omega), specIn, bS]
    cases hb : btw r.Arity 1 3
    ·simp
    ·simp [specIn, h1, h2, h3]
   ·rw [if_neg (by omega)]; simp [h3]
  ·rw [if_neg (by omega)]; simp [h2]
 ·rw [if_neg (by omega)]; simp [h1]
theorem impRel {r : Relation} : f84 r = some (vRel r) := by
 unfold f84 vRel
 by_cases h1 : r.Name.length = 1
 ·rw [if_pos (by omega)]
  have e : ix r.Name 0 = some (r.Name.getD 0 0) := by rw [ix_of (by omega)]; simp [List.getElem?_eq_getElem (show 0 < r.Name.length by omega)]
  rw [e, bS]
  generalize r.Name.getD 0 0 = c
  by_cases h2 : 97 ≤ c.toNat
  ·rw [if_pos (by omega)]
   by_cases h3 : c.toNat ≤ 122
   ·rw [if_pos (by omega), impIn, bS]
    cases hb : btw r.Arity 1 3
    ·simp
    ·simp [impIn, h1, h2, h3]
   ·rw [if_neg (by omega)]; simp [h3]
  ·rw [if_neg (by omega)]; simp [h2]
 ·rw [if_neg (by omega)]; simp [h1]
def vRels (l : List Relation) : Bool := good vRel (fun a b => Op.bytesLess a.Name b.Name) l && decide (l.length ≤ 4)
theorem specRels {l : List Relation} (h : Big l.length) : f50 l = some (vRels l) := by
 unfold f50 vRels
 rw [iter_adj vRel (fun a b => Op.bytesLess a.Name b.Name) l false (fun i hi => by
  simp only [f50_0]
  rw [if_pos (by omega), ix_nat hi, w64_succ (by omega)]
  simp only [bS, specRel]
  cases vRel l[i]
  ·simp
  ·by_cases h0 : i = 0
   ·subst h0; simp
   ·have e : ix l (w64 ((i : Int) - 1)) = some (l[i - 1]'(by omega)) := by rw [w64_of (by omega), show (i : Int) - 1 = ((i - 1 : Nat) : Int) by omega, ix_nat (by omega)]
    simp only [e]
    have : 0 < i := by omega
    cases hb : Op.bytesLess (l[i - 1]'(by omega)).Name l[i].Name <;> simp [h0, this, hb]) (by
  simp only [f50_0]
  rw [if_neg (by omega)])]
 cases good vRel (fun a b => Op.bytesLess a.Name b.Name) l
 ·simp
 ·simp; omega
theorem impRels {l : List Relation} (h : Big l.length) : f55 l = some (vRels l) := by
 unfold f55 vRels
 rw [iter_adj vRel (fun a b => Op.bytesLess a.Name b.Name) l false (fun i hi => by
  simp only [f55_0]
  rw [if_pos (by omega), ix_nat hi, w64_succ (by omega)]
  simp only [bS, impRel]
  cases vRel l[i]
  ·simp
  ·by_cases h0 : i = 0
   ·subst h0; simp
   ·have e : ix l (w64 ((i : Int) - 1)) = some (l[i - 1]'(by omega)) := by rw [w64_of (by omega), show (i : Int) - 1 = ((i - 1 : Nat) : Int) by omega, ix_nat (by omega)]
    simp only [e]
    have : 0 < i := by omega
    cases hb : Op.bytesLess (l[i - 1]'(by omega)).Name l[i].Name <;> simp [h0, this, hb]) (by
  simp only [f55_0]
  rw [if_neg (by omega)])]
 cases good vRel (fun a b => Op.bytesLess a.Name b.Name) l
 ·simp
 ·simp; omega
def arity (l : List Relation) (r : Int) : Int := (l[r.toNat]?.map (·.Arity)).getD 0
def keyLen (l : List Relation) (r : Int) : Int := (l[r.toNat]?.map (·.KeyLength)).getD 0
def vVals (l : List Int) : Bool := l.all fun v => btw v 0 9
def vFact (l : List Relation) (f : Fact) : Bool := btw f.Relation 0 (l.length - 1) && (decide ((f.Values.length : Int) = arity l f.Relation) && vVals f.Values)
theorem ix_rel {l : List Relation} {r : Int} (h : btw r 0 (l.length - 1) = true) : ∃ x, ix l r = some x ∧ x ∈ l ∧ x.Arity = arity l r ∧ x.KeyLength = keyLen l r := by
 unfold btw at h; simp only [Bool.and_eq_true, decide_eq_true_eq] at h
 have e : l[r.toNat]? = some (l[r.toNat]'(by omega)) := List.getElem?_eq_getElem _
 refine ⟨l[r.toNat]'(by omega), ?_, List.getElem_mem _, ?_, ?_⟩
 ·rw [ix_of h.1, e]
 ·unfold arity; rw [e]; rfl
 ·unfold keyLen; rw [e]; rfl
theorem specFact {l : List Relation} {f : Fact} (h : Big l.length) (hf : Big f.Values.length) : f48 l f = some (vRels l && vFact l f) := by
 unfold f48 vFact
 rw [specRels h, bS]
 cases vRels l
 ·simp
 ·rw [w64_of (by omega), specIn]
  cases hb : btw f.Relation 0 (l.length - 1)
  ·simp
  ·obtain ⟨x, h1, _, h2, _⟩ := ix_rel hb
   rw [h1]
   by_cases ha : (f.Values.length : Int) = arity l f.Relation
   ·rw [iter_ex f.Values (fun v => !btw v 0 9) false (fun i hi => by
     simp only [f48_0]
     rw [if_pos (by omega), ix_nat hi, w64_succ (by omega)]
     simp only [bS, specIn]
     cases btw f.Values[i] 0 9 <;> simp) (by
     simp only [f48_0]
     rw [if_neg (by omega)])]
    unfold vVals
    rw [any_not]
    cases f.Values.all (fun v => btw v 0 9) <;> simp [h2, ha]
   ·simp [h2, ha]
theorem impVals {l : List Int} (h : Big l.length) : f85 l = some (vVals l) := by
 unfold f85
 rw [indexI (p := fun v => !btw v 0 9) h (fun v _ => by
  unfold f101
  rw [impIn]; cases btw v 0 9 <;> simp)]
 unfold vVals
 rw [any_not]
 cases l.all (fun v => btw v 0 9) <;> simp
theorem impFact {l : List Relation} {f : Fact} (h : Big l.length) (hf : Big f.Values.length) : f56 l f = some (vFact l f) := by
 unfold f56 vFact
 rw [w64_of (by omega), impIn]
 cases hb : btw f.Relation 0 (l.length - 1)
 ·simp
 ·obtain ⟨x, h1, _, h2, _⟩ := ix_rel hb
  rw [h1]
  by_cases ha : (f.Values.length : Int) = arity l f.Relation
  ·simp [h2, ha, impVals hf]
  ·simp [h2, ha]
def cmpL : List Int → List Int → Int
 | [], [] => 0
 | [], _ :: _ => -1
 | _ :: _, [] => 1
 | a :: s, b :: t => if a < b then -1 else if a > b then 1 else cmpL s t
theorem cmpL_step {a b : List Int} {i : Nat} (ha : i < a.length) (hb : i < b.length) : cmpL (a.drop i) (b.drop i) = if a[i] < b[i] then -1 else if a[i] > b[i] then 1 else cmpL (a.drop (i + 1)) (b.drop (i + 1)) := by
 rw [List.drop_eq_getElem_cons ha, List.drop_eq_getElem_cons hb, cmpL]
theorem cmpL_end {a b : List Int} {i : Nat} (h : a.length ≤ i ∨ b.length ≤ i) (hi : i ≤ a.length ∧ i ≤ b.length) : cmpL (a.drop i) (b.drop i) = if a.length < b.length then -1 else if a.length > b.length then 1 else 0 := by
 rcases h with h | h
 ·rw [List.drop_of_length_le h]
  by_cases e : b.length ≤ i
  ·rw [List.drop_of_length_le e, cmpL, if_neg (by omega), if_neg (by omega)]
  ·rw [List.drop_eq_getElem_cons (by omega : i < b.length), cmpL, if_pos (by omega)]
 ·rw [List.drop_of_length_le h]
  by_cases e : a.length ≤ i
  ·rw [List.drop_of_length_le e, cmpL, if_neg (by omega), if_neg (by omega)]
  ·rw [List.drop_eq_getElem_cons (by omega : i < a.length), cmpL, if_neg (by omega), if_pos (by omega)]
theorem specInts {a b : List Int} (ha : Big a.length) (hb : Big b.length) : f82 a b = some (cmpL a b) := by
 unfold f82
 refine Ens.eq (Q := fun r => r = cmpL a b) (Ens.bind (Q := fun o => match o with | .inl _ => (if a.length < b.length then -1 else if a.length > b.length then 1 else 0) = cmpL a b | .inr x => x = cmpL a b) ?_ fun o ho => ?_) _ (fun _ h => h)
 ·refine iter_up (f := f82_0 a b) (min a.length b.length) (fun i s => s = (i : Int) ∧ cmpL (a.drop i) (b.drop i) = cmpL a b) _ (fun i s hi ⟨h, hp⟩ => ?_) (fun s ⟨h, hp⟩ => ?_) 0 ⟨rfl, rfl⟩
  ·subst h
   have h1 : i < a.length := by omega
   have h2 : i < b.length := by omega
   simp only [f82_0]
   rw [if_pos (by omega), ix_nat h1, ix_nat h2, w64_succ (by omega)]
   rw [cmpL_step h1 h2] at hp
   simp only [bS, show (i : Int) < b.length by omega, decide_true, if_true]
   by_cases c1 : a[i] < b[i]
   ·rw [if_pos c1] at hp ⊢
    exact ⟨_, rfl, hp⟩
   ·rw [if_neg c1] at hp ⊢
    by_cases c2 : a[i] > b[i]
    ·rw [if_pos c2] at hp ⊢; exact ⟨_, rfl, hp⟩
    ·rw [if_neg c2] at hp ⊢; exact ⟨_, rfl, rfl, hp⟩
  ·subst h
   rw [cmpL_end (by omega) (by omega)] at hp
   simp only [f82_0]
   by_cases c : ((min a.length b.length : Nat) : Int) < a.length
   ·rw [if_pos c]
    simp only [bS, show ¬ ((min a.length b.length : Nat) : Int) < b.length by omega, decide_false]
    exact ⟨_, rfl, hp⟩
   ·rw [if_neg c]; exact ⟨_, rfl, hp⟩
 ·cases o with
  | inl _ =>
   dsimp only at ho ⊢
   by_cases c1 : a.length < b.length
   ·rw [if_pos c1] at ho; rw [if_pos (by omega)]; exact Ens.of ho
   ·rw [if_neg c1] at ho; rw [if_neg (by omega)]
    by_cases c2 : a.length > b.length
    ·rw [if_pos c2] at ho; rw [if_pos (by omega)]; exact Ens.of ho
    ·rw [if_neg c2] at ho; rw [if_neg (by omega)]; exact Ens.of ho
  | inr x => exact Ens.of ho
theorem cmpInt {a b : Int} : f102 a b = some (if a < b then -1 else if a > b then 1 else 0) := by
 unfold f102 f111
 simp only [ne_eq, not_true_eq_false, decide_false, bS, Bool.false_eq_true, if_false]
 split
 ·rfl
 ·split <;> rfl
theorem impInts {a b : List Int} (ha : Big a.length) (hb : Big b.length) : f87 a b = some (cmpL a b) := by
 unfold f87
 refine Ens.eq (Q := fun r => r = cmpL a b) (Ens.bind (Q := fun o => match o with | .inl _ => (if a.length < b.length then -1 else 0) = cmpL a b | .inr x => x = cmpL a b) ?_ fun o ho => ?_) _ (fun _ h => h)
 ·refine iter_up (f := f87_0 a b) a.length (fun i s => s = (i : Int) ∧ i ≤ b.length ∧ cmpL (a.drop i) (b.drop i) = cmpL a b) _ (fun i s hi ⟨h, hl, hp⟩ => ?_) (fun s ⟨h, hl, hp⟩ => ?_) 0 ⟨rfl, by omega, rfl⟩
  ·subst h
   simp only [f87_0]
   rw [if_pos (by omega), ix_nat hi, w64_succ (by omega)]
   by_cases h2 : i < b.length
   ·rw [bS, if_neg (by omega), ix_nat h2]
    rw [cmpL_step hi h2] at hp
    simp only [bS, cmpInt]
    by_cases c1 : a[i] < b[i]
    ·rw [if_pos c1] at hp ⊢
     rw [if_pos (by omega)]; exact ⟨_, rfl, hp⟩
    ·rw [if_neg c1] at hp ⊢
     by_cases c2 : a[i] > b[i]
     ·rw [if_pos c2] at hp ⊢; rw [if_pos (by omega)]; exact ⟨_, rfl, hp⟩
     ·rw [if_neg c2] at hp ⊢; rw [if_neg (by omega)]; exact ⟨_, rfl, rfl, by omega, hp⟩
   ·rw [bS, if_pos (by omega)]
    rw [cmpL_end (by omega) (by omega), if_neg (by omega), if_pos (by omega)] at hp
    exact ⟨_, rfl, hp⟩
  ·subst h
   simp only [f87_0]
   rw [if_neg (by omega)]
   rw [cmpL_end (by omega) (by omega)] at hp
   refine ⟨_, rfl, ?_⟩
   dsimp only
   rw [← hp]
   by_cases c1 : a.length < b.length
   ·rw [if_pos c1, if_pos c1]
   ·rw [if_neg c1, if_neg c1, if_neg (by omega)]
 ·cases o with
  | inl _ =>
   dsimp only at ho ⊢
   by_cases c1 : a.length < b.length
   ·rw [if_pos c1] at ho; rw [if_pos (by omega)]; exact Ens.of ho
   ·rw [if_neg c1] at ho; rw [if_neg (by omega)]; exact Ens.of ho
  | inr x => exact Ens.of ho
def cmpF (a b : Fact) : Int := if a.Relation < b.Relation then -1 else if a.Relation > b.Relation then 1 else cmpL a.Values b.Values
theorem specCmp {a b : Fact} (ha : Big a.Values.length) (hb : Big b.Values.length) : f49 a b = some (cmpF a b) := by
 unfold f49 cmpF
 rw [specInts ha hb]
 split
 ·rfl
 ·split <;> rfl
theorem impCmp {a b : Fact} (ha : Big a.Values.length) (hb : Big b.Values.length) : f57 a b = some (cmpF a b) := by
 unfold f57 f86 cmpF
 rw [impInts ha hb]
 by_cases c1 : a.Relation < b.Relation
 ·rw [if_pos (by omega), if_pos c1, if_pos c1]; rfl
 ·rw [if_neg c1, if_neg c1]
  by_cases c2 : a.Relation > b.Relation
  ·rw [if_pos (by omega), if_pos c2, if_pos c2]; rfl
  ·rw [if_neg (by omega), if_neg c2]; rfl
def Room (d : Database) : Prop := Big d.Relations.length ∧ Big d.Facts.length ∧ ∀ x ∈ d.Facts, Big x.Values.length
theorem fits_room {d : Database} (h : Fits d) : Room d := ⟨by have := h.1; omega, by have := h.2.1; omega, fun x hx => by have := h.2.2 x hx; omega⟩
def gFacts (d : Database) : Bool := good (vFact d.Relations) (fun a b => decide (cmpF a b < 0)) d.Facts
def vDb (d : Database) : Bool := vRels d.Relations && (decide (d.Facts.length ≤ 14) && gFacts d)
theorem good_congr {q q' : α → Bool} {r : α → α → Bool} {l : List α} (h : ∀ a ∈ l, q a = q' a) : good q r l = good q' r l := by
 unfold good
 congr 1
 apply propext
 constructor
 ·intro g i hi; rw [← h _ (List.getElem_mem hi)]; exact g i hi
 ·intro g i hi; rw [h _ (List.getElem_mem hi)]; exact g i hi
theorem specDb {d : Database} (h : Room d) : f23 d = some (vDb d) := by
 obtain ⟨h1, h2, h3⟩ := h
 unfold f23
 rw [iter_adj (fun f => vRels d.Relations && vFact d.Relations f) (fun a b => decide (cmpF a b < 0)) d.Facts false (fun i hi => by
  simp only [f23_0]
  rw [if_pos (by omega), ix_nat hi, w64_succ (by omega)]
  simp only [bS, specFact h1 (h3 _ (List.getElem_mem hi))]
  cases (vRels d.Relations && vFact d.Relations d.Facts[i])
  ·simp
  ·by_cases h0 : i = 0
   ·subst h0; simp
   ·have e : ix d.Facts (w64 ((i : Int) - 1)) = some (d.Facts[i - 1]'(by omega)) := by rw [w64_of (by omega), show (i : Int) - 1 = ((i - 1 : Nat) : Int) by omega, ix_nat (by omega)]
    simp only [e, bS, specCmp (h3 _ (List.getElem_mem (show i - 1 < d.Facts.length by omega))) (h3 _ (List.getElem_mem hi))]
    have : 0 < i := by omega
    by_cases hb : cmpF (d.Facts[i - 1]'(by omega)) d.Facts[i] < 0
    ·simp [h0, this, hb, Int.not_le.2 hb]
    ·simp [h0, this, hb, show 0 ≤ cmpF (d.Facts[i - 1]'(by omega)) d.Facts[i] by omega]) (by
  simp only [f23_0]
  rw [if_neg (by omega)])]
 unfold vDb
 rw [specRels h1]
 cases hv : vRels d.Relations
 ·split <;> simp
 ·have e : good (fun f => true && vFact d.Relations f) (fun a b => decide (cmpF a b < 0)) d.Facts = gFacts d := good_congr fun a _ => Bool.true_and _
  rw [e]
  cases gFacts d
  ·simp
  ·simp; omega
theorem impDb {d : Database} (h : Room d) : f28 d = some (vDb d) := by
 obtain ⟨h1, h2, h3⟩ := h
 unfold f28 vDb
 rw [impRels h1, bS]
 cases vRels d.Relations
 ·simp
 ·by_cases hn : d.Facts.length ≤ 14
  ·rw [iter_adj (vFact d.Relations) (fun a b => decide (cmpF a b < 0)) d.Facts false (fun i hi => by
    simp only [f28_0]
    rw [if_pos (by omega), ix_nat hi, w64_succ (by omega)]
    simp only [bS, impFact h1 (h3 _ (List.getElem_mem hi))]
    cases vFact d.Relations d.Facts[i]
    ·simp
    ·by_cases h0 : i = 0
     ·subst h0; simp
     ·have e : ix d.Facts (w64 ((i : Int) - 1)) = some (d.Facts[i - 1]'(by omega)) := by rw [w64_of (by omega), show (i : Int) - 1 = ((i - 1 : Nat) : Int) by omega, ix_nat (by omega)]
      simp only [e, bS, impCmp (h3 _ (List.getElem_mem (show i - 1 < d.Facts.length by omega))) (h3 _ (List.getElem_mem hi))]
      have : 0 < i := by omega
      by_cases hb : cmpF (d.Facts[i - 1]'(by omega)) d.Facts[i] < 0
      ·simp [h0, this, hb, Int.not_le.2 hb]
      ·simp [h0, this, hb, show 0 ≤ cmpF (d.Facts[i - 1]'(by omega)) d.Facts[i] by omega]) (by
    simp only [f28_0]
    rw [if_neg (by omega)])]
   change _ = some (true && (decide (d.Facts.length ≤ 14) && good (vFact d.Relations) (fun a b => decide (cmpF a b < 0)) d.Facts))
   cases good (vFact d.Relations) (fun a b => decide (cmpF a b < 0)) d.Facts
   ·simp
   ·simp [hn]; omega
  ·simp [hn]; omega
def asc (n : Int) (l : List Int) : Bool := good (fun v => btw v 0 (n - 1)) (fun a b => decide (a < b)) l
theorem specSet {d : Database} {l : List Int} (hd : Big d.Facts.length) (h : Big l.length) : f51 d l = some (asc d.Facts.length l) := by
 unfold f51
 rw [iter_adj (fun v => btw v 0 ((d.Facts.length : Int) - 1)) (fun a b => decide (a < b)) l false (fun i hi => by
  simp only [f51_0]
  rw [if_pos (by omega), ix_nat hi, w64_succ (by omega), w64_of (n := (d.Facts.length : Int) - 1) (by omega)]
  simp only [bS, specIn]
  cases btw l[i] 0 ((d.Facts.length : Int) - 1)
  ·simp
  ·by_cases h0 : i = 0
   ·subst h0; simp
   ·have e : ix l (w64 ((i : Int) - 1)) = some (l[i - 1]'(by omega)) := by rw [w64_of (by omega), show (i : Int) - 1 = ((i - 1 : Nat) : Int) by omega, ix_nat (by omega)]
    simp only [e]
    have : 0 < i := by omega
    by_cases hb : l[i - 1]'(by omega) < l[i]
    ·simp [h0, this, hb, Int.not_le.2 hb]
    ·simp [h0, this, hb, Int.not_lt.1 hb]) (by
  simp only [f51_0]
  rw [if_neg (by omega)])]
 unfold asc
 cases good (fun v => btw v 0 ((d.Facts.length : Int) - 1)) (fun a b => decide (a < b)) l <;> simp
theorem impSet {l : List Int} {n : Nat} (hd : Big n) (h : Big l.length) : f88 l n = some (asc n l) := by
 unfold f88
 rw [iter_adj (fun v => btw v 0 ((n : Int) - 1)) (fun a b => decide (a < b)) l false (fun i hi => by
  simp only [f88_0]
  rw [if_pos (by omega), ix_nat hi, w64_succ (by omega), w64_of (n := (n : Int) - 1) (by omega)]
  simp only [bS, impIn]
  cases btw l[i] 0 ((n : Int) - 1)
  ·simp
  ·by_cases h0 : i = 0
   ·subst h0; simp
   ·have e : ix l (w64 ((i : Int) - 1)) = some (l[i - 1]'(by omega)) := by rw [w64_of (by omega), show (i : Int) - 1 = ((i - 1 : Nat) : Int) by omega, ix_nat (by omega)]
    simp only [e]
    have : 0 < i := by omega
    by_cases hb : l[i - 1]'(by omega) < l[i]
    ·simp [h0, this, hb, Int.not_le.2 hb]
    ·simp [h0, this, hb, Int.not_lt.1 hb]) (by
  simp only [f88_0]
  rw [if_neg (by omega)])]
 unfold asc
 cases good (fun v => btw v 0 ((n : Int) - 1)) (fun a b => decide (a < b)) l <;> simp
end Go.Proofs.YtcllfkplpdppiaaDoorH
namespace Go.Proofs.YtcllfkplpdppiaaDoorH
open Go
end Go.Proofs.YtcllfkplpdppiaaDoorH
namespace Go.Proofs.YtcllfkplpdppiaaDoorH
open Go
end Go.Proofs.YtcllfkplpdppiaaDoorH
namespace Go.Proofs.YtcllfkplpdppiaaDoorH
open Go
theorem lft_lft {n : Int} {a b : Nat} (h : ¬ lft n a < 0) : lft (lft n a) b = lft n (a + b) := by
 obtain ⟨e, h'⟩ := lft_pos h
 rw [e, lft_sub (by omega)]
end Go.Proofs.YtcllfkplpdppiaaDoorH
namespace Go.Proofs.YtcllfkplpdppiaaDoorH
open Go
def dgs (n : Int) : List UInt8 := if n = 0 then [] else Lib.decDigits n.natAbs
theorem dgs_step {n : Int} (h : n ≠ 0) : dgs n = dgs (n.tdiv 10) ++ [UInt8.ofNat (48 + n.natAbs % 10)] := by
 unfold dgs
 have e : (n.tdiv 10).natAbs = n.natAbs / 10 := by rw [Int.natAbs_tdiv]; rfl
 rw [if_neg h, Lib.decDigits]
 by_cases c : n.natAbs < 10
 ·have e0 : n.tdiv 10 = 0 := Int.natAbs_eq_zero.1 (by rw [e]; omega)
  rw [dif_pos c, if_pos e0, List.nil_append, Nat.mod_eq_of_lt c]
 ·have e0 : ¬ n.tdiv 10 = 0 := fun h0 => by rw [h0] at e; simp at e; omega
  rw [dif_neg c, if_neg e0, e]
theorem fmt_loop : ∀ (m : Nat) (n : Int) (out : List UInt8), (-9223372036854775808 ≤ n ∧ n ≤ 9223372036854775807) → n.natAbs < 10 ^ m → out.length + m ≤ 100 → iter f25_0 (n, out) = some (dgs n ++ out) := by
 intro m
 induction m with
 | zero =>
  intro n out _ hn _
  have : n = 0 := by simp at hn; omega
  subst this
  rw [iter_eq]
  simp [f25_0, dgs]
 | succ m ih =>
  intro n out hm hn ho
  by_cases h : n = 0
  ·subst h
   rw [iter_eq]
   simp [f25_0, dgs]
  ·rw [iter_eq]
   simp only [f25_0]
   rw [if_pos h]
   have e1 : (n.tmod 10).natAbs = n.natAbs % 10 := by rw [Int.natAbs_tmod]; rfl
   have e2 : (n.tdiv 10).natAbs = n.natAbs / 10 := by rw [Int.natAbs_tdiv]; rfl
   have hd : (if n.tmod 10 < 0 then some (w64 (-(n.tmod 10))) else some (n.tmod 10) : Option Int) = some ((n.natAbs % 10 : Nat) : Int) := by
    split
    ·rw [w64_of (by omega)]; congr 1; omega
    ·congr 1; omega
   have hlt : n.natAbs % 10 < 10 := Nat.mod_lt _ (by decide)
   have hb : ∀ d : Nat, d < 10 → UInt8.ofNat (w8 (w64 (48 + (d : Int)))).toNat = UInt8.ofNat (48 + d) := by
    intro d hd
    rw [w64_of (by omega)]
    have : d = 0 ∨ d = 1 ∨ d = 2 ∨ d = 3 ∨ d = 4 ∨ d = 5 ∨ d = 6 ∨ d = 7 ∨ d = 8 ∨ d = 9 := by omega
    rcases this with rfl | rfl | rfl | rfl | rfl | rfl | rfl | rfl | rfl | rfl <;> rfl
   rw [hd, bS, hb _ hlt, cat_ok (by simp; omega), bS]
   rw [w64_of (by omega)]
   dsimp only
   rw [ih _ _ (by omega) (by rw [e2]; rw [Nat.pow_succ] at hn; omega) (by simp; omega), dgs_step h, List.append_assoc]
theorem fmtI {n : Int} (h0 : -9223372036854775808 ≤ n) (h1 : n ≤ 9223372036854775807) : f25 n = some (Lib.itoa n) := by
 unfold f25 Lib.itoa
 by_cases h : n = 0
 ·subst h
  rw [if_pos rfl, if_neg (by decide), Lib.decDigits]; rfl
 ·have hl : (dgs n).length ≤ 40 := by
   unfold dgs
   rw [if_neg h, Lib.decDigits_length]
   have := Lib.nDigits_le20 n.natAbs (by omega)
   omega
  rw [if_neg h, fmt_loop 20 n [] ⟨h0, h1⟩ (by omega) (by simp), bS, List.append_nil]
  by_cases c : n < 0
  ·rw [if_pos c, if_pos c, cat_ok (by simp; omega), bS]
   unfold dgs
   rw [if_neg h]; rfl
  ·rw [if_neg c, if_neg c]
   unfold dgs
   rw [if_neg h, show n.natAbs = n.toNat by omega]
theorem itoI {n : Int} (h0 : -9223372036854775808 ≤ n) (h1 : n ≤ 9223372036854775807) : f30 n = some (Lib.itoa n) := by
 unfold f30 f60 itoaN
 rw [if_pos ⟨h0, h1⟩]; rfl
theorem join_snoc (L : List (List UInt8)) (x sep : List UInt8) : Lib.join (L ++ [x]) sep = if L = [] then x else Lib.join L sep ++ sep ++ x := by
 cases L with
 | nil => rw [if_pos rfl, List.nil_append, Lib.join_one]
 | cons a r =>
  rw [if_neg (by simp), List.cons_append, Lib.join_cons, Lib.join_cons]
  simp [Lib.joinTail]
theorem join_flat (L : List (List UInt8)) : Lib.join L [] = L.flatten := by
 cases L with
 | nil => rfl
 | cons a r => rw [Lib.join_cons]; simp [Lib.joinTail]
theorem flatK {K : Nat} : ∀ {L : List (List UInt8)}, (∀ x ∈ L, x.length ≤ K) → L.flatten.length ≤ K * L.length
 | [], _ => by simp
 | x :: L, h => by
  have h1 := h x (by simp)
  have h2 := flatK (L := L) fun y hy => h y (by simp [hy])
  simp only [List.flatten_cons, List.length_append, List.length_cons, Nat.mul_succ]
  omega
theorem join_len {K : Nat} {sep : List UInt8} {L : List (List UInt8)} (h : ∀ x ∈ L, x.length ≤ K) : (Lib.join L sep).length ≤ (K + sep.length) * L.length := by
 cases L with
 | nil => simp [Lib.join_nil]
 | cons a r =>
  have h1 := h a (by simp)
  have h2 : (Lib.joinTail sep r).length ≤ (K + sep.length) * r.length := by
   unfold Lib.joinTail
   have := flatK (K := K + sep.length) (L := r.map (sep ++ ·)) (fun x hx => by
    obtain ⟨y, hy, rfl⟩ := List.mem_map.1 hx
    have := h y (by simp [hy])
    simp; omega)
   simpa using this
  rw [Lib.join_cons, List.length_append, List.length_cons, Nat.mul_succ]
  omega
theorem joinI {xs : List (List UInt8)} {sep : List UInt8} (h1 : xs.length ≤ 140737488355328) (h2 : (Lib.join xs sep).length ≤ 140737488355328) : f31 xs sep = some (Lib.join xs sep) := by
 unfold f31 joinN
 rw [if_pos ⟨h1, h2⟩]
theorem iter_words {f : List UInt8 × Int → Option ((List UInt8 × Int) ⊕ List UInt8)} (L : List (List UInt8)) (K : Nat) (hK : ∀ x ∈ L, x.length ≤ K)
  (hs : ∀ (i : Nat) (h : i < L.length) (s : List UInt8), s.length ≤ (K + 1) * i → f (s, (i : Int)) = some (.inl ((if i = 0 then s else s ++ [32]) ++ L[i], ((i + 1 : Nat) : Int)))) (he : ∀ s, f (s, (L.length : Int)) = some (.inr s)) :
  iter f ([], 0) = some (Lib.join L [32]) := by
 have := iter_steps (f := f) (fun i => (Lib.join (L.take i) [32], (i : Int))) L.length (Lib.join L [32]) (fun i hi => by
  rw [hs i hi _ (by
   have := join_len (sep := [32]) (L := L.take i) fun x hx => hK x (List.mem_of_mem_take hx)
   rw [List.length_take, show min i L.length = i by omega] at this
   simpa using this), take_succ' hi, join_snoc]
  congr 3
  by_cases c : i = 0
  ·subst c; simp [Lib.join_nil]
  ·rw [if_neg c, if_neg (fun e => by
    have := congrArg List.length e
    rw [List.length_take, List.length_nil] at this; omega)]) (by
  rw [he, List.take_of_length_le (Nat.le_refl _)])
 simpa [Lib.join_nil] using this
def bar (k : Nat) (L : List (List UInt8)) : List UInt8 := (L.take k).flatten ++ if k < L.length then 124 :: (L.drop k).flatten else []
theorem bar_nil {k : Nat} : bar k [] = [] := by simp [bar]
theorem bar_snoc {k : Nat} {L : List (List UInt8)} {x : List UInt8} : bar k (L ++ [x]) = (if L.length = k then bar k L ++ [124] else bar k L) ++ x := by
 unfold bar
 rw [List.length_append, List.length_singleton]
 rcases Nat.lt_trichotomy L.length k with h | h | h
 ·rw [if_neg (by omega), if_neg (by omega), if_neg (by omega), List.take_of_length_le (by simp; omega), List.take_of_length_le (by omega)]
  simp
 ·rw [if_pos (by omega), if_pos h, if_neg (by omega), List.take_of_length_le (l := L) (by omega), ← h]
  simp
 ·rw [if_pos (by omega), if_neg (by omega), if_pos h, List.take_append_of_le_length (by omega), List.drop_append_of_le_length (by omega)]
  simp
theorem bar_len {k K : Nat} {L : List (List UInt8)} (h : ∀ x ∈ L, x.length ≤ K) : (bar k L).length ≤ K * L.length + 1 := by
 unfold bar
 have h1 := flatK (L := L.take k) fun x hx => h x (List.mem_of_mem_take hx)
 have h2 := flatK (L := L.drop k) fun x hx => h x (List.mem_of_mem_drop hx)
 rw [List.length_take] at h1
 rw [List.length_drop] at h2
 have e : min k L.length + (L.length - k) = L.length := by omega
 have e2 : K * min k L.length + K * (L.length - k) = K * L.length := by rw [← Nat.mul_add, e]
 rw [List.length_append]
 split
 ·rw [List.length_cons]; omega
 ·rw [List.length_nil]; omega
theorem iter_bar {f : List UInt8 × Int → Option ((List UInt8 × Int) ⊕ List UInt8)} (s0 : List UInt8) (k : Int) (L : List (List UInt8)) (K : Nat) (hk : 0 ≤ k) (hK : ∀ x ∈ L, x.length ≤ K)
  (hs : ∀ (i : Nat) (h : i < L.length) (s : List UInt8), s.length ≤ s0.length + (K * i + 1) → f (s, (i : Int)) = some (.inl ((if (i : Int) = k then s ++ [124] else s) ++ L[i], ((i + 1 : Nat) : Int)))) (he : ∀ s, f (s, (L.length : Int)) = some (.inr s)) :
  iter f (s0, 0) = some (s0 ++ bar k.toNat L) := by
 have := iter_steps (f := f) (fun i => (s0 ++ bar k.toNat (L.take i), (i : Int))) L.length (s0 ++ bar k.toNat L) (fun i hi => by
  have hl : (L.take i).length = i := by rw [List.length_take]; omega
  rw [hs i hi _ (by
   have := bar_len (k := k.toNat) (L := L.take i) fun x hx => hK x (List.mem_of_mem_take hx)
   rw [hl] at this
   rw [List.length_append]; omega), take_succ' hi, bar_snoc, hl]
  congr 3
  by_cases c : (i : Int) = k
  ·rw [if_pos c, if_pos (by omega)]; simp
  ·rw [if_neg c, if_neg (by omega)]; simp) (by
  rw [he, List.take_of_length_le (Nat.le_refl _)])
 simpa [bar_nil] using this
theorem barI {parts : List (List UInt8)} {k : Int} {K : Nat} (h0 : 0 ≤ k) (h1 : k ≤ parts.length) (hl : parts.length ≤ 1048576) (hK : ∀ x ∈ parts, x.length ≤ K) (hk2 : K ≤ 1000) : f80 parts k = some (bar k.toNat parts) := by
 unfold f80 bar
 have a1 := flatK (L := parts.take k.toNat) fun x hx => hK x (List.mem_of_mem_take hx)
 have a2 := flatK (L := parts.drop k.toNat) fun x hx => hK x (List.mem_of_mem_drop hx)
 have b1 : K * (parts.take k.toNat).length ≤ 1000 * 1048576 := Nat.mul_le_mul hk2 (by rw [List.length_take]; omega)
 have b2 : K * (parts.drop k.toNat).length ≤ 1000 * 1048576 := Nat.mul_le_mul hk2 (by rw [List.length_drop]; omega)
 rw [cutL_ok (by omega) h0 h1, bS, show (0 : Int).toNat = 0 by rfl, List.drop_zero, joinI (by rw [List.length_take]; omega) (by rw [join_flat]; omega), join_flat, bS]
 by_cases c : k < parts.length
 ·rw [if_pos c, if_pos (by omega), cutL_ok h0 (by omega) (by omega), bS, show ((parts.length : Nat) : Int).toNat = parts.length by rfl, List.take_of_length_le (Nat.le_refl _), joinI (by rw [List.length_drop]; omega) (by rw [join_flat]; omega), join_flat, bS, cat_ok (by rw [List.length_singleton]; omega), bS, cat_ok (by rw [List.length_append, List.length_singleton]; omega), bS]
  simp
 ·rw [if_neg c, if_neg (by omega)]; simp
end Go.Proofs.YtcllfkplpdppiaaDoorH
namespace Go.Proofs.YtcllfkplpdppiaaDoorH
open Go
variable {α ρ : Type}
theorem nodup_le : ∀ {n : Nat} {H : List Int}, H.Nodup → (∀ v ∈ H, 0 ≤ v ∧ v < n) → H.length ≤ n
 | 0, [], _, _ => by simp
 | 0, a :: H, _, h => by have := h a (by simp); omega
 | n + 1, H, hd, h => by
  have h1 : (H.erase ((n : Nat) : Int)).length ≤ n := nodup_le (hd.erase _) fun v hv => by
   have h2 := h v (List.mem_of_mem_erase hv)
   have h3 := (List.Nodup.mem_erase_iff hd).1 hv
   have := h3.1
   omega
  have h2 := List.length_erase (l := H) (a := ((n : Nat) : Int))
  split at h2 <;> omega
theorem cmpL_trans : ∀ {a b c : List Int}, cmpL a b < 0 → cmpL b c < 0 → cmpL a c < 0
 | [], _, [], h1, h2 => by
  rename_i b
  cases b with
  | nil => simp [cmpL] at h1
  | cons y b => simp [cmpL] at h2
 | [], _, _ :: _, h1, h2 => by simp [cmpL]
 | _ :: _, [], _, h1, h2 => by simp [cmpL] at h1
 | _ :: _, _ :: _, [], h1, h2 => by simp [cmpL] at h2
 | x :: a, y :: b, z :: c, h1, h2 => by
  rw [cmpL] at h1 h2 ⊢
  by_cases c1 : x < y
  ·by_cases c2 : y < z
   ·rw [if_pos (by omega)]; omega
   ·rw [if_neg c2] at h2
    by_cases c3 : y > z
    ·rw [if_pos c3] at h2; omega
    ·rw [if_pos (by omega)]; omega
  ·rw [if_neg c1] at h1
   by_cases c3 : x > y
   ·rw [if_pos c3] at h1; omega
   ·rw [if_neg c3] at h1
    by_cases c2 : y < z
    ·rw [if_pos (by omega)]; omega
    ·rw [if_neg c2] at h2
     by_cases c4 : y > z
     ·rw [if_pos c4] at h2; omega
     ·rw [if_neg c4] at h2
      rw [if_neg (by omega), if_neg (by omega)]
      exact cmpL_trans h1 h2
theorem cmpF_trans {a b c : Fact} (h1 : cmpF a b < 0) (h2 : cmpF b c < 0) : cmpF a c < 0 := by
 unfold cmpF at h1 h2 ⊢
 by_cases c1 : a.Relation < b.Relation
 ·by_cases c2 : b.Relation > c.Relation
  ·rw [if_neg (by omega), if_pos c2] at h2; omega
  ·rw [if_pos (by omega)]; omega
 ·rw [if_neg c1] at h1
  by_cases c3 : a.Relation > b.Relation
  ·rw [if_pos c3] at h1; omega
  ·rw [if_neg c3] at h1
   by_cases c2 : b.Relation < c.Relation
   ·rw [if_pos (by omega)]; omega
   ·rw [if_neg c2] at h2
    by_cases c4 : b.Relation > c.Relation
    ·rw [if_pos c4] at h2; omega
    ·rw [if_neg c4] at h2
     rw [if_neg (by omega), if_neg (by omega)]
     exact cmpL_trans h1 h2
def keyOf (l : List Relation) (a : Fact) : List Int := a.Values.take (keyLen l a.Relation).toNat
def same (l : List Relation) (a b : Fact) : Bool := decide (a.Relation = b.Relation) && decide (keyOf l a = keyOf l b)
variable {n : Nat} {sk : Nat → Nat → Bool}
def pick (c : Int → Bool) (bs : List (List Int)) : List Int := bs.filterMap fun b => b.find? c
def picks (c : Int → Bool) (bs : List (List Int)) : List Int × Bool := if (bs.all fun b => (b.find? c).isSome) = true then (pick c bs, true) else ([], false)
end Go.Proofs.YtcllfkplpdppiaaDoorH
namespace Go.Proofs.YtcllfkplpdppiaaDoorH
open Go
variable {d : Database}
theorem vDb_of (h : vDb d = true) : vRels d.Relations = true ∧ d.Facts.length ≤ 14 ∧ gFacts d = true := by
 unfold vDb at h; simp only [Bool.and_eq_true, decide_eq_true_eq] at h; exact h
theorem fact_ok (h : vDb d = true) {i : Nat} (hi : i < d.Facts.length) : vFact d.Relations d.Facts[i] = true := (good_of (vDb_of h).2.2 hi).1
theorem facts_up (h : vDb d = true) {i k : Nat} (hik : i < k) (hk : k < d.Facts.length) : cmpF (d.Facts[i]'(by omega)) d.Facts[k] < 0 := by
 induction k with
 | zero => omega
 | succ k ih =>
  have h1 := (good_of (vDb_of h).2.2 hk).2 (by omega)
  simp only [Nat.add_sub_cancel, decide_eq_true_eq] at h1
  by_cases e : i = k
  ·subst e; exact h1
  ·exact cmpF_trans (ih (by omega) (by omega)) h1
variable (h : vDb d = true) (hf : Fits d)
include h hf
omit h hf
end Go.Proofs.YtcllfkplpdppiaaDoorH
namespace Go.Proofs.YtcllfkplpdppiaaDoorH
open Go
variable {d : Database} {n : Nat} {sk : Nat → Nat → Bool}
theorem asc_of {s : List Int} (h : asc n s = true) : s.Pairwise (· < ·) ∧ ∀ v ∈ s, 0 ≤ v ∧ v < n := by
 have hg := fun i (hi : i < s.length) => good_of h hi
 refine ⟨?_, ?_⟩
 ·rw [List.pairwise_iff_getElem]
  intro i j hi hj hij
  induction j with
  | zero => omega
  | succ j ih =>
   have h1 := (hg (j + 1) hj).2 (by omega)
   simp only [Nat.add_sub_cancel, decide_eq_true_eq] at h1
   by_cases e : i = j
   ·subst e; exact h1
   ·have := ih (by omega) (by omega); omega
 ·intro v hv
  obtain ⟨i, hi, rfl⟩ := List.getElem_of_mem hv
  have h1 := (hg i hi).1
  simp only [btw, Bool.and_eq_true, decide_eq_true_eq] at h1
  omega
theorem up_nodup {s : List Int} (h : s.Pairwise (· < ·)) : s.Nodup := h.imp fun hab e => by omega
theorem asc_len {s : List Int} (h : asc n s = true) : s.length ≤ n := nodup_le (up_nodup (asc_of h).1) (asc_of h).2
def fat (d : Database) (v : Int) : Fact := d.Facts.getD v.toNat default
def sel (d : Database) (s : List Int) : Database := ⟨d.Relations, s.map (fat d)⟩
theorem fat_get {i : Nat} (hi : i < d.Facts.length) : fat d (i : Int) = d.Facts[i] := by
 unfold fat
 rw [Int.toNat_natCast, List.getD_eq_getElem?_getD, List.getElem?_eq_getElem hi]; rfl
theorem fat_mem {v : Int} (h : 0 ≤ v ∧ v < d.Facts.length) : fat d v ∈ d.Facts := by
 have : v = ((v.toNat : Nat) : Int) := by omega
 rw [this, fat_get (by omega)]; exact List.getElem_mem _
theorem fat_up (h : vDb d = true) {a b : Int} (ha : 0 ≤ a) (hab : a < b) (hb : b < d.Facts.length) : cmpF (fat d a) (fat d b) < 0 := by
 have ea : a = ((a.toNat : Nat) : Int) := by omega
 have eb : b = ((b.toNat : Nat) : Int) := by omega
 rw [ea, eb, fat_get (by omega), fat_get (by omega)]
 exact facts_up h (by omega) (by omega)
theorem sel_len {s : List Int} : (sel d s).Facts.length = s.length := by simp [sel]
theorem sel_v (h : vDb d = true) {s : List Int} (hs : asc d.Facts.length s = true) : vDb (sel d s) = true := by
 obtain ⟨v1, v2, v3⟩ := vDb_of h
 obtain ⟨s1, s2⟩ := asc_of hs
 unfold vDb
 simp only [Bool.and_eq_true, decide_eq_true_eq]
 refine ⟨v1, by rw [sel_len]; have := asc_len hs; omega, decide_eq_true fun i hi => ?_⟩
 rw [sel_len] at hi
 simp only [Bool.and_eq_true, Bool.or_eq_true, decide_eq_true_eq]
 have hm := s2 _ (List.getElem_mem hi)
 refine ⟨?_, ?_⟩
 ·have : (sel d s).Facts[i]'(by rw [sel_len]; exact hi) = fat d s[i] := by simp [sel]
  rw [this]
  obtain ⟨k, hk, e⟩ := List.getElem_of_mem (fat_mem hm)
  rw [← e]; exact fact_ok h hk
 ·by_cases e : i = 0
  ·exact .inl e
  ·refine .inr ?_
   have e1 : (sel d s).Facts[i]'(by rw [sel_len]; exact hi) = fat d s[i] := by simp [sel]
   have e2 : (sel d s).Facts[i - 1]'(by rw [sel_len]; omega) = fat d (s[i - 1]'(by omega)) := by simp [sel]
   rw [e1, e2]
   exact fat_up h (s2 _ (List.getElem_mem (by omega))).1 (List.pairwise_iff_getElem.1 s1 (i - 1) i (by omega) hi (by omega)) hm.2
def apart (d : Database) (s : List Int) : Prop := s.Pairwise fun a b => same d.Relations (fat d a) (fat d b) = false
instance {s : List Int} : Decidable (apart d s) := by unfold apart; infer_instance
theorem sel_fits (hf : Fits d) {s : List Int} (hs : asc d.Facts.length s = true) : Fits (sel d s) := by
 refine ⟨hf.1, by rw [sel_len]; have := asc_len hs; have := hf.2.1; omega, fun x hx => ?_⟩
 simp only [sel, List.mem_map] at hx
 obtain ⟨v, hv, rfl⟩ := hx
 exact hf.2.2 _ (fat_mem ((asc_of hs).2 v hv))
end Go.Proofs.YtcllfkplpdppiaaDoorH
namespace Go.Proofs.YtcllfkplpdppiaaDoorH
open Go
end Go.Proofs.YtcllfkplpdppiaaDoorH
namespace Go.Proofs.YtcllfkplpdppiaaDoorH
open Go
section
variable {l : List Relation}
end
end Go.Proofs.YtcllfkplpdppiaaDoorH
namespace Go.Proofs.YtcllfkplpdppiaaDoorH
open Go
end Go.Proofs.YtcllfkplpdppiaaDoorH
namespace Go.Proofs.YtcllfkplpdppiaaDoorH
open Go
end Go.Proofs.YtcllfkplpdppiaaDoorH
namespace Go.Proofs.YtcllfkplpdppiaaDoorH
open Go
end Go.Proofs.YtcllfkplpdppiaaDoorH
namespace Go.Proofs.YtcllfkplpdppiaaDoorH
open Go
variable {d : Database}
end Go.Proofs.YtcllfkplpdppiaaDoorH
namespace Go.Proofs.YtcllfkplpdppiaaDoorH
open Go
variable {d : Database}
end Go.Proofs.YtcllfkplpdppiaaDoorH
namespace Go.Proofs.YtcllfkplpdppiaaDoorH
open Go
variable {d : Database}
theorem copyImp (hf : Fits d) : f89 d = some d := by
 unfold f89
 rw [app_fits (by have := hf.1; simp; omega), bS, List.nil_append]
 have it := iter_steps (f := f89_0 d) (fun i => (d.Relations, d.Facts.take i, (i : Int))) d.Facts.length (d.Relations, d.Facts) (fun i hi => by
  have h1 := hf.2.2 _ (List.getElem_mem hi)
  have h2 := hf.2.1
  simp only [f89_0]
  rw [if_pos (by omega), ix_nat hi, bS, app_fits (by simp; omega), bS, app_fits (by simp; omega), bS, w64_succ (by omega), take_succ' hi]
  simp) (by
  simp only [f89_0]
  rw [if_neg (by omega), List.take_of_length_le (Nat.le_refl _)])
 simp only [List.take_zero, Int.natCast_zero, Int.ofNat_zero] at it
 erw [it]
 rfl
theorem impSel {l : List Int} (hf : Fits d) (hl : l.length ≤ 1048576) : f58 d l = some (if (vDb d && asc d.Facts.length l) = true then (sel d l, true) else (⟨[], []⟩, false)) := by
 unfold f58
 have hr := fits_room hf
 rw [impDb hr, bS]
 cases hv : vDb d
 ·simp
 ·rw [if_neg (by simp), impSet hr.2.1 (by omega)]
  cases ha : asc d.Facts.length l
  ·simp
  ·have h14 := (vDb_of hv).2.1
   have hl2 := asc_len ha
   have hm := (asc_of ha).2
   simp only [bS]
   rw [if_neg (by simp), copyImp hf, bS]
   have it := iter_steps (f := f58_0 l d) (fun i => (d.Relations, (l.take i).map (fat d), (i : Int))) l.length (d.Relations, l.map (fat d)) (fun i hi => by
    have hb := hm _ (List.getElem_mem hi)
    have hn : l[i].toNat < d.Facts.length := by omega
    have e : fat d l[i] = d.Facts[l[i].toNat] := by
     have : l[i] = ((l[i].toNat : Nat) : Int) := by omega
     conv => lhs; rw [this]
     exact fat_get hn
    simp only [f58_0]
    rw [if_pos (by omega), ix_nat hi, bS, ix_of hb.1, List.getElem?_eq_getElem hn, bS, app_fits (by simp; omega), bS, w64_succ (by omega), take_succ' hi, List.map_append, List.map_singleton, e]) (by
    simp only [f58_0]
    rw [if_neg (by omega), List.take_of_length_le (Nat.le_refl _)])
   simp only [List.take_zero, List.map_nil, Int.natCast_zero, Int.ofNat_zero] at it
   erw [it]
   rfl
end Go.Proofs.YtcllfkplpdppiaaDoorH
namespace Go.Proofs.YtcllfkplpdppiaaDoorH
open Go
end Go.Proofs.YtcllfkplpdppiaaDoorH
namespace Go.Proofs.YtcllfkplpdppiaaDoorH
open Go
variable {d : Database}
end Go.Proofs.YtcllfkplpdppiaaDoorH
namespace Go.Proofs.YtcllfkplpdppiaaDoorH
open Go
variable {d : Database}
end Go.Proofs.YtcllfkplpdppiaaDoorH
namespace Go.Proofs.YtcllfkplpdppiaaDoorH
open Go
variable {n : Nat} {sk : Nat → Nat → Bool}
end Go.Proofs.YtcllfkplpdppiaaDoorH
namespace Go.Proofs.YtcllfkplpdppiaaDoorH
open Go
variable {x : List Int} (hx : x.length ≤ 1048576)
include hx
end Go.Proofs.YtcllfkplpdppiaaDoorH
namespace Go.Proofs.YtcllfkplpdppiaaDoorH
open Go
variable {x : List Int} (hx : x.length ≤ 16383)
include hx
end Go.Proofs.YtcllfkplpdppiaaDoorH
namespace Go.Proofs.YtcllfkplpdppiaaDoorH
open Go
variable {x : List Int} (hx : x.length ≤ 16383)
include hx
end Go.Proofs.YtcllfkplpdppiaaDoorH
namespace Go.Proofs.YtcllfkplpdppiaaDoorH
open Go
variable {d : Database}
end Go.Proofs.YtcllfkplpdppiaaDoorH
namespace Go.Proofs.YtcllfkplpdppiaaDoorH
open Go
variable {d : Database}
end Go.Proofs.YtcllfkplpdppiaaDoorH
namespace Go.Proofs.YtcllfkplpdppiaaDoorH
open Go
end Go.Proofs.YtcllfkplpdppiaaDoorH
namespace Go.Proofs.YtcllfkplpdppiaaDoorH
open Go
variable {d : Database}
end Go.Proofs.YtcllfkplpdppiaaDoorH
namespace Go.Proofs.YtcllfkplpdppiaaDoorH
open Go
variable {d : Database}
end Go.Proofs.YtcllfkplpdppiaaDoorH
namespace Go.Proofs.YtcllfkplpdppiaaDoorH
open Go
variable {d : Database}
end Go.Proofs.YtcllfkplpdppiaaDoorH
namespace Go.Proofs.YtcllfkplpdppiaaDoorH
open Go
variable {d : Database}
end Go.Proofs.YtcllfkplpdppiaaDoorH
namespace Go.Proofs.YtcllfkplpdppiaaDoorH
open Go
def derSize (l : List DerivationStep) : Nat := l.length + (l.map (·.Facts.length)).sum
theorem szDS {a : DerivationStep} {n : Int} (h : ok a) (h0 : 0 ≤ n) (h1 : n ≤ 1048576) : f22 a n = some (lft n a.Facts.length) := by
 unfold f22
 rw [szI h.1.1 h0 h1, bS]
 split
 ·rename_i hlt; rw [lft_bad hlt]
 ·rfl
theorem szDSs {a : List DerivationStep} {n : Int} (h : ok a) (h0 : 0 ≤ n) (h1 : n ≤ 1048576) : f6 a n = some (lft n (derSize a)) := by
 obtain ⟨h, h'⟩ := h
 unfold f6 derSize
 rw [w64_of (by omega)]
 by_cases hc : n < (a.length : Int)
 ·rw [if_pos (by omega)]
  unfold lft
  rw [if_neg (by omega)]
 ·rw [if_neg (by omega)]
  rw [iter_sz (fun x : DerivationStep => x.Facts.length) a _ (by omega) (fun i hi b hb hb' => by
   simp only [f6_0]
   rw [if_pos (by omega), ix_nat hi, w64_succ (by omega)]
   simp only [bS, szDS (h' _ (List.getElem_mem hi)) hb (by omega)]
   split <;> rfl) (fun b => by
   simp only [f6_0]
   rw [if_neg (by omega)]), lft_sub hc]
  split
  ·rename_i hlt
   rw [lft_bad hlt]; rfl
  ·rfl
theorem toDS {a : DerivationStep} (h : a.Facts.length ≤ 1048576) : f27 a = some a := by
 unfold f27
 rw [toI h]; rfl
theorem toDSs {a : List DerivationStep} (h : a.length ≤ 1048576) (h' : ∀ x ∈ a, x.Facts.length ≤ 1048576) : f9 a = some a := by
 unfold f9
 rw [mkl_ok (by omega) (by omega) (by omega)]
 have : iter (f9_0 a) (List.replicate (a.length : Int).toNat ({ Facts := [], Block := 0 } : DerivationStep), 0) = some a := iter_copy (by simp) (fun i hi out ho => by
  simp only [f9_0]
  rw [if_pos (by omega), ix_nat hi, ix_nat ho, Int.toNat_natCast, w64_succ (by omega)]
  simp only [bS, toDS (h' _ (List.getElem_mem hi))]) (fun out => by
  simp only [f9_0]
  rw [if_neg (by omega)])
 simp only [bS, this]
theorem eqDS {a : DerivationStep} (h : a.Facts.length ≤ 1048576) : f33 a a = some true := by
 unfold f33
 rw [eqI (by omega), bS]; simp
theorem eqDSs {a : List DerivationStep} (h : a.length ≤ 1048576) (h' : ∀ x ∈ a, x.Facts.length ≤ 1048576) : f12 a a = some true := by
 unfold f12
 rw [if_neg (by simp)]
 rw [iter_ex (List.range a.length) (fun _ => false) false (fun i hi => by
  simp only [f12_0]
  simp only [List.length_range] at hi
  rw [if_pos (by omega), ix_nat hi, w64_succ (by omega)]
  simp only [bS, eqDS (h' _ (List.getElem_mem hi))]
  simp) (by
  simp only [f12_0]
  rw [if_neg (by simp)])]
 simp
theorem der_fits {l : List DerivationStep} (h : derSize l ≤ 1048576) : l.length ≤ 1048576 ∧ ∀ x ∈ l, x.Facts.length ≤ 1048576 := by
 unfold derSize at h
 refine ⟨by omega, fun x hx => ?_⟩
 have := mem_le_sum (s := fun x : DerivationStep => x.Facts.length) hx
 omega
end Go.Proofs.YtcllfkplpdppiaaDoorH
namespace Go.Proofs.YtcllfkplpdppiaaDoorH
open Go
variable {l : List Relation} {d : Database}
theorem rel_part (hr : vRels l = true) {r : Int} (hb : btw r 0 (l.length - 1) = true) : ∃ x, ix l r = some x ∧ l[r.toNat]? = some x ∧ x.Name.length = 1 ∧ 0 ≤ x.KeyLength ∧ x.KeyLength ≤ arity l r ∧ arity l r ≤ 3 := by
 obtain ⟨x, h1, h2, h3, h4⟩ := ix_rel hb
 unfold btw at hb; simp only [Bool.and_eq_true, decide_eq_true_eq] at hb
 have hx : vRel x = true := by
  unfold vRels at hr; simp only [Bool.and_eq_true] at hr
  obtain ⟨i, hi, rfl⟩ := List.mem_iff_getElem.1 h2
  exact (good_of hr.1 hi).1
 unfold vRel btw at hx; simp only [Bool.and_eq_true, decide_eq_true_eq] at hx
 refine ⟨x, h1, ?_, hx.1, hx.2.2.2.2.1, by rw [← h3]; exact hx.2.2.2.2.2, by rw [← h3]; exact hx.2.2.2.1.2⟩
 rw [ix_of hb.1] at h1; exact h1
def rTxt (l : List Relation) (r : Int) (L : List (List UInt8)) : List UInt8 :=
 match l[r.toNat]? with
 | some x => x.Name ++ bar x.KeyLength.toNat L
 | none => []
def fTxt (l : List Relation) (f : Fact) : List UInt8 := rTxt l f.Relation (f.Values.map Lib.itoa)
theorem itoa_map_len {vs : List Int} (h : ∀ v ∈ vs, -9223372036854775808 ≤ v ∧ v ≤ 9223372036854775807) : ∀ x ∈ vs.map Lib.itoa, x.length ≤ 21 := by
 intro x hx
 obtain ⟨v, hv, rfl⟩ := List.mem_map.1 hx
 exact Lib.itoa_length_le v (h v hv).1 (h v hv).2
theorem fact_part (hr : vRels l = true) {f : Fact} (hf : vFact l f = true) : ∃ x, ix l f.Relation = some x ∧ l[f.Relation.toNat]? = some x ∧ x.Name.length = 1 ∧ 0 ≤ x.KeyLength ∧ x.KeyLength ≤ f.Values.length ∧ f.Values.length ≤ 3 ∧ ∀ v ∈ f.Values, 0 ≤ v ∧ v ≤ 9 := by
 unfold vFact vVals at hf
 simp only [Bool.and_eq_true, decide_eq_true_eq, List.all_eq_true] at hf
 obtain ⟨x, h1, h2, h3, h4, h5, h6⟩ := rel_part hr hf.1
 refine ⟨x, h1, h2, h3, h4, by rw [hf.2.1]; exact h5, by have := hf.2.1; omega, fun v hv => ?_⟩
 have := hf.2.2 v hv
 unfold btw at this; simp only [Bool.and_eq_true, decide_eq_true_eq] at this; exact this
theorem fTxt_len (hr : vRels l = true) {f : Fact} (hf : vFact l f = true) : (fTxt l f).length ≤ 65 := by
 obtain ⟨x, h1, h2, h3, h4, h5, h6, h7⟩ := fact_part hr hf
 unfold fTxt rTxt
 rw [h2]
 have := bar_len (k := x.KeyLength.toNat) (itoa_map_len (vs := f.Values) fun v hv => by have := h7 v hv; omega)
 rw [List.length_map] at this
 simp only [List.length_append]; omega
theorem specFF (hr : vRels l = true) {f : Fact} (hf : vFact l f = true) (hl : Big l.length) : f52 l f = some (fTxt l f) := by
 obtain ⟨x, h1, h2, h3, h4, h5, h6, h7⟩ := fact_part hr hf
 have hK := itoa_map_len (vs := f.Values) fun v hv => by have := h7 v hv; omega
 unfold f52
 rw [specFact hl (by omega), hr, hf, bS, if_neg (by simp), h1, bS, iter_bar x.Name x.KeyLength (f.Values.map Lib.itoa) 21 h4 hK (fun i hi s hs => by
  rw [List.length_map] at hi
  have hv := h7 _ (List.getElem_mem hi)
  have hk := hK _ (List.getElem_mem (l := f.Values.map Lib.itoa) (by rw [List.length_map]; exact hi))
  simp only [f52_0]
  rw [if_pos (by omega), h1, bS, ix_nat hi, w64_succ (by omega)]
  have e : (if (i : Int) = x.KeyLength then (cat s [124]).bind fun s_14 => some s_14 else some s : Option (List UInt8)) = some (if (i : Int) = x.KeyLength then s ++ [124] else s) := by
   split
   ·rw [cat_ok (by simp; omega)]; rfl
   ·rfl
  have e2 : (if (i : Int) = x.KeyLength then s ++ [124] else s).length ≤ s.length + 1 := by split <;> simp
  rw [List.getElem_map] at hk ⊢
  rw [e, bS, bS, fmtI (by omega) (by omega), bS, cat_ok (by omega), bS]) (fun s => by
  simp only [f52_0]
  rw [List.length_map, if_neg (by omega)]), bS]
 unfold fTxt rTxt
 rw [h2]
theorem impFF (hr : vRels l = true) {f : Fact} (hf : vFact l f = true) (hl : Big l.length) : f90 l f = some (fTxt l f) := by
 obtain ⟨x, h1, h2, h3, h4, h5, h6, h7⟩ := fact_part hr hf
 have hK := itoa_map_len (vs := f.Values) fun v hv => by have := h7 v hv; omega
 have hv : f103 l f = some true := by
  unfold f103
  rw [impRels hl, hr]
  simp [impFact hl (show Big f.Values.length by omega), hf]
 unfold f90
 have it := iter_steps (f := f90_0 f) (fun i => ((f.Values.take i).map Lib.itoa, (i : Int))) f.Values.length (f.Values.map Lib.itoa) (fun i hi => by
  have hv := h7 _ (List.getElem_mem hi)
  simp only [f90_0]
  rw [if_pos (by omega), ix_nat hi, bS, itoI (by omega) (by omega), bS, app_fits (by simp; omega), bS, w64_succ (by omega), take_succ' hi, List.map_append, List.map_singleton]) (by
  simp only [f90_0]
  rw [if_neg (by omega), List.take_of_length_le (Nat.le_refl _)])
 simp only [List.take_zero, List.map_nil, Int.natCast_zero, Int.ofNat_zero] at it
 have hb := bar_len (k := x.KeyLength.toNat) hK
 rw [List.length_map] at hb
 rw [hv, bS, if_neg (by simp), it, bS, h1, bS, barI h4 (by rw [List.length_map]; exact h5) (by rw [List.length_map]; omega) hK (by omega), bS, cat_ok (by omega), bS]
 unfold fTxt rTxt
 rw [h2]
def fsTxt (d : Database) (s : List Int) : List UInt8 := if (vDb d && asc d.Facts.length s) = true then Lib.join (s.map fun v => fTxt d.Relations (fat d v)) [32] else []
theorem fat_v (hv : vDb d = true) {s : List Int} (hs : asc d.Facts.length s = true) : ∀ v ∈ s, vFact d.Relations (fat d v) = true := by
 intro v h
 have hb := (asc_of hs).2 v h
 obtain ⟨i, hi, e⟩ := List.mem_iff_getElem.1 (fat_mem hb)
 rw [← e]; exact fact_ok hv hi
theorem fsTxt_le (hv : vDb d = true) {s : List Int} (hs : asc d.Facts.length s = true) : ∀ x ∈ s.map fun v => fTxt d.Relations (fat d v), x.length ≤ 65 := by
 intro x hx
 obtain ⟨v, h, rfl⟩ := List.mem_map.1 hx
 exact fTxt_len (vDb_of hv).1 (fat_v hv hs v h)
theorem fsTxt_len {s : List Int} : (fsTxt d s).length ≤ 1000 := by
 unfold fsTxt
 split
 ·rename_i h
  simp only [Bool.and_eq_true] at h
  have := join_len (sep := [32]) (fsTxt_le h.1 h.2)
  have h1 := asc_len h.2
  have h2 := (vDb_of h.1).2.1
  rw [List.length_map, List.length_singleton] at this
  omega
 ·simp
theorem specFs (hf : Fits d) {s : List Int} (hs : s.length ≤ 1048576) : f24 d s = some (fsTxt d s) := by
 have hr := fits_room hf
 unfold f24 fsTxt
 cases hv : (vDb d && asc d.Facts.length s)
 ·have it := iter_steps (f := f24_0 d s) (fun _ => ([], 0)) 0 [] (fun i hi => by omega) (by
   simp only [f24_0]
   rw [specDb hr, specSet hr.2.1 (by omega)]
   by_cases c : (0 : Int) < s.length
   ·rw [if_pos c]
    cases h1 : vDb d
    ·simp
    ·rw [h1] at hv; simp at hv; simp [hv]
   ·rw [if_neg c]; simp)
  rw [it]; simp
 ·simp only [Bool.and_eq_true] at hv
  obtain ⟨hv, ha⟩ := hv
  have hb := (asc_of ha).2
  rw [iter_words (s.map fun v => fTxt d.Relations (fat d v)) 65 (fsTxt_le hv ha) (fun i hi t ht => by
   rw [List.length_map] at hi
   have hk := fsTxt_le hv ha _ (List.getElem_mem (l := s.map fun v => fTxt d.Relations (fat d v)) (by rw [List.length_map]; exact hi))
   have hbi := hb _ (List.getElem_mem hi)
   have hn : s[i].toNat < d.Facts.length := by omega
   have ef : d.Facts[s[i].toNat] = fat d s[i] := by
    have : s[i] = ((s[i].toNat : Nat) : Int) := by omega
    conv => rhs; rw [this]
    exact (fat_get hn).symm
   simp only [f24_0]
   have e : (if (i : Int) > 0 then (cat t [32]).bind fun s_17 => some s_17 else some t : Option (List UInt8)) = some (if i = 0 then t else t ++ [32]) := by
    by_cases c : i = 0
    ·rw [if_neg (by omega), if_pos c]
    ·rw [if_pos (by omega), if_neg c, cat_ok (by simp; omega)]; rfl
   have e2 : (if i = 0 then t else t ++ [32]).length ≤ t.length + 1 := by split <;> simp
   rw [List.getElem_map] at hk ⊢
   rw [if_pos (by omega), specDb hr, hv, bS, if_pos rfl, specSet hr.2.1 (by omega), ha, bS, bS, bS, if_pos rfl, e, bS, ix_nat hi, bS, ix_of hbi.1, List.getElem?_eq_getElem hn, bS, ef,
    specFF (vDb_of hv).1 (fat_v hv ha _ (List.getElem_mem hi)) hr.1, bS, cat_ok (by omega), bS, w64_succ (by omega)]) (fun t => by
   simp only [f24_0]
   rw [List.length_map, if_neg (by omega)]; rfl), bS]
  rfl
theorem impAll (hv : vDb d = true) (hf : Fits d) : f59 d = some (Lib.join (d.Facts.map (fTxt d.Relations)) [32]) := by
 have h14 := (vDb_of hv).2.1
 have hr := fits_room hf
 have hK : ∀ x ∈ d.Facts.map (fTxt d.Relations), x.length ≤ 65 := fun x hx => by
  obtain ⟨f, h, rfl⟩ := List.mem_map.1 hx
  obtain ⟨i, hi, rfl⟩ := List.mem_iff_getElem.1 h
  exact fTxt_len (vDb_of hv).1 (fact_ok hv hi)
 unfold f59
 have it := iter_steps (f := f59_0 d) (fun i => ((d.Facts.take i).map (fTxt d.Relations), (i : Int))) d.Facts.length (d.Facts.map (fTxt d.Relations)) (fun i hi => by
  simp only [f59_0]
  rw [if_pos (by omega), ix_nat hi, bS, impFF (vDb_of hv).1 (fact_ok hv hi) hr.1, bS, app_fits (by simp; omega), bS, w64_succ (by omega), take_succ' hi, List.map_append, List.map_singleton]) (by
  simp only [f59_0]
  rw [if_neg (by omega), List.take_of_length_le (Nat.le_refl _)])
 simp only [List.take_zero, List.map_nil, Int.natCast_zero, Int.ofNat_zero] at it
 have hj := join_len (sep := [32]) hK
 rw [List.length_map, List.length_singleton] at hj
 rw [it, bS, joinI (by rw [List.length_map]; omega) (by omega), bS]
theorem impFs (hf : Fits d) {s : List Int} (hs : s.length ≤ 1048576) : f29 d s = some (fsTxt d s) := by
 unfold f29 fsTxt
 rw [impSel hf hs, bS]
 cases hv : (vDb d && asc d.Facts.length s)
 ·simp
 ·simp only [Bool.and_eq_true] at hv
  rw [if_pos rfl, if_pos rfl]
  simp only [not_true_eq_false, if_false]
  rw [impAll (sel_v hv.1 hv.2) (sel_fits hf hv.2), bS]
  congr 2
  unfold sel
  simp
def wTxt (d : Database) (x : DerivationStep) : List UInt8 := [123] ++ fsTxt d x.Facts ++ [125] ++ (if x.Block ≥ 0 then [98, 121] ++ Lib.itoa x.Block else [])
def derTxt (d : Database) (L : List DerivationStep) : List UInt8 := if vDb d = true then Lib.join (L.map (wTxt d)) [32] else []
theorem wTxt_len {x : DerivationStep} (h : ok x.Block) : (wTxt d x).length ≤ 1100 := by
 unfold wTxt
 have h1 := fsTxt_len (d := d) (s := x.Facts)
 have h2 := Lib.itoa_length_le x.Block h.1 h.2
 simp only [List.length_append, List.length_singleton]
 split
 ·simp; omega
 ·simp; omega
theorem specDer (hf : Fits d) {L : List DerivationStep} (hl : L.length ≤ 1048576) (hL : ∀ x ∈ L, x.Facts.length ≤ 1048576) (ho : ∀ x ∈ L, ok x.Block) : f7 d L = some (derTxt d L) := by
 have hr := fits_room hf
 have hK : ∀ x ∈ L.map (wTxt d), x.length ≤ 1100 := fun x hx => by
  obtain ⟨f, h, rfl⟩ := List.mem_map.1 hx
  exact wTxt_len (ho f h)
 unfold f7 derTxt
 cases hv : vDb d
 ·have it := iter_steps (f := f7_0 d L) (fun _ => ([], 0)) 0 [] (fun i hi => by omega) (by
   simp only [f7_0]
   rw [specDb hr, hv]
   by_cases c : (0 : Int) < L.length
   ·rw [if_pos c, bS, bS, if_neg (by simp)]
   ·rw [if_neg c, bS, if_neg (by simp)])
  rw [it]; simp
 ·rw [iter_words (L.map (wTxt d)) 1100 hK (fun i hi t ht => by
   rw [List.length_map] at hi
   have ho := ho _ (List.getElem_mem hi)
   have h1 := fsTxt_len (d := d) (s := L[i].Facts)
   have h2 := Lib.itoa_length_le L[i].Block ho.1 ho.2
   simp only [f7_0]
   have e : (if (i : Int) > 0 then (cat t [32]).bind fun s_17 => some s_17 else some t : Option (List UInt8)) = some (if i = 0 then t else t ++ [32]) := by
    by_cases c : i = 0
    ·rw [if_neg (by omega), if_pos c]
    ·rw [if_pos (by omega), if_neg c, cat_ok (by simp; omega)]; rfl
   have e2 : (if i = 0 then t else t ++ [32]).length ≤ t.length + 1 := by split <;> simp
   rw [List.getElem_map]
   unfold wTxt
   rw [if_pos (by omega), specDb hr, hv, bS, bS, if_pos rfl, e, bS]
   generalize (if i = 0 then t else t ++ [32]) = u at e2
   rw [cat_ok (by rw [List.length_singleton]; omega), bS, ix_nat hi, bS, specFs hf (hL _ (List.getElem_mem hi)), bS, cat_ok (by rw [List.length_append, List.length_singleton]; omega), bS, cat_ok (by rw [List.length_append, List.length_append, List.length_singleton, List.length_singleton]; omega), bS, w64_succ (by omega)]
   by_cases c : L[i].Block ≥ 0
   ·rw [if_pos c, if_pos c, cat_ok (by simp; omega), bS, fmtI ho.1 ho.2, bS, cat_ok (by simp; omega), bS, bS]
    simp
   ·rw [if_neg c, if_neg c, bS]
    simp) (fun t => by
   simp only [f7_0]
   rw [List.length_map, if_neg (by omega), bS, if_neg (by simp)]), bS, if_pos rfl]
theorem impDer (hf : Fits d) {L : List DerivationStep} (hl : L.length ≤ 1048576) (hL : ∀ x ∈ L, x.Facts.length ≤ 1048576) (ho : ∀ x ∈ L, ok x.Block) : f10 d L = some (derTxt d L) := by
 have hr := fits_room hf
 have hK : ∀ x ∈ L.map (wTxt d), x.length ≤ 1100 := fun x hx => by
  obtain ⟨f, h, rfl⟩ := List.mem_map.1 hx
  exact wTxt_len (ho f h)
 unfold f10 derTxt
 rw [impDb hr, bS]
 cases hv : vDb d
 ·simp
 ·have it := iter_steps (f := f10_0 d L) (fun i => ((L.take i).map (wTxt d), (i : Int))) L.length (L.map (wTxt d)) (fun i hi => by
   have ho := ho _ (List.getElem_mem hi)
   have h1 := fsTxt_len (d := d) (s := L[i].Facts)
   have h2 := Lib.itoa_length_le L[i].Block ho.1 ho.2
   simp only [f10_0]
   rw [if_pos (by omega), ix_nat hi, bS, impFs hf (hL _ (List.getElem_mem hi)), bS, cat_ok (by rw [List.length_singleton]; omega), bS, cat_ok (by rw [List.length_append, List.length_singleton, List.length_singleton]; omega), bS]
   have e : (if L[i].Block ≥ 0 then (f30 L[i].Block).bind fun o18 => (cat [98, 121] o18).bind fun s_20 => (cat ([123] ++ fsTxt d L[i].Facts ++ [125]) s_20).bind fun s_22 => some s_22 else some ([123] ++ fsTxt d L[i].Facts ++ [125]) : Option (List UInt8)) = some (wTxt d L[i]) := by
    unfold wTxt
    by_cases c : L[i].Block ≥ 0
    ·rw [if_pos c, if_pos c, itoI ho.1 ho.2, bS, cat_ok (by simp; omega), bS, cat_ok (by simp; omega), bS]
    ·rw [if_neg c, if_neg c, List.append_nil]
   rw [e, bS, app_fits (by simp; omega), bS, w64_succ (by omega), take_succ' hi, List.map_append, List.map_singleton]) (by
   simp only [f10_0]
   rw [if_neg (by omega), List.take_of_length_le (Nat.le_refl _)])
  simp only [List.take_zero, List.map_nil, Int.natCast_zero, Int.ofNat_zero] at it
  have hj := join_len (sep := [32]) hK
  rw [List.length_map, List.length_singleton] at hj
  rw [if_neg (by simp), it, bS, joinI (by rw [List.length_map]; omega) (by omega), bS, if_pos rfl]
end Go.Proofs.YtcllfkplpdppiaaDoorH
namespace Go.Proofs.YtcllfkplpdppiaaDoorH
open Go
theorem lawFnExactFormatDerivation (a : Database) (ha : ok a) (c : List DerivationStep) (hc : ok c) : f3 a c = some true := by
 unfold f3
 rw [szDb ha (by omega) (by omega), bS]
 by_cases h1 : lft 1048576 (dbSize a) < 0
 ·rw [if_pos h1]
 rw [if_neg h1]
 have b1 := lft_pos h1
 rw [szDSs hc (by omega) (by omega), bS, lft_lft h1]
 by_cases h3 : lft 1048576 (dbSize a + derSize c) < 0
 ·rw [if_pos h3]
 rw [if_neg h3]
 have b3 := lft_pos h3
 have fd := db_fits (a := a) (by omega)
 have fc := der_fits (l := c) (by omega)
 have fo : ∀ x ∈ c, ok x.Block := fun x hx => (hc.2 x hx).2
 simp only [toDb fd, toDSs fc.1 fc.2, specDer fd fc.1 fc.2 fo, impDer fd fc.1 fc.2 fo, bS, eqDb fd, eqDSs fc.1 fc.2]
 simp
end Go.Proofs.YtcllfkplpdppiaaDoorH
