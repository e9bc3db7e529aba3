import Derived.Test.YtaanfdjhmhifiaaTd1
import Derived.Test.YtaanfdjhmhifiaaX3
import Derived.Test.YtaanfdjhmhifiaaRd1
set_option linter.unusedVariables false
set_option linter.unusedSimpArgs false
set_option linter.defProp false
set_option linter.unusedSectionVars false
namespace Go.Proofs.YtaanfdjhmhifiaaH
open Go
def Cur (c : L1Cur) : Prop := 0 ≤ c.i ∧ c.i ≤ c.b.length ∧ c.b.length ≤ 1048576
theorem newOk {code : List Int} (h : code.length ≤ 1048576) : Ens (f35 code) Cur := by
 unfold f35
 refine Ens.bind (Q := fun _ => True) ?_ fun a _ => Ens.of ⟨by simp, by simp, h⟩
 refine iter_up (f := f35_0 code) code.length (fun i s => ∃ x, s = (x, (i : Int))) (fun _ => True) (fun i s hi ⟨x, hs⟩ => ?_) (fun s ⟨x, hs⟩ => ?_) _ ⟨_, rfl⟩
 ·subst hs
  simp only [f35_0]
  rw [if_pos (by omega), Option.bind_some]
  by_cases h4 : (i : Int) < 4000
  ·rw [if_pos (by simpa using h4), ix_nat hi, Option.bind_some, w64_succ (by omega)]
   exact ⟨_, rfl, _, rfl⟩
  ·rw [if_neg (by simpa using h4)]
   exact ⟨_, rfl, trivial⟩
 ·subst hs
  simp only [f35_0]
  rw [if_neg (by omega), Option.bind_some, if_neg (by simp)]
  exact ⟨_, rfl, trivial⟩
theorem byteOk {c : L1Cur} (h : Cur c) : Ens (f62 c) fun r => 0 ≤ r.1 ∧ r.1 ≤ 255 ∧ Cur r.2 := by
 unfold f62
 obtain ⟨h0, h1, h2⟩ := h
 refine Ens.bind (Q := fun x : Int × Int => 0 ≤ x.1 ∧ x.1 ≤ (c.b.length : Int) ∧ 0 ≤ x.2 ∧ x.2 ≤ 255) ?_ fun a ha => Ens.of ⟨ha.2.2.1, ha.2.2.2, ha.1, ha.2.1, h2⟩
 refine Ens.ite (fun hc => ?_) fun hc => Ens.of ⟨h0, h1, band_255⟩
 rw [ix_getD (d := 0) h0 hc, Option.bind_some]
 refine Ens.of ⟨?_, ?_, band_255⟩
 ·rw [w64_of (by omega)]; omega
 ·rw [w64_of (by omega)]; dsimp only; omega
theorem belowOk {c : L1Cur} {n : Int} (h : Cur c) : Ens (f37 c n) fun r => 0 ≤ r.1 ∧ (n ≤ 0 → r.1 = 0) ∧ (0 < n → r.1 < n) ∧ Cur r.2 := by
 unfold f37
 refine Ens.ite (fun hc => Ens.of ⟨by simp, fun _ => rfl, fun h => by omega, h⟩) fun hc => ?_
 refine Ens.ite (fun hd => ?_) fun hd => ?_
 ·refine Ens.bind (byteOk h) fun a ⟨a0, a1, a2⟩ => ?_
  rw [nz_ok (by omega), Option.bind_some]
  have := tmod_lt (n := n) a0 (by omega)
  exact Ens.of ⟨this.1, fun h => by omega, fun _ => this.2, a2⟩
 ·refine Ens.bind (byteOk h) fun a ⟨a0, a1, a2⟩ => ?_
  refine Ens.bind (byteOk a2) fun b ⟨b0, b1, b2⟩ => ?_
  refine Ens.bind (byteOk b2) fun c ⟨c0, c1, c2⟩ => ?_
  refine Ens.bind (byteOk c2) fun d ⟨d0, d1, d2⟩ => ?_
  rw [nz_ok (by omega), Option.bind_some]
  rw [w64_of (n := a.1 * 16777216) (by omega), w64_of (n := b.1 * 65536) (by omega), w64_of (n := c.1 * 256) (by omega), w64_of (n := a.1 * 16777216 + b.1 * 65536) (by omega), w64_of (n := a.1 * 16777216 + b.1 * 65536 + c.1 * 256) (by omega), w64_of (by omega)]
  have := tmod_lt (n := n) (a := a.1 * 16777216 + b.1 * 65536 + c.1 * 256 + d.1) (by omega) (by omega)
  exact Ens.of ⟨this.1, fun h => by omega, fun _ => this.2, d2⟩
theorem pickOk {c : L1Cur} {l : List Int} (h : Cur c) (hl : 0 < l.length) : Ens (f79 c l) fun r => r.1 ∈ l ∧ Cur r.2 := by
 unfold f79
 refine Ens.bind (belowOk h) fun a ha => ?_
 have h1 := ha.1
 have h2 := ha.2.2.1 (by omega)
 rw [ix_of h1, List.getElem?_eq_getElem (by omega), Option.bind_some]
 exact Ens.of ⟨List.getElem_mem _, ha.2.2.2⟩
end Go.Proofs.YtaanfdjhmhifiaaH
namespace Go.Proofs.YtaanfdjhmhifiaaH
open Go
end Go.Proofs.YtaanfdjhmhifiaaH
namespace Go.Proofs.YtaanfdjhmhifiaaH
open Go
abbrev Big (n : Nat) : Prop := n ≤ 9223372036854775806
theorem indexI {s : List Int} {f : Int → Option Bool} {p : Int → Bool} (h : Big s.length) (hf : ∀ a ∈ s, f a = some (p a)) : f54 s f = some (s.any p) := by
 unfold f54 f76
 obtain ⟨o, h1, h2⟩ := iter_idx (f := f76_0 s f) s p (fun i hi => by
  simp only [f76_0]
  rw [if_pos (by omega), ix_nat hi, w64_succ (by omega)]
  simp only [Option.bind_some, hf _ (List.getElem_mem hi)]
  split <;> rfl) (by
  simp only [f76_0]
  rw [if_neg (by omega)])
 rw [h1]
 cases o with
 | inl _ => dsimp only at h2; rw [h2]; rfl
 | inr x => dsimp only at h2; rw [h2.2]; simp; omega
end Go.Proofs.YtaanfdjhmhifiaaH
namespace Go.Proofs.YtaanfdjhmhifiaaH
open Go
end Go.Proofs.YtaanfdjhmhifiaaH
namespace Go.Proofs.YtaanfdjhmhifiaaH
open Go
def Fits (d : Database) : Prop := d.Relations.length ≤ 1048576 ∧ d.Facts.length ≤ 1048576 ∧ ∀ x ∈ d.Facts, x.Values.length ≤ 1048576
end Go.Proofs.YtaanfdjhmhifiaaH
namespace Go.Proofs.YtaanfdjhmhifiaaH
open Go
variable {α ρ : Type}
def good (q : α → Bool) (r : α → α → Bool) (l : List α) : Bool := decide (∀ i (h : i < l.length), (q l[i] && (decide (i = 0) || r (l[i - 1]'(by omega)) l[i])) = true)
theorem good_of {q : α → Bool} {r : α → α → Bool} {l : List α} (h : good q r l = true) {i : Nat} (hi : i < l.length) : q l[i] = true ∧ (0 < i → r (l[i - 1]'(by omega)) l[i] = true) := by
 have := of_decide_eq_true h i hi
 simp only [Bool.and_eq_true, Bool.or_eq_true, decide_eq_true_eq] at this
 exact ⟨this.1, fun hp => this.2.resolve_left (by omega)⟩
theorem iter_adj {f : Int → Option (Int ⊕ (Unit ⊕ ρ))} (q : α → Bool) (r : α → α → Bool) (L : List α) (c : ρ)
  (hs : ∀ (i : Nat) (h : i < L.length), f (i : Int) = some (if (q L[i] && (decide (i = 0) || r (L[i - 1]'(by omega)) L[i])) = true then .inl ((i + 1 : Nat) : Int) else .inr (.inr c)))
  (he : f (L.length : Int) = some (.inr (.inl ()))) : iter f 0 = some (if good q r L = true then .inl () else .inr c) := by
 obtain ⟨o, h1, h2⟩ := iter_up (f := f) L.length (fun i s => s = (i : Int) ∧ ∀ j (h : j < L.length), j < i → (q L[j] && (decide (j = 0) || r (L[j - 1]'(by omega)) L[j])) = true)
  (fun o => o = if good q r L = true then .inl () else .inr c) (fun i s hi ⟨h, hp⟩ => by
   subst h
   refine ⟨_, hs i hi, ?_⟩
   by_cases hc : (q L[i] && (decide (i = 0) || r (L[i - 1]'(by omega)) L[i])) = true
   ·rw [if_pos hc]
    refine ⟨rfl, fun j hj hlt => ?_⟩
    by_cases e : j = i
    ·subst e; exact hc
    ·exact hp j hj (by omega)
   ·rw [if_neg hc]
    dsimp only
    rw [if_neg]
    intro hg
    exact hc (of_decide_eq_true hg i hi)) (fun s ⟨h, hp⟩ => by
   subst h
   refine ⟨_, he, ?_⟩
   rw [if_pos]
   exact decide_eq_true fun i hi => hp i hi hi) 0 ⟨rfl, fun j _ h => by omega⟩
 rw [h1, h2]
def btw (x low high : Int) : Bool := decide (low ≤ x) && decide (x ≤ high)
theorem specIn {x a b : Int} : f21 x a b = some (btw x a b) := by
 unfold f21 btw
 by_cases h : a ≤ x
 ·rw [if_pos (show x ≥ a from h)]; simp [h]
 ·rw [if_neg (show ¬ x ≥ a from h)]; simp [h]
theorem impIn {x a b : Int} : f26 x a b = some (btw x a b) := by
 unfold f26 btw
 by_cases h : a ≤ x
 ·rw [if_pos h]; simp [h]
 ·rw [if_neg h]; simp [h]
def vRel (r : Relation) : Bool := decide (r.Name.length = 1) && (decide (97 ≤ (r.Name.getD 0 0).toNat) && (decide ((r.Name.getD 0 0).toNat ≤ 122) && (btw r.Arity 1 3 && btw r.KeyLength 0 r.Arity)))
theorem specRel {r : Relation} : f67 r = some (vRel r) := by
 unfold f67 vRel
 by_cases h1 : r.Name.length = 1
 ·rw [if_pos (by omega)]
  have e : ix r.Name 0 = some (r.Name.getD 0 0) := by rw [ix_of (by omega)]; simp [List.getElem?_eq_getElem (show 0 < r.Name.length by omega)]
  rw [e, Option.bind_some]
  generalize r.Name.getD 0 0 = c
  by_cases h2 : 97 ≤ c.toNat
  ·rw [if_pos (by omega)]
   by_cases h3 : c.toNat ≤ 122
   ·rw [if_pos (by omega), specIn, Option.bind_some]
    cases hb : btw r.Arity 1 3
    ·simp
    ·simp [specIn, h1, h2, h3]
   ·rw [if_neg (by omega)]; simp [h3]
  ·rw [if_neg (by omega)]; simp [h2]
 ·rw [if_neg (by omega)]; simp [h1]
theorem impRel {r : Relation} : f72 r = some (vRel r) := by
 unfold f72 vRel
 by_cases h1 : r.Name.length = 1
 ·rw [if_pos (by omega)]
  have e : ix r.Name 0 = some (r.Name.getD 0 0) := by rw [ix_of (by omega)]; simp [List.getElem?_eq_getElem (show 0 < r.Name.length by omega)]
  rw [e, Option.bind_some]
  generalize r.Name.getD 0 0 = c
  by_cases h2 : 97 ≤ c.toNat
  ·rw [if_pos (by omega)]
   by_cases h3 : c.toNat ≤ 122
   ·rw [if_pos (by omega), impIn, Option.bind_some]
    cases hb : btw r.Arity 1 3
    ·simp
    ·simp [impIn, h1, h2, h3]
   ·rw [if_neg (by omega)]; simp [h3]
  ·rw [if_neg (by omega)]; simp [h2]
 ·rw [if_neg (by omega)]; simp [h1]
def vRels (l : List Relation) : Bool := good vRel (fun a b => Op.bytesLess a.Name b.Name) l && decide (l.length ≤ 4)
theorem specRels {l : List Relation} (h : Big l.length) : f43 l = some (vRels l) := by
 unfold f43 vRels
 rw [iter_adj vRel (fun a b => Op.bytesLess a.Name b.Name) l false (fun i hi => by
  simp only [f43_0]
  rw [if_pos (by omega), ix_nat hi, w64_succ (by omega)]
  simp only [Option.bind_some, specRel]
  cases vRel l[i]
  ·simp
  ·by_cases h0 : i = 0
   ·subst h0; simp
   ·have e : ix l (w64 ((i : Int) - 1)) = some (l[i - 1]'(by omega)) := by rw [w64_of (by omega), show (i : Int) - 1 = ((i - 1 : Nat) : Int) by omega, ix_nat (by omega)]
    simp only [e]
    have : 0 < i := by omega
    cases hb : Op.bytesLess (l[i - 1]'(by omega)).Name l[i].Name <;> simp [h0, this, hb]) (by
  simp only [f43_0]
  rw [if_neg (by omega)])]
 cases good vRel (fun a b => Op.bytesLess a.Name b.Name) l
 ·simp
 ·simp; omega
theorem impRels {l : List Relation} (h : Big l.length) : f50 l = some (vRels l) := by
 unfold f50 vRels
 rw [iter_adj vRel (fun a b => Op.bytesLess a.Name b.Name) l false (fun i hi => by
  simp only [f50_0]
  rw [if_pos (by omega), ix_nat hi, w64_succ (by omega)]
  simp only [Option.bind_some, impRel]
  cases vRel l[i]
  ·simp
  ·by_cases h0 : i = 0
   ·subst h0; simp
   ·have e : ix l (w64 ((i : Int) - 1)) = some (l[i - 1]'(by omega)) := by rw [w64_of (by omega), show (i : Int) - 1 = ((i - 1 : Nat) : Int) by omega, ix_nat (by omega)]
    simp only [e]
    have : 0 < i := by omega
    cases hb : Op.bytesLess (l[i - 1]'(by omega)).Name l[i].Name <;> simp [h0, this, hb]) (by
  simp only [f50_0]
  rw [if_neg (by omega)])]
 cases good vRel (fun a b => Op.bytesLess a.Name b.Name) l
 ·simp
 ·simp; omega
theorem vRels_len {l : List Relation} (h : vRels l = true) : l.length ≤ 4 := by
 unfold vRels at h; simp only [Bool.and_eq_true, decide_eq_true_eq] at h; exact h.2
def arity (l : List Relation) (r : Int) : Int := (l[r.toNat]?.map (·.Arity)).getD 0
def keyLen (l : List Relation) (r : Int) : Int := (l[r.toNat]?.map (·.KeyLength)).getD 0
def vVals (l : List Int) : Bool := l.all fun v => btw v 0 9
def vFact (l : List Relation) (f : Fact) : Bool := btw f.Relation 0 (l.length - 1) && (decide ((f.Values.length : Int) = arity l f.Relation) && vVals f.Values)
theorem ix_rel {l : List Relation} {r : Int} (h : btw r 0 (l.length - 1) = true) : ∃ x, ix l r = some x ∧ x ∈ l ∧ x.Arity = arity l r ∧ x.KeyLength = keyLen l r := by
 unfold btw at h; simp only [Bool.and_eq_true, decide_eq_true_eq] at h
 have e : l[r.toNat]? = some (l[r.toNat]'(by omega)) := List.getElem?_eq_getElem _
 refine ⟨l[r.toNat]'(by omega), ?_, List.getElem_mem _, ?_, ?_⟩
 ·rw [ix_of h.1, e]
 ·unfold arity; rw [e]; rfl
 ·unfold keyLen; rw [e]; rfl
theorem specFact {l : List Relation} {f : Fact} (h : Big l.length) (hf : Big f.Values.length) : f41 l f = some (vRels l && vFact l f) := by
 unfold f41 vFact
 rw [specRels h, Option.bind_some]
 cases vRels l
 ·simp
 ·rw [w64_of (by omega), specIn]
  cases hb : btw f.Relation 0 (l.length - 1)
  ·simp
  ·obtain ⟨x, h1, _, h2, _⟩ := ix_rel hb
   rw [h1]
   by_cases ha : (f.Values.length : Int) = arity l f.Relation
   ·rw [iter_ex f.Values (fun v => !btw v 0 9) false (fun i hi => by
     simp only [f41_0]
     rw [if_pos (by omega), ix_nat hi, w64_succ (by omega)]
     simp only [Option.bind_some, specIn]
     cases btw f.Values[i] 0 9 <;> simp) (by
     simp only [f41_0]
     rw [if_neg (by omega)])]
    unfold vVals
    rw [any_not]
    cases f.Values.all (fun v => btw v 0 9) <;> simp [h2, ha]
   ·simp [h2, ha]
theorem impVals {l : List Int} (h : Big l.length) : f73 l = some (vVals l) := by
 unfold f73
 rw [indexI (p := fun v => !btw v 0 9) h (fun v _ => by
  unfold f83
  rw [impIn]; cases btw v 0 9 <;> simp)]
 unfold vVals
 rw [any_not]
 cases l.all (fun v => btw v 0 9) <;> simp
theorem impFact {l : List Relation} {f : Fact} (h : Big l.length) (hf : Big f.Values.length) : f51 l f = some (vFact l f) := by
 unfold f51 vFact
 rw [w64_of (by omega), impIn]
 cases hb : btw f.Relation 0 (l.length - 1)
 ·simp
 ·obtain ⟨x, h1, _, h2, _⟩ := ix_rel hb
  rw [h1]
  by_cases ha : (f.Values.length : Int) = arity l f.Relation
  ·simp [h2, ha, impVals hf]
  ·simp [h2, ha]
def cmpL : List Int → List Int → Int
 | [], [] => 0
 | [], _ :: _ => -1
 | _ :: _, [] => 1
 | a :: s, b :: t => if a < b then -1 else if a > b then 1 else cmpL s t
theorem cmpL_step {a b : List Int} {i : Nat} (ha : i < a.length) (hb : i < b.length) : cmpL (a.drop i) (b.drop i) = if a[i] < b[i] then -1 else if a[i] > b[i] then 1 else cmpL (a.drop (i + 1)) (b.drop (i + 1)) := by
 rw [List.drop_eq_getElem_cons ha, List.drop_eq_getElem_cons hb, cmpL]
theorem cmpL_end {a b : List Int} {i : Nat} (h : a.length ≤ i ∨ b.length ≤ i) (hi : i ≤ a.length ∧ i ≤ b.length) : cmpL (a.drop i) (b.drop i) = if a.length < b.length then -1 else if a.length > b.length then 1 else 0 := by
 rcases h with h | h
 ·rw [List.drop_of_length_le h]
  by_cases e : b.length ≤ i
  ·rw [List.drop_of_length_le e, cmpL, if_neg (by omega), if_neg (by omega)]
  ·rw [List.drop_eq_getElem_cons (by omega : i < b.length), cmpL, if_pos (by omega)]
 ·rw [List.drop_of_length_le h]
  by_cases e : a.length ≤ i
  ·rw [List.drop_of_length_le e, cmpL, if_neg (by omega), if_neg (by omega)]
  ·rw [List.drop_eq_getElem_cons (by omega : i < a.length), cmpL, if_neg (by omega), if_pos (by omega)]
theorem specInts {a b : List Int} (ha : Big a.length) (hb : Big b.length) : f66 a b = some (cmpL a b) := by
 unfold f66
 refine Ens.eq (Q := fun r => r = cmpL a b) (Ens.bind (Q := fun o => match o with | .inl _ => (if a.length < b.length then -1 else if a.length > b.length then 1 else 0) = cmpL a b | .inr x => x = cmpL a b) ?_ fun o ho => ?_) _ (fun _ h => h)
 ·refine iter_up (f := f66_0 a b) (min a.length b.length) (fun i s => s = (i : Int) ∧ cmpL (a.drop i) (b.drop i) = cmpL a b) _ (fun i s hi ⟨h, hp⟩ => ?_) (fun s ⟨h, hp⟩ => ?_) 0 ⟨rfl, rfl⟩
  ·subst h
   have h1 : i < a.length := by omega
   have h2 : i < b.length := by omega
   simp only [f66_0]
   rw [if_pos (by omega), ix_nat h1, ix_nat h2, w64_succ (by omega)]
   rw [cmpL_step h1 h2] at hp
   simp only [Option.bind_some, show (i : Int) < b.length by omega, decide_true, if_true]
   by_cases c1 : a[i] < b[i]
   ·rw [if_pos c1] at hp ⊢
    exact ⟨_, rfl, hp⟩
   ·rw [if_neg c1] at hp ⊢
    by_cases c2 : a[i] > b[i]
    ·rw [if_pos c2] at hp ⊢; exact ⟨_, rfl, hp⟩
    ·rw [if_neg c2] at hp ⊢; exact ⟨_, rfl, rfl, hp⟩
  ·subst h
   rw [cmpL_end (by omega) (by omega)] at hp
   simp only [f66_0]
   by_cases c : ((min a.length b.length : Nat) : Int) < a.length
   ·rw [if_pos c]
    simp only [Option.bind_some, show ¬ ((min a.length b.length : Nat) : Int) < b.length by omega, decide_false]
    exact ⟨_, rfl, hp⟩
   ·rw [if_neg c]; exact ⟨_, rfl, hp⟩
 ·cases o with
  | inl _ =>
   dsimp only at ho ⊢
   by_cases c1 : a.length < b.length
   ·rw [if_pos c1] at ho; rw [if_pos (by omega)]; exact Ens.of ho
   ·rw [if_neg c1] at ho; rw [if_neg (by omega)]
    by_cases c2 : a.length > b.length
    ·rw [if_pos c2] at ho; rw [if_pos (by omega)]; exact Ens.of ho
    ·rw [if_neg c2] at ho; rw [if_neg (by omega)]; exact Ens.of ho
  | inr x => exact Ens.of ho
theorem cmpInt {a b : Int} : f84 a b = some (if a < b then -1 else if a > b then 1 else 0) := by
 unfold f84 f88
 simp only [ne_eq, not_true_eq_false, decide_false, Option.bind_some, Bool.false_eq_true, if_false]
 split
 ·rfl
 ·split <;> rfl
theorem impInts {a b : List Int} (ha : Big a.length) (hb : Big b.length) : f75 a b = some (cmpL a b) := by
 unfold f75
 refine Ens.eq (Q := fun r => r = cmpL a b) (Ens.bind (Q := fun o => match o with | .inl _ => (if a.length < b.length then -1 else 0) = cmpL a b | .inr x => x = cmpL a b) ?_ fun o ho => ?_) _ (fun _ h => h)
 ·refine iter_up (f := f75_0 a b) a.length (fun i s => s = (i : Int) ∧ i ≤ b.length ∧ cmpL (a.drop i) (b.drop i) = cmpL a b) _ (fun i s hi ⟨h, hl, hp⟩ => ?_) (fun s ⟨h, hl, hp⟩ => ?_) 0 ⟨rfl, by omega, rfl⟩
  ·subst h
   simp only [f75_0]
   rw [if_pos (by omega), ix_nat hi, w64_succ (by omega)]
   by_cases h2 : i < b.length
   ·rw [Option.bind_some, if_neg (by omega), ix_nat h2]
    rw [cmpL_step hi h2] at hp
    simp only [Option.bind_some, cmpInt]
    by_cases c1 : a[i] < b[i]
    ·rw [if_pos c1] at hp ⊢
     rw [if_pos (by omega)]; exact ⟨_, rfl, hp⟩
    ·rw [if_neg c1] at hp ⊢
     by_cases c2 : a[i] > b[i]
     ·rw [if_pos c2] at hp ⊢; rw [if_pos (by omega)]; exact ⟨_, rfl, hp⟩
     ·rw [if_neg c2] at hp ⊢; rw [if_neg (by omega)]; exact ⟨_, rfl, rfl, by omega, hp⟩
   ·rw [Option.bind_some, if_pos (by omega)]
    rw [cmpL_end (by omega) (by omega), if_neg (by omega), if_pos (by omega)] at hp
    exact ⟨_, rfl, hp⟩
  ·subst h
   simp only [f75_0]
   rw [if_neg (by omega)]
   rw [cmpL_end (by omega) (by omega)] at hp
   refine ⟨_, rfl, ?_⟩
   dsimp only
   rw [← hp]
   by_cases c1 : a.length < b.length
   ·rw [if_pos c1, if_pos c1]
   ·rw [if_neg c1, if_neg c1, if_neg (by omega)]
 ·cases o with
  | inl _ =>
   dsimp only at ho ⊢
   by_cases c1 : a.length < b.length
   ·rw [if_pos c1] at ho; rw [if_pos (by omega)]; exact Ens.of ho
   ·rw [if_neg c1] at ho; rw [if_neg (by omega)]; exact Ens.of ho
  | inr x => exact Ens.of ho
def cmpF (a b : Fact) : Int := if a.Relation < b.Relation then -1 else if a.Relation > b.Relation then 1 else cmpL a.Values b.Values
theorem specCmp {a b : Fact} (ha : Big a.Values.length) (hb : Big b.Values.length) : f42 a b = some (cmpF a b) := by
 unfold f42 cmpF
 rw [specInts ha hb]
 split
 ·rfl
 ·split <;> rfl
theorem impCmp {a b : Fact} (ha : Big a.Values.length) (hb : Big b.Values.length) : f52 a b = some (cmpF a b) := by
 unfold f52 f74 cmpF
 rw [impInts ha hb]
 by_cases c1 : a.Relation < b.Relation
 ·rw [if_pos (by omega), if_pos c1, if_pos c1]; rfl
 ·rw [if_neg c1, if_neg c1]
  by_cases c2 : a.Relation > b.Relation
  ·rw [if_pos (by omega), if_pos c2, if_pos c2]; rfl
  ·rw [if_neg (by omega), if_neg c2]; rfl
def Room (d : Database) : Prop := Big d.Relations.length ∧ Big d.Facts.length ∧ ∀ x ∈ d.Facts, Big x.Values.length
theorem fits_room {d : Database} (h : Fits d) : Room d := ⟨by have := h.1; omega, by have := h.2.1; omega, fun x hx => by have := h.2.2 x hx; omega⟩
def gFacts (d : Database) : Bool := good (vFact d.Relations) (fun a b => decide (cmpF a b < 0)) d.Facts
def vDb (d : Database) : Bool := vRels d.Relations && (decide (d.Facts.length ≤ 14) && gFacts d)
theorem good_congr {q q' : α → Bool} {r : α → α → Bool} {l : List α} (h : ∀ a ∈ l, q a = q' a) : good q r l = good q' r l := by
 unfold good
 congr 1
 apply propext
 constructor
 ·intro g i hi; rw [← h _ (List.getElem_mem hi)]; exact g i hi
 ·intro g i hi; rw [h _ (List.getElem_mem hi)]; exact g i hi
theorem specDb {d : Database} (h : Room d) : f18 d = some (vDb d) := by
 obtain ⟨h1, h2, h3⟩ := h
 unfold f18
 rw [iter_adj (fun f => vRels d.Relations && vFact d.Relations f) (fun a b => decide (cmpF a b < 0)) d.Facts false (fun i hi => by
  simp only [f18_0]
  rw [if_pos (by omega), ix_nat hi, w64_succ (by omega)]
  simp only [Option.bind_some, specFact h1 (h3 _ (List.getElem_mem hi))]
  cases (vRels d.Relations && vFact d.Relations d.Facts[i])
  ·simp
  ·by_cases h0 : i = 0
   ·subst h0; simp
   ·have e : ix d.Facts (w64 ((i : Int) - 1)) = some (d.Facts[i - 1]'(by omega)) := by rw [w64_of (by omega), show (i : Int) - 1 = ((i - 1 : Nat) : Int) by omega, ix_nat (by omega)]
    simp only [e, Option.bind_some, specCmp (h3 _ (List.getElem_mem (show i - 1 < d.Facts.length by omega))) (h3 _ (List.getElem_mem hi))]
    have : 0 < i := by omega
    by_cases hb : cmpF (d.Facts[i - 1]'(by omega)) d.Facts[i] < 0
    ·simp [h0, this, hb, Int.not_le.2 hb]
    ·simp [h0, this, hb, show 0 ≤ cmpF (d.Facts[i - 1]'(by omega)) d.Facts[i] by omega]) (by
  simp only [f18_0]
  rw [if_neg (by omega)])]
 unfold vDb
 rw [specRels h1]
 cases hv : vRels d.Relations
 ·split <;> simp
 ·have e : good (fun f => true && vFact d.Relations f) (fun a b => decide (cmpF a b < 0)) d.Facts = gFacts d := good_congr fun a _ => Bool.true_and _
  rw [e]
  cases gFacts d
  ·simp
  ·simp; omega
theorem impDb {d : Database} (h : Room d) : f25 d = some (vDb d) := by
 obtain ⟨h1, h2, h3⟩ := h
 unfold f25 vDb
 rw [impRels h1, Option.bind_some]
 cases vRels d.Relations
 ·simp
 ·by_cases hn : d.Facts.length ≤ 14
  ·rw [iter_adj (vFact d.Relations) (fun a b => decide (cmpF a b < 0)) d.Facts false (fun i hi => by
    simp only [f25_0]
    rw [if_pos (by omega), ix_nat hi, w64_succ (by omega)]
    simp only [Option.bind_some, impFact h1 (h3 _ (List.getElem_mem hi))]
    cases vFact d.Relations d.Facts[i]
    ·simp
    ·by_cases h0 : i = 0
     ·subst h0; simp
     ·have e : ix d.Facts (w64 ((i : Int) - 1)) = some (d.Facts[i - 1]'(by omega)) := by rw [w64_of (by omega), show (i : Int) - 1 = ((i - 1 : Nat) : Int) by omega, ix_nat (by omega)]
      simp only [e, Option.bind_some, impCmp (h3 _ (List.getElem_mem (show i - 1 < d.Facts.length by omega))) (h3 _ (List.getElem_mem hi))]
      have : 0 < i := by omega
      by_cases hb : cmpF (d.Facts[i - 1]'(by omega)) d.Facts[i] < 0
      ·simp [h0, this, hb, Int.not_le.2 hb]
      ·simp [h0, this, hb, show 0 ≤ cmpF (d.Facts[i - 1]'(by omega)) d.Facts[i] by omega]) (by
    simp only [f25_0]
    rw [if_neg (by omega)])]
   change _ = some (true && (decide (d.Facts.length ≤ 14) && good (vFact d.Relations) (fun a b => decide (cmpF a b < 0)) d.Facts))
   cases good (vFact d.Relations) (fun a b => decide (cmpF a b < 0)) d.Facts
   ·simp
   ·simp [hn]; omega
  ·simp [hn]; omega
def asc (n : Int) (l : List Int) : Bool := good (fun v => btw v 0 (n - 1)) (fun a b => decide (a < b)) l
theorem specSet {d : Database} {l : List Int} (hd : Big d.Facts.length) (h : Big l.length) : f69 d l = some (asc d.Facts.length l) := by
 unfold f69
 rw [iter_adj (fun v => btw v 0 ((d.Facts.length : Int) - 1)) (fun a b => decide (a < b)) l false (fun i hi => by
  simp only [f69_0]
  rw [if_pos (by omega), ix_nat hi, w64_succ (by omega), w64_of (n := (d.Facts.length : Int) - 1) (by omega)]
  simp only [Option.bind_some, specIn]
  cases btw l[i] 0 ((d.Facts.length : Int) - 1)
  ·simp
  ·by_cases h0 : i = 0
   ·subst h0; simp
   ·have e : ix l (w64 ((i : Int) - 1)) = some (l[i - 1]'(by omega)) := by rw [w64_of (by omega), show (i : Int) - 1 = ((i - 1 : Nat) : Int) by omega, ix_nat (by omega)]
    simp only [e]
    have : 0 < i := by omega
    by_cases hb : l[i - 1]'(by omega) < l[i]
    ·simp [h0, this, hb, Int.not_le.2 hb]
    ·simp [h0, this, hb, Int.not_lt.1 hb]) (by
  simp only [f69_0]
  rw [if_neg (by omega)])]
 unfold asc
 cases good (fun v => btw v 0 ((d.Facts.length : Int) - 1)) (fun a b => decide (a < b)) l <;> simp
theorem impSet {l : List Int} {n : Nat} (hd : Big n) (h : Big l.length) : f63 l n = some (asc n l) := by
 unfold f63
 rw [iter_adj (fun v => btw v 0 ((n : Int) - 1)) (fun a b => decide (a < b)) l false (fun i hi => by
  simp only [f63_0]
  rw [if_pos (by omega), ix_nat hi, w64_succ (by omega), w64_of (n := (n : Int) - 1) (by omega)]
  simp only [Option.bind_some, impIn]
  cases btw l[i] 0 ((n : Int) - 1)
  ·simp
  ·by_cases h0 : i = 0
   ·subst h0; simp
   ·have e : ix l (w64 ((i : Int) - 1)) = some (l[i - 1]'(by omega)) := by rw [w64_of (by omega), show (i : Int) - 1 = ((i - 1 : Nat) : Int) by omega, ix_nat (by omega)]
    simp only [e]
    have : 0 < i := by omega
    by_cases hb : l[i - 1]'(by omega) < l[i]
    ·simp [h0, this, hb, Int.not_le.2 hb]
    ·simp [h0, this, hb, Int.not_lt.1 hb]) (by
  simp only [f63_0]
  rw [if_neg (by omega)])]
 unfold asc
 cases good (fun v => btw v 0 ((n : Int) - 1)) (fun a b => decide (a < b)) l <;> simp
end Go.Proofs.YtaanfdjhmhifiaaH
namespace Go.Proofs.YtaanfdjhmhifiaaH
open Go
variable {α ρ : Type}
theorem nodup_le : ∀ {n : Nat} {H : List Int}, H.Nodup → (∀ v ∈ H, 0 ≤ v ∧ v < n) → H.length ≤ n
 | 0, [], _, _ => by simp
 | 0, a :: H, _, h => by have := h a (by simp); omega
 | n + 1, H, hd, h => by
  have h1 : (H.erase ((n : Nat) : Int)).length ≤ n := nodup_le (hd.erase _) fun v hv => by
   have h2 := h v (List.mem_of_mem_erase hv)
   have h3 := (List.Nodup.mem_erase_iff hd).1 hv
   have := h3.1
   omega
  have h2 := List.length_erase (l := H) (a := ((n : Nat) : Int))
  split at h2 <;> omega
theorem cmpL_trans : ∀ {a b c : List Int}, cmpL a b < 0 → cmpL b c < 0 → cmpL a c < 0
 | [], _, [], h1, h2 => by
  rename_i b
  cases b with
  | nil => simp [cmpL] at h1
  | cons y b => simp [cmpL] at h2
 | [], _, _ :: _, h1, h2 => by simp [cmpL]
 | _ :: _, [], _, h1, h2 => by simp [cmpL] at h1
 | _ :: _, _ :: _, [], h1, h2 => by simp [cmpL] at h2
 | x :: a, y :: b, z :: c, h1, h2 => by
  rw [cmpL] at h1 h2 ⊢
  by_cases c1 : x < y
  ·by_cases c2 : y < z
   ·rw [if_pos (by omega)]; omega
   ·rw [if_neg c2] at h2
    by_cases c3 : y > z
    ·rw [if_pos c3] at h2; omega
    ·rw [if_pos (by omega)]; omega
  ·rw [if_neg c1] at h1
   by_cases c3 : x > y
   ·rw [if_pos c3] at h1; omega
   ·rw [if_neg c3] at h1
    by_cases c2 : y < z
    ·rw [if_pos (by omega)]; omega
    ·rw [if_neg c2] at h2
     by_cases c4 : y > z
     ·rw [if_pos c4] at h2; omega
     ·rw [if_neg c4] at h2
      rw [if_neg (by omega), if_neg (by omega)]
      exact cmpL_trans h1 h2
theorem cmpL_conv : ∀ {m : Nat} {a b c : List Int}, cmpL a b < 0 → cmpL b c < 0 → m ≤ a.length → m ≤ b.length → m ≤ c.length → a.take m = c.take m → a.take m = b.take m
 | 0, _, _, _, _, _, _, _, _, _ => by simp
 | m + 1, [], _, _, _, _, h, _, _, _ => by simp at h
 | m + 1, _ :: _, [], _, _, _, _, h, _, _ => by simp at h
 | m + 1, _ :: _, _ :: _, [], _, _, _, _, h, _ => by simp at h
 | m + 1, x :: a, y :: b, z :: c, h1, h2, l1, l2, l3, h => by
  simp only [List.take_succ_cons, List.cons.injEq] at h ⊢
  obtain ⟨rfl, h⟩ := h
  simp only [List.length_cons] at l1 l2 l3
  rw [cmpL] at h1 h2
  have e : x = y := by
   by_cases c1 : x < y
   ·rw [if_neg (by omega), if_pos (by omega)] at h2; omega
   ·rw [if_neg c1] at h1
    by_cases c2 : x > y
    ·rw [if_pos c2] at h1; omega
    ·omega
  subst e
  rw [if_neg (by omega), if_neg (by omega)] at h1 h2
  exact ⟨rfl, cmpL_conv h1 h2 (by omega) (by omega) (by omega) h⟩
theorem cmpL_eq : ∀ {a b : List Int}, cmpL a b = 0 ↔ a = b
 | [], [] => by simp [cmpL]
 | [], _ :: _ => by simp [cmpL]
 | _ :: _, [] => by simp [cmpL]
 | x :: a, y :: b => by
  rw [cmpL]
  by_cases c1 : x < y
  ·rw [if_pos c1]; simp; intro h; omega
  ·rw [if_neg c1]
   by_cases c2 : x > y
   ·rw [if_pos c2]; simp; intro h; omega
   ·rw [if_neg c2, cmpL_eq]
    simp only [List.cons.injEq]
    exact ⟨fun h => ⟨by omega, h⟩, fun h => h.2⟩
theorem cmpF_trans {a b c : Fact} (h1 : cmpF a b < 0) (h2 : cmpF b c < 0) : cmpF a c < 0 := by
 unfold cmpF at h1 h2 ⊢
 by_cases c1 : a.Relation < b.Relation
 ·by_cases c2 : b.Relation > c.Relation
  ·rw [if_neg (by omega), if_pos c2] at h2; omega
  ·rw [if_pos (by omega)]; omega
 ·rw [if_neg c1] at h1
  by_cases c3 : a.Relation > b.Relation
  ·rw [if_pos c3] at h1; omega
  ·rw [if_neg c3] at h1
   by_cases c2 : b.Relation < c.Relation
   ·rw [if_pos (by omega)]; omega
   ·rw [if_neg c2] at h2
    by_cases c4 : b.Relation > c.Relation
    ·rw [if_pos c4] at h2; omega
    ·rw [if_neg c4] at h2
     rw [if_neg (by omega), if_neg (by omega)]
     exact cmpL_trans h1 h2
def keyOf (l : List Relation) (a : Fact) : List Int := a.Values.take (keyLen l a.Relation).toNat
def same (l : List Relation) (a b : Fact) : Bool := decide (a.Relation = b.Relation) && decide (keyOf l a = keyOf l b)
theorem vRel_mem {l : List Relation} (h : vRels l = true) {r : Relation} (hr : r ∈ l) : vRel r = true := by
 unfold vRels at h; simp only [Bool.and_eq_true] at h
 obtain ⟨i, hi, rfl⟩ := List.mem_iff_getElem.1 hr
 exact (good_of h.1 hi).1
theorem key_le {l : List Relation} {f : Fact} (h : vRels l = true) (hf : vFact l f = true) : ∃ x, ix l f.Relation = some x ∧ x.KeyLength = keyLen l f.Relation ∧ 0 ≤ keyLen l f.Relation ∧ keyLen l f.Relation ≤ f.Values.length := by
 unfold vFact at hf; simp only [Bool.and_eq_true, decide_eq_true_eq] at hf
 obtain ⟨x, h1, h2, h3, h4⟩ := ix_rel hf.1
 have := vRel_mem h h2
 unfold vRel btw at this
 simp only [Bool.and_eq_true, decide_eq_true_eq] at this
 exact ⟨x, h1, h4, by omega, by omega⟩
theorem specKey {l : List Relation} {f : Fact} (hl : Big l.length) (hv : f.Values.length ≤ 1048576) (h : vRels l = true) (hf : vFact l f = true) : f90 l f = some (keyOf l f) := by
 unfold f90
 rw [specFact hl (by omega), h, hf]
 obtain ⟨x, h1, h2, h3, h4⟩ := key_le h hf
 simp only [Bool.and_self, Option.bind_some, not_true_eq_false, if_false, h1]
 rw [h2, cutL_ok (by omega) h3 h4, Option.bind_some, app_fits (by simp; omega)]
 simp [keyOf]
theorem specSame {l : List Relation} {a b : Fact} (hl : Big l.length) (ha : a.Values.length ≤ 1048576) (hb : b.Values.length ≤ 1048576) (h : vRels l = true) (va : vFact l a = true) (vb : vFact l b = true) : f87 l a b = some (same l a b) := by
 unfold f87 same
 rw [specFact hl (by omega), specFact hl (by omega), h, va, vb, specKey hl ha h va, specKey hl hb h vb]
 have k1 : Big (keyOf l a).length := by unfold keyOf; simp; omega
 have k2 : Big (keyOf l b).length := by unfold keyOf; simp; omega
 by_cases c : a.Relation = b.Relation
 ·simp only [Bool.and_self, Option.bind_some, if_true, c, specInts k1 k2, decide_true, Bool.true_and]
  by_cases e : keyOf l a = keyOf l b
  ·rw [cmpL_eq.2 e]; simp [e]
  ·have : ¬ cmpL (keyOf l a) (keyOf l b) = 0 := fun h => e (cmpL_eq.1 h)
   simp [this, e]
 ·simp [c]
theorem eqSl {a b : List Int} (ha : Big a.length) : f77 a b = some (decide (a = b)) := by
 unfold f77
 by_cases hl : a.length = b.length
 ·rw [if_neg (by omega)]
  rw [iter_ex (List.range a.length) (fun i => decide (a[i]? ≠ b[i]?)) false (fun i hi => by
   simp only [List.length_range] at hi
   simp only [f77_0, List.getElem_range]
   rw [if_pos (by omega), ix_nat hi, ix_nat (by omega : i < b.length), w64_succ (by omega), List.getElem?_eq_getElem hi, List.getElem?_eq_getElem (by omega : i < b.length)]
   by_cases c : a[i] = b[i]'(by omega)
   ·simp [c]
   ·simp [c]) (by
   simp only [f77_0]
   rw [if_neg (by simp)])]
  by_cases e : a = b
  ·subst e; simp
  ·have : ((List.range a.length).any fun i => decide (a[i]? ≠ b[i]?)) = true := by
    apply Classical.byContradiction
    intro hn
    apply e
    apply List.ext_getElem hl
    intro i h1 h2
    apply Classical.byContradiction
    intro hne
    exact hn (List.any_eq_true.2 ⟨i, List.mem_range.2 h1, by simp [List.getElem?_eq_getElem h1, List.getElem?_eq_getElem h2, hne]⟩)
   rw [if_pos this]; simp [e]
 ·rw [if_pos (by omega)]
  have : a ≠ b := fun h => hl (by rw [h])
  simp [this]
theorem impSame {l : List Relation} {a b : Fact} (ha : a.Values.length ≤ 1048576) (hb : b.Values.length ≤ 1048576) (h : vRels l = true) (va : vFact l a = true) (vb : vFact l b = true) : f56 l a b = some (same l a b) := by
 unfold f56 same
 obtain ⟨x, h1, h2, h3, h4⟩ := key_le h va
 obtain ⟨x', h1', h2', h3', h4'⟩ := key_le h vb
 by_cases c : a.Relation = b.Relation
 ·rw [if_neg (by simp [c]), h1, Option.bind_some, h2, cutL_ok (by omega) h3 h4, Option.bind_some, cutL_ok (by omega) h3 (by rw [c]; exact h4'), Option.bind_some, eqSl (by simp; omega)]
  simp [keyOf, c]
 ·rw [if_pos c]; simp [c]
structure Kin (n : Nat) (sk : Nat → Nat → Bool) : Prop where
 refl : ∀ i, i < n → sk i i = true
 symm : ∀ i k, i < n → k < n → sk i k = sk k i
 trans : ∀ i j k, i < n → j < n → k < n → sk i j = true → sk j k = true → sk i k = true
 conv : ∀ i j k, i ≤ j → j ≤ k → k < n → sk i k = true → sk i j = true
variable {n : Nat} {sk : Nat → Nat → Bool}
def blk (sk : Nat → Nat → Bool) (i x : Nat) : List Int := (List.range x).flatMap fun k => if sk i k = true then [((k : Nat) : Int)] else []
def start (sk : Nat → Nat → Bool) (i : Nat) : Bool := (List.range i).all fun k => !sk k i
def blks (sk : Nat → Nat → Bool) (y x : Nat) : List (List Int) := (List.range y).flatMap fun i => if start sk i = true then [blk sk i x] else []
theorem blk_succ {i x : Nat} : blk sk i (x + 1) = blk sk i x ++ if sk i x = true then [((x : Nat) : Int)] else [] := by simp [blk, List.range_succ]
theorem blks_succ {y x : Nat} : blks sk (y + 1) x = blks sk y x ++ if start sk y = true then [blk sk y x] else [] := by simp [blks, List.range_succ]
theorem blk_len {i x : Nat} : (blk sk i x).length ≤ x := by
 induction x with
 | zero => simp [blk]
 | succ x ih => rw [blk_succ, List.length_append]; split <;> simp <;> omega
theorem blks_len {y x : Nat} : (blks sk y x).length ≤ y := by
 induction y with
 | zero => simp [blks]
 | succ y ih => rw [blks_succ, List.length_append]; split <;> simp <;> omega
theorem blk_none {i s : Nat} (h : ∀ k, k < s → sk i k = false) : blk sk i s = [] := by
 induction s with
 | zero => simp [blk]
 | succ s ih => rw [blk_succ, ih fun k hk => h k (by omega), h s (by omega)]; simp
theorem blk_first {i s x : Nat} (h : ∀ k, k < s → sk i k = false) (hs : sk i s = true) (hx : s < x) : ∃ t, blk sk i x = (s : Int) :: t := by
 induction x with
 | zero => omega
 | succ x ih =>
  rw [blk_succ]
  by_cases e : s = x
  ·subst e; rw [blk_none h, if_pos hs]; exact ⟨[], rfl⟩
  ·obtain ⟨t, ht⟩ := ih (by omega)
   rw [ht]; exact ⟨_, rfl⟩
theorem start_iff {i : Nat} : start sk i = true ↔ ∀ k, k < i → sk k i = false := by
 unfold start; rw [List.all_eq_true]
 simp only [List.mem_range, Bool.not_eq_true']
theorem not_start {i : Nat} (h : start sk i = false) : ∃ s, s < i ∧ sk s i = true ∧ ∀ k, k < s → sk k i = false := by
 have : ∃ s, s < i ∧ sk s i = true := by
  apply Classical.byContradiction
  intro hn
  have : start sk i = true := start_iff.2 fun k hk => by
   cases hb : sk k i
   ·rfl
   ·exact (hn ⟨k, hk, hb⟩).elim
  rw [h] at this; cases this
 obtain ⟨s, h1, h2⟩ := this
 induction s using Nat.strongRecOn with
 | _ s ih =>
  by_cases c : ∃ k, k < s ∧ sk k i = true
  ·obtain ⟨k, hk, hc⟩ := c
   exact ih k hk (by omega) hc
  ·refine ⟨s, h1, h2, fun k hk => ?_⟩
   cases hb : sk k i
   ·rfl
   ·exact (c ⟨k, hk, hb⟩).elim
theorem blk_head (K : Kin n sk) {i x : Nat} (hi : i < n) (hx : x ≤ n) (hix : i < x) : ∃ (s : Nat) (t : List Int), blk sk i x = (s : Int) :: t ∧ s ≤ i ∧ (s = i ↔ start sk i = true) := by
 cases hs : start sk i
 ·obtain ⟨s, h1, h2, h3⟩ := not_start hs
  obtain ⟨t, ht⟩ := blk_first (sk := sk) (i := i) (s := s) (x := x) (fun k hk => by rw [K.symm i k hi (by omega)]; exact h3 k hk) (by rw [K.symm i s hi (by omega)]; exact h2) (by omega)
  refine ⟨s, t, ht, by omega, ?_⟩
  simp; omega
 ·obtain ⟨t, ht⟩ := blk_first (sk := sk) (i := i) (s := i) (x := x) (fun k hk => by rw [K.symm i k hi (by omega)]; exact start_iff.1 hs k hk) (K.refl i hi) hix
  exact ⟨i, t, ht, by omega, by simp⟩
theorem blks_bnd {y x : Nat} (h : ∀ i, i < y → start sk i = true → sk i x = false) : blks sk y (x + 1) = blks sk y x := by
 induction y with
 | zero => simp [blks]
 | succ y ih =>
  rw [blks_succ, blks_succ, ih fun i hi => h i (by omega)]
  by_cases c : start sk y = true
  ·rw [if_pos c, if_pos c, blk_succ, h y (by omega) c]; simp
  ·rw [if_neg c, if_neg c]
theorem blks_nost {s y x : Nat} (hs : s ≤ y) (h : ∀ i, s ≤ i → i < y → start sk i = false) : blks sk y x = blks sk s x := by
  induction y with
  | zero => have : s = 0 := by omega
            subst this; rfl
  | succ y ih =>
    by_cases e : s = y + 1
    · subst e; rfl
    · rw [blks_succ, h y (by omega) (by omega)]
      simp [ih (by omega) fun i h1 h2 => h i h1 (by omega)]
theorem blks_start (K : Kin n sk) {x : Nat} (hx : x < n) (h : start sk x = true) : blks sk (x + 1) (x + 1) = blks sk x x ++ [[(x : Int)]] := by
 rw [blks_succ, if_pos h, blks_bnd fun i hi _ => start_iff.1 h i hi, blk_succ, K.refl x hx, if_pos rfl, blk_none fun k hk => by rw [K.symm x k hx (by omega)]; exact start_iff.1 h k hk]
 rfl
theorem blks_more (K : Kin n sk) {x : Nat} (hx : x < n) (h : start sk x = false) : ∃ P B, blks sk x x = P ++ [B] ∧ blks sk (x + 1) (x + 1) = P ++ [B ++ [(x : Int)]] ∧ B.length ≤ x ∧ ∃ s t, s < x ∧ B = ((s : Nat) : Int) :: t ∧ sk s x = true := by
 obtain ⟨s, h1, h2, h3⟩ := not_start h
 have hst : start sk s = true := start_iff.2 fun k hk => by
  cases hb : sk k s
  ·rfl
  ·have := K.trans k s x (by omega) (by omega) hx hb h2
   rw [h3 k hk] at this; cases this
 have hno : ∀ i, s + 1 ≤ i → i < x + 1 → start sk i = false := fun i a b => by
  cases hb : start sk i
  ·rfl
  ·have := start_iff.1 hb s (by omega)
   rw [K.conv s i x (by omega) (by omega) hx h2] at this; cases this
 refine ⟨blks sk s x, blk sk s x, ?_, ?_, blk_len, ?_⟩
 ·rw [blks_nost (s := s + 1) (by omega) fun i a b => hno i a (by omega), blks_succ, if_pos hst]
 ·rw [blks_nost (s := s + 1) (by omega) hno, blks_succ, if_pos hst, blks_bnd fun i hi _ => h3 i hi, blk_succ, if_pos h2]
 ·obtain ⟨s', t, e1, e2, e3⟩ := blk_head K (i := s) (x := x) (by omega) (by omega) h1
  have := e3.2 hst
  subst this
  exact ⟨s', t, h1, e1, h2⟩
theorem blks_mem (K : Kin n sk) {y x : Nat} (hy : y ≤ x) (hx : x ≤ n) {B : List Int} (h : B ∈ blks sk y x) : B.length ≤ x ∧ ∃ s t, s < y ∧ B = ((s : Nat) : Int) :: t := by
 unfold blks at h
 rw [List.mem_flatMap] at h
 obtain ⟨i, hi, h⟩ := h
 rw [List.mem_range] at hi
 by_cases c : start sk i = true
 ·rw [if_pos c, List.mem_singleton] at h
  subst h
  refine ⟨blk_len, ?_⟩
  obtain ⟨s', t, e1, e2, e3⟩ := blk_head K (i := i) (x := x) (by omega) (by omega) (by omega)
  exact ⟨s', t, by omega, e1⟩
 ·rw [if_neg c] at h; cases h
def pick (c : Int → Bool) (bs : List (List Int)) : List Int := bs.filterMap fun b => b.find? c
def picks (c : Int → Bool) (bs : List (List Int)) : List Int × Bool := if (bs.all fun b => (b.find? c).isSome) = true then (pick c bs, true) else ([], false)
end Go.Proofs.YtaanfdjhmhifiaaH
namespace Go.Proofs.YtaanfdjhmhifiaaH
open Go
def Sigs (l : List Relation) : Prop := l.length = 4 ∧ ∀ x ∈ l, x.Arity ≤ 3
def Tiny (m : Nat) (d : Database) : Prop := Sigs d.Relations ∧ d.Facts.length ≤ m ∧ ∀ x ∈ d.Facts, x.Values.length ≤ 3
theorem Tiny.fits {m : Nat} {d : Database} (h : Tiny m d) (hm : m ≤ 1048576) : Fits d := ⟨by have := h.1.1; omega, by have := h.2.1; omega, fun x hx => by have := h.2.2 x hx; omega⟩
theorem sigsOk {c : L1Cur} (h : Cur c) : Ens (f78 c) fun r => Sigs r.1 ∧ Cur r.2 := by
 unfold f78
 refine Ens.bind (pickOk h (by simp)) fun o1 h1 => ?_
 refine Ens.bind (belowOk h1.2) fun o2 h2 => ?_
 refine Ens.of ⟨⟨rfl, fun x hx => ?_⟩, h2.2.2.2⟩
 simp only [List.mem_cons, List.not_mem_nil, or_false] at hx
 rcases hx with rfl | rfl | rfl | rfl <;> simp
theorem factOk {c : L1Cur} {l : List Relation} {v : Int} (h : Cur c) (hl : Sigs l) : Ens (f81 c l v) fun r => r.1.Values.length ≤ 3 ∧ Cur r.2 := by
 unfold f81
 refine Ens.bind (belowOk h) fun o1 h1 => ?_
 obtain ⟨a1, _, a2, a3⟩ := h1
 have a4 := a2 (by rw [hl.1]; decide)
 have hk : o1.1.toNat < l.length := by rw [hl.1] at a4 ⊢; omega
 refine Ens.bind (Q := fun s => s.2.2.2.2.length ≤ 3 ∧ Cur ⟨s.1, s.2.1, s.2.2.1⟩) ?_ fun s hs => Ens.of hs
 obtain ⟨o, e1, e2⟩ := iter_up (f := f81_0 l v) 3 (fun i s => Cur ⟨s.1, s.2.1, s.2.2.1⟩ ∧ s.2.2.2.1 = o1.1 ∧ s.2.2.2.2.length = i) (fun s => s.2.2.2.2.length ≤ 3 ∧ Cur ⟨s.1, s.2.1, s.2.2.1⟩) (fun i s hi ⟨g1, g2, g3⟩ => by
  obtain ⟨b, j, hh, r, vs⟩ := s
  simp only at g1 g2 g3
  subst g2
  simp only [f81_0]
  rw [ix_of a1, List.getElem?_eq_getElem hk, Option.bind_some]
  by_cases hc : (vs.length : Int) < l[o1.1.toNat].Arity
  ·rw [if_pos hc]
   obtain ⟨p, hp, hq⟩ := belowOk (n := v) g1
   rw [hp, Option.bind_some, app_fits (by simp; omega), Option.bind_some]
   exact ⟨_, rfl, hq.2.2.2, rfl, by simp; omega⟩
  ·rw [if_neg hc]
   exact ⟨_, rfl, by simp only; omega, g1⟩) (fun s ⟨g1, g2, g3⟩ => by
  obtain ⟨b, j, hh, r, vs⟩ := s
  simp only at g1 g2 g3
  subst g2
  have := hl.2 _ (List.getElem_mem hk)
  simp only [f81_0]
  rw [ix_of a1, List.getElem?_eq_getElem hk, Option.bind_some, if_neg (by omega)]
  exact ⟨_, rfl, by simp only; omega, g1⟩) (o1.2.b, o1.2.i, o1.2.h, o1.1, []) ⟨a3, rfl, rfl⟩
 exact ⟨o, e1, e2⟩
theorem copySpec {d : Database} (hf : Fits d) : f85 d = some d := by
 unfold f85
 rw [app_fits (by have := hf.1; simp; omega), Option.bind_some, List.nil_append]
 have it := iter_steps (f := f85_0 d) (fun i => (d.Relations, d.Facts.take i, (i : Int))) d.Facts.length (d.Relations, d.Facts) (fun i hi => by
  have h1 := hf.2.2 _ (List.getElem_mem hi)
  have h2 := hf.2.1
  simp only [f85_0]
  rw [if_pos (by omega), ix_nat hi, Option.bind_some, app_fits (by simp; omega), Option.bind_some, app_fits (by simp; omega), Option.bind_some, w64_succ (by omega), take_succ' hi]
  simp) (by
  simp only [f85_0]
  rw [if_neg (by omega), List.take_of_length_le (Nat.le_refl _)])
 simp only [List.take_zero, Int.natCast_zero, Int.ofNat_zero] at it
 erw [it]
 rfl
theorem findFact {d : Database} {f : Fact} (hf : Fits d) (h : f.Values.length ≤ 3) : Ens (f89 d f) fun _ => True := by
 unfold f89
 refine Ens.bind (Q := fun _ => True) ?_ fun o _ => by cases o <;> exact Ens.of trivial
 refine iter_up (f := f89_0 d f) d.Facts.length (fun i s => s = (i : Int)) (fun _ => True) (fun i s hi hs => ?_) (fun s hs => ?_) 0 rfl
 ·subst hs
  have h1 := hf.2.2 _ (List.getElem_mem hi)
  have h2 := hf.2.1
  simp only [f89_0]
  rw [if_pos (by omega), ix_nat hi, Option.bind_some, specCmp (by omega) (by omega), Option.bind_some, w64_succ (by omega)]
  by_cases c : cmpF d.Facts[i] f = 0
  ·rw [if_pos c]; exact ⟨_, rfl, trivial⟩
  ·rw [if_neg c]; exact ⟨_, rfl, rfl⟩
 ·subst hs
  simp only [f89_0]
  rw [if_neg (by omega)]; exact ⟨_, rfl, trivial⟩
theorem insOk {m : Nat} {d : Database} {f : Fact} (hd : Tiny m d) (hm : m ≤ 1000) (h : f.Values.length ≤ 3) : Ens (f80 d f) fun r => Tiny (m + 1) r.1 := by
 have hf := hd.fits (by omega)
 have hr := fits_room hf
 have base : Tiny (m + 1) d := ⟨hd.1, by have := hd.2.1; omega, hd.2.2⟩
 unfold f80
 rw [copySpec hf, Option.bind_some, specDb hr, Option.bind_some]
 refine Ens.bind (Q := fun _ : Bool => True) (Ens.ite (fun _ => Ens.of trivial) fun _ => ?_) fun x _ => Ens.ite (fun _ => Ens.of base) fun _ => ?_
 ·rw [specFact hr.1 (by omega), Option.bind_some]
  refine Ens.bind (Q := fun _ : Bool => True) (Ens.ite (fun _ => Ens.of trivial) fun _ => ?_) fun x _ => Ens.of trivial
  refine Ens.bind (Q := fun _ : Bool => True) ?_ fun x _ => ?_
  ·unfold f86
   rw [specDb hr, Option.bind_some]
   refine Ens.bind (Q := fun _ : Bool => True) (Ens.ite (fun _ => ?_) fun _ => Ens.of trivial) fun x _ => Ens.of trivial
   exact Ens.bind (findFact hf h) fun o _ => Ens.of trivial
  ·refine Ens.bind (Q := fun _ : Bool => True) (Ens.ite (fun _ => Ens.of trivial) fun _ => Ens.of trivial) fun x _ => Ens.of trivial
 ·have h2 := hd.2.1
  obtain ⟨k, hk, k0, k1⟩ : Ens (iter (f80_0 f d) 0) fun k => 0 ≤ k ∧ k ≤ d.Facts.length := by
   refine iter_up (f := f80_0 f d) d.Facts.length (fun i s => s = (i : Int)) (fun k => 0 ≤ k ∧ k ≤ d.Facts.length) (fun i s hi hs => ?_) (fun s hs => ?_) 0 rfl
   ·subst hs
    have h1 := hf.2.2 _ (List.getElem_mem hi)
    simp only [f80_0]
    rw [if_pos (by omega), ix_nat hi, Option.bind_some, specCmp (by omega) (by omega), Option.bind_some, Option.bind_some, w64_succ (by omega)]
    by_cases c : cmpF d.Facts[i] f < 0
    ·rw [if_pos (by simpa using c)]; exact ⟨_, rfl, rfl⟩
    ·rw [if_neg (by simpa using c)]; exact ⟨_, rfl, by omega, by omega⟩
   ·subst hs
    simp only [f80_0]
    rw [if_neg (by omega), Option.bind_some, if_neg (by simp)]; exact ⟨_, rfl, by omega, by omega⟩
  rw [hk, Option.bind_some, cutL_ok k0 k1 (by omega), Option.bind_some, app_fits (by simp; omega), Option.bind_some, app_fits (by simp; omega), Option.bind_some, cutL_ok (by omega) k0 k1, Option.bind_some, app_fits (by simp; omega), Option.bind_some, app_fits (by simp; omega), Option.bind_some]
  refine Ens.of ⟨hd.1, by simp; omega, fun y hy => ?_⟩
  simp only [List.nil_append, List.mem_append, List.mem_cons, List.not_mem_nil, or_false] at hy
  rcases hy with hy | hy
  ·exact hd.2.2 y (List.mem_of_mem_take (List.mem_of_mem_drop hy))
  ·rcases hy with rfl | hy
   ·simpa using h
   ·exact hd.2.2 y (List.mem_of_mem_take (List.mem_of_mem_drop hy))
theorem dbOk {c : L1Cur} (h : Cur c) : Ens (f61 c) fun r => Tiny 12 r.1 ∧ Cur r.2 := by
 unfold f61
 refine Ens.bind (sigsOk h) fun o1 h1 => ?_
 refine Ens.bind (pickOk h1.2 (by simp)) fun o3 h3 => ?_
 refine Ens.bind (belowOk h3.2) fun o5 h5 => ?_
 obtain ⟨a1, _, a2, a3⟩ := h5
 have a4 := a2 (by decide)
 rw [w64_of (by omega)]
 refine Ens.bind (Q := fun s => Tiny 12 ⟨s.2.2.2.1, s.2.2.2.2⟩ ∧ Cur ⟨s.1, s.2.1, s.2.2.1⟩) ?_ fun s hs => Ens.of hs
 obtain ⟨n, hn⟩ : ∃ n : Nat, 2 + o5.1 = n := ⟨(2 + o5.1).toNat, by omega⟩
 rw [hn]
 refine iter_up (f := f61_0 o3) n (fun i s => Cur ⟨s.1, s.2.1, s.2.2.1⟩ ∧ Tiny i ⟨s.2.2.2.1, s.2.2.2.2.1⟩ ∧ s.2.2.2.2.2 = ((n - i : Nat) : Int)) _ (fun i s hi ⟨g1, g2, g3⟩ => ?_) (fun s ⟨g1, g2, g3⟩ => ?_) (o5.2.b, o5.2.i, o5.2.h, o1.1, [], ((n : Nat) : Int)) ⟨a3, ⟨h1.1, by simp, by simp⟩, rfl⟩
 ·obtain ⟨b, j, hh, rs, fs, k⟩ := s
  simp only at g1 g2 g3
  subst g3
  simp only [f61_0]
  obtain ⟨p, hp, hq1, hq2⟩ := factOk (v := o3.1) g1 g2.1
  obtain ⟨r, hr, hr1⟩ := insOk g2 (by omega) hq1
  rw [if_pos (by omega), hp, Option.bind_some, hr, Option.bind_some, w64_of (by omega)]
  exact ⟨_, rfl, hq2, hr1, by simp only; omega⟩
 ·obtain ⟨b, j, hh, rs, fs, k⟩ := s
  simp only at g1 g2 g3
  subst g3
  simp only [f61_0]
  rw [if_neg (by omega)]
  exact ⟨_, rfl, ⟨g2.1, by have := g2.2.1; simp only at this ⊢; omega, g2.2.2⟩, g1⟩
end Go.Proofs.YtaanfdjhmhifiaaH
namespace Go.Proofs.YtaanfdjhmhifiaaH
open Go
variable {d : Database}
def skOf (d : Database) (i k : Nat) : Bool := same d.Relations (d.Facts.getD i default) (d.Facts.getD k default)
theorem sk_get {i k : Nat} (hi : i < d.Facts.length) (hk : k < d.Facts.length) : skOf d i k = same d.Relations d.Facts[i] d.Facts[k] := by
 unfold skOf
 rw [List.getD_eq_getElem?_getD, List.getD_eq_getElem?_getD, List.getElem?_eq_getElem hi, List.getElem?_eq_getElem hk]; rfl
theorem vDb_of (h : vDb d = true) : vRels d.Relations = true ∧ d.Facts.length ≤ 14 ∧ gFacts d = true := by
 unfold vDb at h; simp only [Bool.and_eq_true, decide_eq_true_eq] at h; exact h
theorem fact_ok (h : vDb d = true) {i : Nat} (hi : i < d.Facts.length) : vFact d.Relations d.Facts[i] = true := (good_of (vDb_of h).2.2 hi).1
theorem facts_up (h : vDb d = true) {i k : Nat} (hik : i < k) (hk : k < d.Facts.length) : cmpF (d.Facts[i]'(by omega)) d.Facts[k] < 0 := by
 induction k with
 | zero => omega
 | succ k ih =>
  have h1 := (good_of (vDb_of h).2.2 hk).2 (by omega)
  simp only [Nat.add_sub_cancel, decide_eq_true_eq] at h1
  by_cases e : i = k
  ·subst e; exact h1
  ·exact cmpF_trans (ih (by omega) (by omega)) h1
theorem kin (h : vDb d = true) : Kin d.Facts.length (skOf d) where
 refl i hi := by rw [sk_get hi hi]; simp [same]
 symm i k hi hk := by
  rw [sk_get hi hk, sk_get hk hi]; unfold same
  congr 1
  ·exact decide_eq_decide.2 ⟨fun h => h.symm, fun h => h.symm⟩
  ·exact decide_eq_decide.2 ⟨fun h => h.symm, fun h => h.symm⟩
 trans i j k hi hj hk h1 h2 := by
  rw [sk_get hi hj] at h1; rw [sk_get hj hk] at h2; rw [sk_get hi hk]
  unfold same at *
  simp only [Bool.and_eq_true, decide_eq_true_eq] at *
  exact ⟨h1.1.trans h2.1, h1.2.trans h2.2⟩
 conv i j k hij hjk hk hs := by
  by_cases e1 : i = j
  ·subst e1
   rw [sk_get (by omega) (by omega)]; simp [same]
  by_cases e2 : j = k
  ·subst e2; exact hs
  have hi : i < d.Facts.length := by omega
  have hj : j < d.Facts.length := by omega
  have c1 := facts_up h (i := i) (k := j) (by omega) hj
  have c2 := facts_up h (i := j) (k := k) (by omega) hk
  rw [sk_get hi hk] at hs; rw [sk_get hi hj]
  have b1 := key_le (vDb_of h).1 (fact_ok h hi)
  have b2 := key_le (vDb_of h).1 (fact_ok h hj)
  have b3 := key_le (vDb_of h).1 (fact_ok h hk)
  generalize d.Facts[i] = a at *
  generalize d.Facts[j] = b at *
  generalize d.Facts[k] = c at *
  obtain ⟨_, _, _, _, b1⟩ := b1
  obtain ⟨_, _, _, _, b2⟩ := b2
  obtain ⟨_, _, _, _, b3⟩ := b3
  unfold same keyOf at *
  simp only [Bool.and_eq_true, decide_eq_true_eq] at *
  obtain ⟨r, hk⟩ := hs
  unfold cmpF at c1 c2
  have r1 : a.Relation = b.Relation := by
   by_cases q1 : a.Relation < b.Relation
   ·rw [if_neg (by omega), if_pos (by omega)] at c2; omega
   ·rw [if_neg q1] at c1
    by_cases q2 : a.Relation > b.Relation
    ·rw [if_pos q2] at c1; omega
    ·omega
  rw [if_neg (by omega), if_neg (by omega)] at c1 c2
  rw [← r] at hk b3; rw [← r1] at b2
  refine ⟨r1, ?_⟩
  rw [← r1]
  exact cmpL_conv c1 c2 (by omega) (by omega) (by omega) hk
variable (h : vDb d = true) (hf : Fits d)
theorem fits_val {i : Nat} (hf : Fits d) (hi : i < d.Facts.length) : d.Facts[i].Values.length ≤ 1048576 := hf.2.2 _ (List.getElem_mem hi)
include h hf
theorem blockSpec {i : Nat} (hi : i < d.Facts.length) : f82 d i = some (blk (skOf d) i d.Facts.length) := by
 have hn := (vDb_of h).2.1
 unfold f82
 rw [iter_flat (List.range d.Facts.length) (fun k => if skOf d i k = true then [((k : Nat) : Int)] else []) id (fun k hk => by
  simp only [List.length_range] at hk
  have el : (((List.range d.Facts.length).take k).flatMap fun k => if skOf d i k = true then [((k : Nat) : Int)] else []).length ≤ k := by
   have := take_flat_le (l := List.range d.Facts.length) (i := k) (g := fun k => if skOf d i k = true then [((k : Nat) : Int)] else []) (m := 1) (fun a => by split <;> simp)
   omega
  generalize ((List.range d.Facts.length).take k).flatMap (fun k => if skOf d i k = true then [((k : Nat) : Int)] else []) = out at el ⊢
  simp only [List.getElem_range]
  simp only [f82_0]
  have eb : btw (i : Int) 0 (w64 ((d.Facts.length : Int) - 1)) = true := by rw [w64_of (by omega)]; unfold btw; simp; omega
  rw [if_pos (by omega), specDb (fits_room hf), h]
  simp only [Option.bind_some, if_true, specIn, eb]
  rw [ix_nat hi, ix_nat hk, w64_succ (by omega)]
  simp only [Option.bind_some, specSame (fits_room hf).1 (fits_val hf hi) (fits_val hf hk) (vDb_of h).1 (fact_ok h hi) (fact_ok h hk)]
  rw [← sk_get hi hk]
  cases skOf d i k
  ·simp
  ·simp only [if_true]
   rw [app_fits (by simp; omega)]; simp) (by
  simp only [f82_0]
  rw [if_neg (by simp)]; rfl)]
 rfl
theorem blocksSpec : f70 d = some (blks (skOf d) d.Facts.length d.Facts.length) := by
 have hn := (vDb_of h).2.1
 unfold f70
 rw [iter_flat (List.range d.Facts.length) (fun i => if start (skOf d) i = true then [blk (skOf d) i d.Facts.length] else []) id (fun i hi => by
  simp only [List.length_range] at hi
  have el : (((List.range d.Facts.length).take i).flatMap fun i => if start (skOf d) i = true then [blk (skOf d) i d.Facts.length] else []).length ≤ i := by
   have := take_flat_le (l := List.range d.Facts.length) (i := i) (g := fun i => if start (skOf d) i = true then [blk (skOf d) i d.Facts.length] else []) (m := 1) (fun a => by split <;> simp)
   omega
  generalize ((List.range d.Facts.length).take i).flatMap (fun i => if start (skOf d) i = true then [blk (skOf d) i d.Facts.length] else []) = out at el ⊢
  simp only [List.getElem_range]
  simp only [f70_0]
  obtain ⟨s, t, e1, e2, e3⟩ := blk_head (kin h) hi (Nat.le_refl _) hi
  have e0 : ix (blk (skOf d) i d.Facts.length) 0 = some ((s : Nat) : Int) := by rw [e1]; rfl
  rw [if_pos (by omega), specDb (fits_room hf), h]
  simp only [Option.bind_some, if_true, blockSpec h hf hi, e0]
  rw [w64_succ (by omega)]
  by_cases c : start (skOf d) i = true
  ·rw [if_pos (by have := e3.2 c; omega), if_pos c, app_fits (by simp; omega)]; rfl
  ·rw [if_neg (by intro q; exact c (e3.1 (by omega))), if_neg c]; simp) (by
  simp only [f70_0]
  rw [if_neg (by simp)]; rfl)]
 rfl
theorem blocksImp : f65 d = some (blks (skOf d) d.Facts.length d.Facts.length) := by
 have hn := (vDb_of h).2.1
 unfold f65
 have := iter_steps (f := f65_0 d) (fun i => (blks (skOf d) i i, (i : Int))) d.Facts.length (blks (skOf d) d.Facts.length d.Facts.length) (fun x hx => by
  have hl := blks_len (sk := skOf d) (y := x) (x := x)
  simp only [f65_0]
  rw [if_pos (by omega), ix_nat hx, Option.bind_some, w64_succ (by omega), w64_of (by omega)]
  cases hs : start (skOf d) x
  ·obtain ⟨P, B, e1, e2, e3, s, t, h1, e4, h2⟩ := blks_more (kin h) hx hs
   rw [e1] at hl ⊢
   rw [e2]
   simp only [List.length_append, List.length_singleton] at hl ⊢
   have q : ((P.length + 1 : Nat) : Int) - 1 = ((P.length : Nat) : Int) := by omega
   rw [q, if_pos (by omega), ix_nat (by simp)]
   have e0 : ix B 0 = some ((s : Nat) : Int) := by rw [e4]; rfl
   simp only [List.getElem_concat_length, Option.bind_some, e0]
   rw [ix_nat (by omega : s < d.Facts.length), Option.bind_some, impSame (fits_val hf _) (fits_val hf hx) (vDb_of h).1 (fact_ok h _) (fact_ok h hx)]
   rw [← sk_get (by omega : s < d.Facts.length) hx, h2]
   simp only [Option.bind_some, if_true]
   rw [app_fits (by simp; omega)]
   simp
  ·rw [blks_start (kin h) hx hs]
   by_cases c : blks (skOf d) x x = []
   ·rw [c]
    simp only [List.length_nil]
    rw [if_neg (by omega)]
    simp only [Option.bind_some, Bool.false_eq_true, if_false]
    rw [app_fits (by simp)]; simp
   ·obtain ⟨P, B, e1⟩ : ∃ P B, blks (skOf d) x x = P ++ [B] := ⟨_, _, (List.dropLast_concat_getLast c).symm⟩
    obtain ⟨_, s, t, h1, e4⟩ := blks_mem (kin h) (y := x) (x := x) (Nat.le_refl _) (by omega) (B := B) (by rw [e1]; simp)
    rw [e1] at hl ⊢
    simp only [List.length_append, List.length_singleton] at hl ⊢
    have q : ((P.length + 1 : Nat) : Int) - 1 = ((P.length : Nat) : Int) := by omega
    rw [q, if_pos (by omega), ix_nat (by simp)]
    have e0 : ix B 0 = some ((s : Nat) : Int) := by rw [e4]; rfl
    simp only [List.getElem_concat_length, Option.bind_some, e0]
    rw [ix_nat (by omega : s < d.Facts.length), Option.bind_some, impSame (fits_val hf _) (fits_val hf hx) (vDb_of h).1 (fact_ok h _) (fact_ok h hx)]
    rw [← sk_get (by omega : s < d.Facts.length) hx, start_iff.1 hs s h1]
    simp only [Option.bind_some, Bool.false_eq_true, if_false]
    rw [app_fits (by simp; omega)]; simp) (by
  simp only [f65_0]
  rw [if_neg (by omega)])
 erw [this]
 rfl
omit h hf
end Go.Proofs.YtaanfdjhmhifiaaH
namespace Go.Proofs.YtaanfdjhmhifiaaH
open Go
variable {d : Database} {n : Nat} {sk : Nat → Nat → Bool}
theorem asc_of {s : List Int} (h : asc n s = true) : s.Pairwise (· < ·) ∧ ∀ v ∈ s, 0 ≤ v ∧ v < n := by
 have hg := fun i (hi : i < s.length) => good_of h hi
 refine ⟨?_, ?_⟩
 ·rw [List.pairwise_iff_getElem]
  intro i j hi hj hij
  induction j with
  | zero => omega
  | succ j ih =>
   have h1 := (hg (j + 1) hj).2 (by omega)
   simp only [Nat.add_sub_cancel, decide_eq_true_eq] at h1
   by_cases e : i = j
   ·subst e; exact h1
   ·have := ih (by omega) (by omega); omega
 ·intro v hv
  obtain ⟨i, hi, rfl⟩ := List.getElem_of_mem hv
  have h1 := (hg i hi).1
  simp only [btw, Bool.and_eq_true, decide_eq_true_eq] at h1
  omega
theorem asc_mk {s : List Int} (h : s.Pairwise (· < ·)) (hb : ∀ v ∈ s, 0 ≤ v ∧ v < n) : asc n s = true := by
 refine decide_eq_true fun i hi => ?_
 have h1 := hb _ (List.getElem_mem hi)
 simp only [btw, Bool.and_eq_true, Bool.or_eq_true, decide_eq_true_eq]
 refine ⟨⟨h1.1, by omega⟩, ?_⟩
 by_cases e : i = 0
 ·exact .inl e
 ·exact .inr (List.pairwise_iff_getElem.1 h (i - 1) i (by omega) hi (by omega))
theorem up_nodup {s : List Int} (h : s.Pairwise (· < ·)) : s.Nodup := h.imp fun hab e => by omega
theorem asc_len {s : List Int} (h : asc n s = true) : s.length ≤ n := nodup_le (up_nodup (asc_of h).1) (asc_of h).2
def fat (d : Database) (v : Int) : Fact := d.Facts.getD v.toNat default
def sel (d : Database) (s : List Int) : Database := ⟨d.Relations, s.map (fat d)⟩
theorem fat_get {i : Nat} (hi : i < d.Facts.length) : fat d (i : Int) = d.Facts[i] := by
 unfold fat
 rw [Int.toNat_natCast, List.getD_eq_getElem?_getD, List.getElem?_eq_getElem hi]; rfl
theorem fat_mem {v : Int} (h : 0 ≤ v ∧ v < d.Facts.length) : fat d v ∈ d.Facts := by
 have : v = ((v.toNat : Nat) : Int) := by omega
 rw [this, fat_get (by omega)]; exact List.getElem_mem _
theorem fat_up (h : vDb d = true) {a b : Int} (ha : 0 ≤ a) (hab : a < b) (hb : b < d.Facts.length) : cmpF (fat d a) (fat d b) < 0 := by
 have ea : a = ((a.toNat : Nat) : Int) := by omega
 have eb : b = ((b.toNat : Nat) : Int) := by omega
 rw [ea, eb, fat_get (by omega), fat_get (by omega)]
 exact facts_up h (by omega) (by omega)
theorem sel_len {s : List Int} : (sel d s).Facts.length = s.length := by simp [sel]
theorem sel_v (h : vDb d = true) {s : List Int} (hs : asc d.Facts.length s = true) : vDb (sel d s) = true := by
 obtain ⟨v1, v2, v3⟩ := vDb_of h
 obtain ⟨s1, s2⟩ := asc_of hs
 unfold vDb
 simp only [Bool.and_eq_true, decide_eq_true_eq]
 refine ⟨v1, by rw [sel_len]; have := asc_len hs; omega, decide_eq_true fun i hi => ?_⟩
 rw [sel_len] at hi
 simp only [Bool.and_eq_true, Bool.or_eq_true, decide_eq_true_eq]
 have hm := s2 _ (List.getElem_mem hi)
 refine ⟨?_, ?_⟩
 ·have : (sel d s).Facts[i]'(by rw [sel_len]; exact hi) = fat d s[i] := by simp [sel]
  rw [this]
  obtain ⟨k, hk, e⟩ := List.getElem_of_mem (fat_mem hm)
  rw [← e]; exact fact_ok h hk
 ·by_cases e : i = 0
  ·exact .inl e
  ·refine .inr ?_
   have e1 : (sel d s).Facts[i]'(by rw [sel_len]; exact hi) = fat d s[i] := by simp [sel]
   have e2 : (sel d s).Facts[i - 1]'(by rw [sel_len]; omega) = fat d (s[i - 1]'(by omega)) := by simp [sel]
   rw [e1, e2]
   exact fat_up h (s2 _ (List.getElem_mem (by omega))).1 (List.pairwise_iff_getElem.1 s1 (i - 1) i (by omega) hi (by omega)) hm.2
def apart (d : Database) (s : List Int) : Prop := s.Pairwise fun a b => same d.Relations (fat d a) (fat d b) = false
instance {s : List Int} : Decidable (apart d s) := by unfold apart; infer_instance
def prt (d : Database) (s : List Int) : Bool := vDb d && (asc d.Facts.length s && decide (apart d s))
theorem blks_all {y x : Nat} : (blks sk y x).length = y ↔ ∀ i, i < y → start sk i = true := by
 induction y with
 | zero => simp [blks]
 | succ y ih =>
  have hle := blks_len (sk := sk) (y := y) (x := x)
  rw [blks_succ, List.length_append]
  by_cases h : start sk y = true
  ·rw [if_pos h]
   simp only [List.length_cons, List.length_nil, Nat.zero_add, Nat.add_right_cancel_iff, ih]
   exact ⟨fun q i hi => by
    by_cases e : i = y
    ·subst e; exact h
    ·exact q i (by omega), fun q i hi => q i (by omega)⟩
  ·rw [if_neg h]
   simp only [List.length_nil]
   exact ⟨fun q => by omega, fun q => absurd (q y (by omega)) h⟩
theorem con_iff {s : List Int} : (blks (skOf (sel d s)) s.length s.length).length = s.length ↔ apart d s := by
 rw [blks_all]
 unfold apart
 rw [List.pairwise_iff_getElem]
 have key : ∀ i k (hi : i < s.length) (hk : k < s.length), skOf (sel d s) i k = same d.Relations (fat d s[i]) (fat d s[k]) := fun i k hi hk => by
  rw [sk_get (by rw [sel_len]; exact hi) (by rw [sel_len]; exact hk)]
  simp [sel]
 constructor
 ·intro h i j hi hj hij
  rw [← key i j hi hj]
  exact start_iff.1 (h j hj) i hij
 ·intro h i hi
  refine start_iff.2 fun k hk => ?_
  rw [key k i (by omega) hi]
  exact h k i (by omega) hi hk
theorem sel_fits (hf : Fits d) {s : List Int} (hs : asc d.Facts.length s = true) : Fits (sel d s) := by
 refine ⟨hf.1, by rw [sel_len]; have := asc_len hs; have := hf.2.1; omega, fun x hx => ?_⟩
 simp only [sel, List.mem_map] at hx
 obtain ⟨v, hv, rfl⟩ := hx
 exact hf.2.2 _ (fat_mem ((asc_of hs).2 v hv))
end Go.Proofs.YtaanfdjhmhifiaaH
namespace Go.Proofs.YtaanfdjhmhifiaaH
open Go
end Go.Proofs.YtaanfdjhmhifiaaH
namespace Go.Proofs.YtaanfdjhmhifiaaH
open Go
end Go.Proofs.YtaanfdjhmhifiaaH
namespace Go.Proofs.YtaanfdjhmhifiaaH
open Go
def Le4 (X Y : Int → Bool) : Prop := ∀ v, X v = true → Y v = true
theorem Le4.refl {X : Int → Bool} : Le4 X X := fun _ h => h
theorem Le4.trans {X Y Z : Int → Bool} (h : Le4 X Y) (g : Le4 Y Z) : Le4 X Z := fun v hv => g v (h v hv)
end Go.Proofs.YtaanfdjhmhifiaaH
namespace Go.Proofs.YtaanfdjhmhifiaaH
open Go
section
variable {l : List Relation}
end
end Go.Proofs.YtaanfdjhmhifiaaH
namespace Go.Proofs.YtaanfdjhmhifiaaH
open Go
theorem flat_le {α β : Type} {g : α → List β} {m : Nat} : ∀ {l : List α}, (∀ a ∈ l, (g a).length ≤ m) → (l.flatMap g).length ≤ l.length * m
 | [], _ => by simp
 | a :: l, h => by
  rw [List.flatMap_cons, List.length_append, List.length_cons, Nat.succ_mul]
  have h1 := h a (by simp)
  have h2 := flat_le (g := g) (m := m) (l := l) fun b hb => h b (by simp [hb])
  omega
end Go.Proofs.YtaanfdjhmhifiaaH
namespace Go.Proofs.YtaanfdjhmhifiaaH
open Go
theorem cloneI {a : List Int} (h : a.length ≤ 1048576) : f57 a = some a := by
 unfold f57
 rw [app_fits (by simp; omega), Option.bind_some, List.nil_append]
end Go.Proofs.YtaanfdjhmhifiaaH
namespace Go.Proofs.YtaanfdjhmhifiaaH
open Go
end Go.Proofs.YtaanfdjhmhifiaaH
namespace Go.Proofs.YtaanfdjhmhifiaaH
open Go
variable {d : Database}
end Go.Proofs.YtaanfdjhmhifiaaH
namespace Go.Proofs.YtaanfdjhmhifiaaH
open Go
variable {d : Database}
theorem specSel {l : List Int} (hf : Fits d) (hl : l.length ≤ 1048576) : f46 d l = some (if (vDb d && asc d.Facts.length l) = true then (sel d l, true) else (⟨[], []⟩, false)) := by
 unfold f46
 have hr := fits_room hf
 rw [specDb hr, Option.bind_some]
 cases hv : vDb d
 ·simp
 ·rw [if_neg (by simp), specSet hr.2.1 (by omega)]
  cases ha : asc d.Facts.length l
  ·simp
  ·have h14 := (vDb_of hv).2.1
   have hr4 := vRels_len (vDb_of hv).1
   have hl2 := asc_len ha
   have hm := (asc_of ha).2
   simp only [Option.bind_some]
   rw [if_neg (by simp), app_fits (by simp; omega), Option.bind_some]
   have it := iter_steps (f := f46_0 d l) (fun i => (d.Relations, (l.take i).map (fat d), (i : Int))) l.length (d.Relations, l.map (fat d)) (fun i hi => by
    have hb := hm _ (List.getElem_mem hi)
    have hn : l[i].toNat < d.Facts.length := by omega
    have e : fat d l[i] = d.Facts[l[i].toNat] := by
     have : l[i] = ((l[i].toNat : Nat) : Int) := by omega
     conv => lhs; rw [this]
     exact fat_get hn
    have hv2 := hf.2.2 _ (List.getElem_mem hn)
    simp only [f46_0]
    rw [if_pos (by omega), ix_nat hi, Option.bind_some, ix_of hb.1, List.getElem?_eq_getElem hn, Option.bind_some, app_fits (by simp; omega), Option.bind_some, app_fits (by simp; omega), Option.bind_some, w64_succ (by omega), take_succ' hi, List.map_append, List.map_singleton, e]
    simp) (by
    simp only [f46_0]
    rw [if_neg (by omega), List.take_of_length_le (Nat.le_refl _)])
   simp only [List.take_zero, List.map_nil, Int.natCast_zero, Int.ofNat_zero] at it
   rw [List.nil_append]
   erw [it]
   rfl
theorem specCon (hf : Fits d) : f47 d = some (vDb d && decide ((blks (skOf d) d.Facts.length d.Facts.length).length = d.Facts.length)) := by
 unfold f47
 rw [specDb (fits_room hf), Option.bind_some]
 cases hv : vDb d
 ·rfl
 ·rw [if_pos rfl, blocksSpec hv hf]
  simp
  omega
theorem con_sel {l : List Int} (hv : vDb d = true) (ha : asc d.Facts.length l = true) : (vDb (sel d l) && decide ((blks (skOf (sel d l)) (sel d l).Facts.length (sel d l).Facts.length).length = (sel d l).Facts.length)) = decide (apart d l) := by
 rw [sel_v hv ha, Bool.true_and, sel_len]
 exact decide_eq_decide.2 con_iff
theorem specPart {l : List Int} (hf : Fits d) (hl : l.length ≤ 1048576) : f22 d l = some (prt d l) := by
 unfold f22
 rw [specSel hf hl, Option.bind_some]
 unfold prt
 cases hv : vDb d
 ·simp
 ·cases ha : asc d.Facts.length l
  ·simp
  ·simp only [Bool.and_self, if_true]
   rw [specCon (sel_fits hf ha), Option.bind_some, con_sel hv ha]
   simp
end Go.Proofs.YtaanfdjhmhifiaaH
namespace Go.Proofs.YtaanfdjhmhifiaaH
open Go
variable {d : Database}
theorem copyImp (hf : Fits d) : f64 d = some d := by
 unfold f64
 rw [app_fits (by have := hf.1; simp; omega), Option.bind_some, List.nil_append]
 have it := iter_steps (f := f64_0 d) (fun i => (d.Relations, d.Facts.take i, (i : Int))) d.Facts.length (d.Relations, d.Facts) (fun i hi => by
  have h1 := hf.2.2 _ (List.getElem_mem hi)
  have h2 := hf.2.1
  simp only [f64_0]
  rw [if_pos (by omega), ix_nat hi, Option.bind_some, app_fits (by simp; omega), Option.bind_some, app_fits (by simp; omega), Option.bind_some, w64_succ (by omega), take_succ' hi]
  simp) (by
  simp only [f64_0]
  rw [if_neg (by omega), List.take_of_length_le (Nat.le_refl _)])
 simp only [List.take_zero, Int.natCast_zero, Int.ofNat_zero] at it
 erw [it]
 rfl
theorem impSel {l : List Int} (hf : Fits d) (hl : l.length ≤ 1048576) : f39 d l = some (if (vDb d && asc d.Facts.length l) = true then (sel d l, true) else (⟨[], []⟩, false)) := by
 unfold f39
 have hr := fits_room hf
 rw [impDb hr, Option.bind_some]
 cases hv : vDb d
 ·simp
 ·rw [if_neg (by simp), impSet hr.2.1 (by omega)]
  cases ha : asc d.Facts.length l
  ·simp
  ·have h14 := (vDb_of hv).2.1
   have hl2 := asc_len ha
   have hm := (asc_of ha).2
   simp only [Option.bind_some]
   rw [if_neg (by simp), copyImp hf, Option.bind_some]
   have it := iter_steps (f := f39_0 l d) (fun i => (d.Relations, (l.take i).map (fat d), (i : Int))) l.length (d.Relations, l.map (fat d)) (fun i hi => by
    have hb := hm _ (List.getElem_mem hi)
    have hn : l[i].toNat < d.Facts.length := by omega
    have e : fat d l[i] = d.Facts[l[i].toNat] := by
     have : l[i] = ((l[i].toNat : Nat) : Int) := by omega
     conv => lhs; rw [this]
     exact fat_get hn
    simp only [f39_0]
    rw [if_pos (by omega), ix_nat hi, Option.bind_some, ix_of hb.1, List.getElem?_eq_getElem hn, Option.bind_some, app_fits (by simp; omega), Option.bind_some, w64_succ (by omega), take_succ' hi, List.map_append, List.map_singleton, e]) (by
    simp only [f39_0]
    rw [if_neg (by omega), List.take_of_length_le (Nat.le_refl _)])
   simp only [List.take_zero, List.map_nil, Int.natCast_zero, Int.ofNat_zero] at it
   erw [it]
   rfl
theorem impCon (hf : Fits d) : f40 d = some (vDb d && decide ((blks (skOf d) d.Facts.length d.Facts.length).length = d.Facts.length)) := by
 unfold f40
 rw [impDb (fits_room hf), Option.bind_some]
 cases hv : vDb d
 ·rfl
 ·rw [if_pos rfl, blocksImp hv hf]
  simp
  omega
theorem impPart {l : List Int} (hf : Fits d) (hl : l.length ≤ 1048576) : f17 d l = some (prt d l) := by
 unfold f17
 rw [impSel hf hl, Option.bind_some]
 unfold prt
 cases hv : vDb d
 ·simp
 ·cases ha : asc d.Facts.length l
  ·simp
  ·simp only [Bool.and_self, if_true]
   rw [impCon (sel_fits hf ha), Option.bind_some, con_sel hv ha]
   simp
end Go.Proofs.YtaanfdjhmhifiaaH
namespace Go.Proofs.YtaanfdjhmhifiaaH
open Go
variable {d : Database}
def clash (d : Database) (s : List Int) (i : Nat) : Bool := s.any fun o => same d.Relations (fat d o) (fat d ((i : Nat) : Int))
def nxt (s : List Int) : Nat := match s.getLast? with | some v => v.toNat + 1 | none => 0
def grow (d : Database) (s : List Int) (f : Nat) : List (List Int) := (List.range' f (d.Facts.length - f)).flatMap fun i => if clash d s i = true then [] else [s ++ [((i : Nat) : Int)]]
def dfs (d : Database) : Nat → List Int → List (List Int)
 | 0, s => [s]
 | k + 1, s => (grow d s (nxt s)).flatMap (dfs d k)
def lev (d : Database) : Nat → List (List Int)
 | 0 => [[]]
 | k + 1 => (lev d k).flatMap fun s => grow d s (nxt s)
theorem lev_dfs {k : Nat} : ∀ {m : Nat}, (lev d m).flatMap (dfs d k) = lev d (m + k) := by
 induction k with
 | zero => intro m; simp [dfs]
 | succ k ih =>
  intro m
  have : (lev d m).flatMap (dfs d (k + 1)) = (lev d (m + 1)).flatMap (dfs d k) := by
   rw [show dfs d (k + 1) = fun s => (grow d s (nxt s)).flatMap (dfs d k) from rfl, lev, List.flatMap_assoc]
  rw [this, ih]
  congr 1; omega
theorem dfs_lev {k : Nat} : dfs d k [] = lev d k := by
 have := lev_dfs (d := d) (k := k) (m := 0)
 simpa [lev] using this
theorem nxt_snoc {s : List Int} {i : Nat} : nxt (s ++ [((i : Nat) : Int)]) = i + 1 := by simp [nxt]
theorem grow_mem {s t : List Int} {f : Nat} : t ∈ grow d s f ↔ ∃ i : Nat, f ≤ i ∧ i < d.Facts.length ∧ clash d s i = false ∧ t = s ++ [((i : Nat) : Int)] := by
 unfold grow
 rw [List.mem_flatMap]
 constructor
 ·rintro ⟨i, hi, ht⟩
  rw [List.mem_range'_1] at hi
  split at ht
  ·cases ht
  ·rename_i h
   exact ⟨i, hi.1, by omega, by simpa using h, by simpa using ht⟩
 ·rintro ⟨i, h1, h2, h3, h4⟩
  exact ⟨i, List.mem_range'_1.2 ⟨h1, by omega⟩, by rw [if_neg (by rw [h3]; simp)]; simp [h4]⟩
structure Pr (d : Database) (s : List Int) : Prop where
 up : asc d.Facts.length s = true
 ap : apart d s
 lt : ∀ v ∈ s, v < nxt s
theorem pr_nil : Pr d [] := ⟨by simp [asc, good], List.Pairwise.nil, fun v h => by cases h⟩
theorem lt_nxt {s : List Int} (h : asc d.Facts.length s = true) : ∀ v ∈ s, v < nxt s := by
 intro v hv
 obtain ⟨a1, a2⟩ := asc_of h
 unfold nxt
 rcases List.eq_nil_or_concat s with rfl | ⟨t, w, rfl⟩
 ·cases hv
 ·simp only [List.concat_eq_append, List.getLast?_append, List.getLast?_singleton, Option.some_or] at *
  have hw := a2 w (by simp)
  rcases List.mem_append.1 hv with h | h
  ·have := (List.pairwise_append.1 a1).2.2 v h w (by simp)
   omega
  ·simp only [List.mem_singleton] at h
   omega
theorem clash_apart {s : List Int} {i : Nat} (h : apart d s) : clash d s i = false ↔ apart d (s ++ [((i : Nat) : Int)]) := by
 unfold apart clash
 rw [List.pairwise_append]
 simp only [List.any_eq_false, List.pairwise_singleton, List.mem_singleton, true_and]
 constructor
 ·intro hc
  exact ⟨h, fun a ha b hb => by subst hb; simpa using hc a ha⟩
 ·rintro ⟨_, hc⟩ a ha
  rw [hc a ha _ rfl]; simp
theorem asc_snoc {s : List Int} {i : Nat} (h : asc d.Facts.length s = true) (hn : nxt s ≤ i) (hi : i < d.Facts.length) : asc d.Facts.length (s ++ [((i : Nat) : Int)]) = true := by
 obtain ⟨a1, a2⟩ := asc_of h
 have l := lt_nxt h
 refine asc_mk (List.pairwise_append.2 ⟨a1, by simp, fun a ha b hb => ?_⟩) fun v hv => ?_
 ·rw [List.mem_singleton] at hb; subst hb; have := l a ha; omega
 ·rcases List.mem_append.1 hv with h | h
  ·exact a2 v h
  ·rw [List.mem_singleton] at h; omega
theorem prt_snoc {s : List Int} {i : Nat} (hv : vDb d = true) (h : prt d s = true) (hn : nxt s ≤ i) (hi : i < d.Facts.length) : prt d (s ++ [((i : Nat) : Int)]) = !clash d s i := by
 unfold prt at h ⊢
 simp only [Bool.and_eq_true, decide_eq_true_eq] at h
 rw [hv, asc_snoc h.2.1 hn hi, Bool.true_and, Bool.true_and]
 cases hc : clash d s i
 ·rw [decide_eq_true ((clash_apart h.2.2).1 hc)]; rfl
 ·rw [decide_eq_false]
  ·rfl
  ·intro ha
   rw [(clash_apart h.2.2).2 ha] at hc
   cases hc
theorem prt_nil (hv : vDb d = true) : prt d [] = true := by
 unfold prt
 rw [hv, pr_nil.up, decide_eq_true pr_nil.ap]; rfl
theorem lev_prt (hv : vDb d = true) : ∀ {k : Nat} {s : List Int}, s ∈ lev d k → prt d s = true ∧ s.length = k
 | 0, s, h => by
  simp only [lev, List.mem_singleton] at h
  subst h
  exact ⟨prt_nil hv, rfl⟩
 | k + 1, s, h => by
  rw [lev, List.mem_flatMap] at h
  obtain ⟨t, ht, h⟩ := h
  obtain ⟨i, h1, h2, h3, rfl⟩ := grow_mem.1 h
  obtain ⟨p, hl⟩ := lev_prt hv ht
  exact ⟨by rw [prt_snoc hv p h1 h2, h3]; rfl, by simp [hl]⟩
theorem grow_len {s : List Int} {f : Nat} (h : d.Facts.length ≤ 14) : (grow d s f).length ≤ 14 := by
 unfold grow
 have : ∀ (L : List Nat), (L.flatMap fun i => if clash d s i = true then [] else [s ++ [((i : Nat) : Int)]]).length ≤ L.length := by
  intro L
  induction L with
  | nil => simp
  | cons a L ih =>
   rw [List.flatMap_cons, List.length_append, List.length_cons]
   split
   ·rw [List.length_nil]; omega
   ·rw [List.length_singleton]; omega
 have := this (List.range' f (d.Facts.length - f))
 rw [List.length_range'] at this
 omega
theorem lev_len (h : d.Facts.length ≤ 14) : ∀ {k : Nat}, (lev d k).length ≤ 14 ^ k
 | 0 => by simp [lev]
 | k + 1 => by
  rw [lev, Nat.pow_succ]
  have h1 := lev_len h (k := k)
  have : ∀ (L : List (List Int)), (L.flatMap fun s => grow d s (nxt s)).length ≤ L.length * 14 := by
   intro L
   induction L with
   | nil => simp
   | cons a L ih => rw [List.flatMap_cons, List.length_append, List.length_cons]; have := grow_len (d := d) (s := a) (f := nxt a) h; omega
  have := this (lev d k)
  omega
def upTo (d : Database) (k : Nat) : List (List Int) := (List.range (k + 1)).flatMap (lev d)
theorem upTo_succ {k : Nat} : upTo d (k + 1) = upTo d k ++ lev d (k + 1) := by
 unfold upTo
 rw [List.range_succ (n := k + 1), List.flatMap_append]; simp
theorem upTo_len (h : d.Facts.length ≤ 14) {k : Nat} (hk : k ≤ 3) : (upTo d k).length ≤ 4000 := by
 have h0 := lev_len h (k := 0)
 have h1 := lev_len h (k := 1)
 have h2 := lev_len h (k := 2)
 have h3 := lev_len h (k := 3)
 have e0 : upTo d 0 = lev d 0 := by simp [upTo]
 have e1 : upTo d 1 = upTo d 0 ++ lev d 1 := upTo_succ
 have e2 : upTo d 2 = upTo d 1 ++ lev d 2 := upTo_succ
 have e3 : upTo d 3 = upTo d 2 ++ lev d 3 := upTo_succ
 have : k = 0 ∨ k = 1 ∨ k = 2 ∨ k = 3 := by omega
 rcases this with rfl | rfl | rfl | rfl
 ·rw [e0]; omega
 ·rw [e1, e0, List.length_append]; omega
 ·rw [e2, e1, e0, List.length_append, List.length_append]; omega
 ·rw [e3, e2, e1, e0, List.length_append, List.length_append, List.length_append]; omega
theorem upTo_prt (hv : vDb d = true) {k : Nat} {s : List Int} (h : s ∈ upTo d k) : prt d s = true ∧ s.length ≤ k := by
 unfold upTo at h
 rw [List.mem_flatMap] at h
 obtain ⟨j, hj, h⟩ := h
 rw [List.mem_range] at hj
 obtain ⟨p, e⟩ := lev_prt hv h
 exact ⟨p, by omega⟩
end Go.Proofs.YtaanfdjhmhifiaaH
namespace Go.Proofs.YtaanfdjhmhifiaaH
open Go
variable {d : Database}
def gr (d : Database) (s : List Int) (f i : Nat) : List (List Int) := (List.range' f i).flatMap fun i => if clash d s i = true then [] else [s ++ [((i : Nat) : Int)]]
theorem gr_all {s : List Int} {f : Nat} : gr d s f (d.Facts.length - f) = grow d s f := rfl
theorem gr_succ {s : List Int} {f i : Nat} : gr d s f (i + 1) = gr d s f i ++ if clash d s (f + i) = true then [] else [s ++ [((f + i : Nat) : Int)]] := by
 unfold gr
 rw [List.range'_1_concat, List.flatMap_append]; simp
theorem gr_len {s : List Int} {f i : Nat} : (gr d s f i).length ≤ i := by
 induction i with
 | zero => simp [gr]
 | succ i ih =>
  rw [gr_succ, List.length_append]
  split
  ·rw [List.length_nil]; omega
  ·rw [List.length_singleton]; omega
theorem dfs_len (h : d.Facts.length ≤ 14) : ∀ {r : Nat} {s : List Int}, (dfs d r s).length ≤ 14 ^ r
 | 0, s => by simp [dfs]
 | r + 1, s => by
  rw [dfs]
  have h1 := grow_len (d := d) (s := s) (f := nxt s) h
  refine Nat.le_trans (flat_le (m := 14 ^ r) fun t _ => dfs_len h) ?_
  rw [Nat.pow_succ, Nat.mul_comm]
  exact Nat.mul_le_mul_left _ h1
theorem nxt_le {s : List Int} (h : asc d.Facts.length s = true) : nxt s ≤ d.Facts.length := by
 unfold nxt
 cases e : s.getLast? with
 | none => simp
 | some v =>
  have := (asc_of h).2 v (List.mem_of_getLast? e)
  dsimp only; omega
theorem nxt_last {s : List Int} (h : asc d.Facts.length s = true) (h0 : 0 < s.length) : (nxt s : Int) = s[s.length - 1] + 1 := by
 have e : s.getLast? = some s[s.length - 1] := by rw [List.getLast?_eq_getElem?, List.getElem?_eq_getElem (by omega)]
 unfold nxt
 rw [e]
 have := (asc_of h).2 _ (List.getElem_mem (show s.length - 1 < s.length by omega))
 dsimp only; omega
theorem nxt_nil {s : List Int} (h0 : ¬ 0 < s.length) : nxt s = 0 := by
 have : s = [] := List.eq_nil_of_length_eq_zero (by omega)
 subst this; rfl
theorem clashImp (hv : vDb d = true) (hf : Fits d) {s : List Int} {i : Nat} (hs : asc d.Facts.length s = true) (hi : i < d.Facts.length) : f54 s (fun x => f55 x d (i : Int)) = some (clash d s i) := by
 have h14 := (vDb_of hv).2.1
 have hl := asc_len hs
 refine indexI (p := fun o => same d.Relations (fat d o) (fat d ((i : Nat) : Int))) (by omega) fun v hm => ?_
 obtain ⟨v0, v1⟩ := (asc_of hs).2 v hm
 have hn : v.toNat < d.Facts.length := by omega
 have e : fat d v = d.Facts[v.toNat] := by
  have : v = ((v.toNat : Nat) : Int) := by omega
  conv => lhs; rw [this]
  exact fat_get hn
 unfold f55
 rw [ix_of v0, List.getElem?_eq_getElem hn, Option.bind_some, ix_nat hi, Option.bind_some, impSame (hf.2.2 _ (List.getElem_mem hn)) (hf.2.2 _ (List.getElem_mem hi)) (vDb_of hv).1 (fact_ok hv hn) (fact_ok hv hi), e, fat_get hi]
 rfl
theorem prt_of (hv : vDb d = true) {s : List Int} (h : prt d s = true) : asc d.Facts.length s = true ∧ apart d s := by
 unfold prt at h
 simpa [hv] using h
theorem dfsImp (hv : vDb d = true) (hf : Fits d) : ∀ (r n : Nat) {s : List Int} {c : Nat} {out : List (List Int)}, prt d s = true → s.length + r = c → r < n → out.length + 14 ^ r ≤ 1000000 → c ≤ 3 →
  f53 n s (nxt s : Int) (c : Int) out d = some (out ++ dfs d r s)
 | r, 0, s, c, out, _, _, h, _, _ => by omega
 | 0, n + 1, s, c, out, hp, hs, _, ho, hc => by
  rw [f53]
  dsimp only
  rw [if_pos (by omega), app_fits (by simp; omega), Option.bind_some, app_fits (by simp; omega), Option.bind_some]
  rfl
 | r + 1, n + 1, s, c, out, hp, hs, hn, ho, hc => by
  have h14 := (vDb_of hv).2.1
  have ha := (prt_of hv hp).1
  have hx := nxt_le ha
  rw [f53]
  dsimp only
  rw [if_neg (by omega)]
  have it := iter_steps (f := f53_0 s (c : Int) d (f53 n)) (fun i => (out ++ (gr d s (nxt s) i).flatMap (dfs d r), ((nxt s + i : Nat) : Int))) (d.Facts.length - nxt s) (out ++ dfs d (r + 1) s) (fun i hi => by
   have hi' : nxt s + i < d.Facts.length := by omega
   have hb := flat_le (g := dfs d r) (m := 14 ^ r) (l := gr d s (nxt s) i) fun t _ => dfs_len h14
   have hg := gr_len (d := d) (s := s) (f := nxt s) (i := i)
   have hg2 := Nat.mul_le_mul_right (14 ^ r) hg
   have hb2 := Nat.mul_le_mul_right (14 ^ r) (show i + 1 ≤ 14 by omega)
   rw [Nat.add_mul, Nat.one_mul] at hb2
   rw [Nat.pow_succ] at ho
   simp only [f53_0]
   rw [if_pos (by omega), clashImp hv hf ha hi', Option.bind_some, w64_succ (i := nxt s + i) (by omega), gr_succ, List.flatMap_append]
   cases hcl : clash d s (nxt s + i)
   ·rw [if_pos (by simp), cloneI (by omega), Option.bind_some, app_fits (by simp; omega), Option.bind_some]
    have := dfsImp hv hf r n (s := s ++ [((nxt s + i : Nat) : Int)]) (c := c) (out := out ++ (gr d s (nxt s) i).flatMap (dfs d r)) (by rw [prt_snoc hv hp (by omega) hi', hcl]; rfl) (by simp; omega) (by omega) (by rw [List.length_append]; omega) hc
    rw [nxt_snoc] at this
    rw [this]
    simp [Nat.add_assoc]
   ·rw [if_neg (by simp)]
    simp [Nat.add_assoc]) (by
   have e : nxt s + (d.Facts.length - nxt s) = d.Facts.length := by omega
   simp only [f53_0]
   rw [e, if_neg (by omega), gr_all]; rfl)
  simp only [Nat.add_zero, gr, List.range'_zero, List.flatMap_nil, List.append_nil] at it
  rw [it]
  rfl
theorem levImp (hv : vDb d = true) (hf : Fits d) {k : Nat} (hk : k ≤ 3) : f27 d (k : Int) = some (lev d k) := by
 unfold f27
 have hp : 14 ^ k ≤ 2744 := Nat.le_trans (Nat.pow_le_pow_right (n := 14) (by omega) hk) (by decide)
 have := dfsImp hv hf k 64 (s := []) (c := k) (out := []) (prt_nil hv) (by simp) (by omega) (by simp; omega) hk
 rw [dfs_lev] at this
 have e : ((nxt [] : Nat) : Int) = 0 := rfl
 rw [e] at this
 rw [this]; simp
def ups (d : Database) (k : Int) : List (List Int) := if (vDb d && btw k 0 3) = true then upTo d k.toNat else []
theorem ups_len {k : Int} : (ups d k).length ≤ 4000 ∧ ∀ s ∈ ups d k, prt d s = true ∧ s.length ≤ 3 := by
 unfold ups
 split
 ·rename_i h
  simp only [btw, Bool.and_eq_true, decide_eq_true_eq] at h
  refine ⟨upTo_len (vDb_of h.1).2.1 (by omega), fun s hs => ?_⟩
  have := upTo_prt h.1 hs
  exact ⟨this.1, by omega⟩
 ·exact ⟨by simp, by simp⟩
theorem upTo_zero : upTo d 0 = [[]] := by simp [upTo, lev]
theorem upToLe (h : d.Facts.length ≤ 14) {i k : Nat} (hk : k ≤ 3) (hi : i ≤ k) : ((List.range i).flatMap (lev d)).length ≤ 4000 ∧ (lev d i).length ≤ 2744 := by
 have h1 := upTo_len (d := d) (k := i) h (by omega)
 unfold upTo at h1
 rw [List.range_succ, List.flatMap_append, List.length_append] at h1
 have h2 := lev_len h (k := i)
 have h3 := Nat.pow_le_pow_right (n := 14) (by omega) (show i ≤ 3 by omega)
 omega
theorem upsImp {k : Int} (hf : Fits d) : f8 d k = some (ups d k) := by
 unfold f8 ups
 rw [impDb (fits_room hf), Option.bind_some]
 cases hv : vDb d
 ·simp
 ·rw [if_neg (by simp), impIn, Option.bind_some, Option.bind_some]
  cases hb : btw k 0 3
  ·simp
  ·have h14 := (vDb_of hv).2.1
   have hk := hb
   simp only [btw, Bool.and_eq_true, decide_eq_true_eq] at hk
   obtain ⟨m, rfl⟩ : ∃ m : Nat, k = m := ⟨k.toNat, by omega⟩
   rw [if_neg (by simp), if_pos (by simp)]
   have it := iter_steps (f := f8_0 d (m : Int)) (fun i => ((List.range i).flatMap (lev d), (i : Int))) (m + 1) (upTo d m) (fun i hi => by
    have hl := upToLe h14 (i := i) (k := 3) (by omega) (by omega)
    simp only [f8_0]
    rw [w64_succ (i := m) (by omega), if_pos (by omega), levImp hv hf (by omega), Option.bind_some, app_fits (by omega), Option.bind_some, w64_succ (i := i) (by omega), List.range_succ, List.flatMap_append]
    simp) (by
    simp only [f8_0]
    rw [w64_succ (i := m) (by omega), if_neg (by omega)]; rfl)
   simp only [List.range_zero, List.flatMap_nil, Int.natCast_zero, Int.ofNat_zero] at it
   erw [it]
   rfl
theorem growSpec (hv : vDb d = true) (hf : Fits d) {L : List (List Int)} {i : Nat} (hi : i < L.length) (hp : prt d L[i] = true) (hl : L[i].length ≤ 3) {out : List (List Int)} (ho : out.length ≤ 1000000) :
  iter (f6_2 d L (i : Int)) (out, (nxt L[i] : Int)) = some (out ++ grow d L[i] (nxt L[i])) := by
 have h14 := (vDb_of hv).2.1
 have ha := (prt_of hv hp).1
 have hx := nxt_le ha
 have it := iter_steps (f := f6_2 d L (i : Int)) (fun j => (out ++ gr d L[i] (nxt L[i]) j, ((nxt L[i] + j : Nat) : Int))) (d.Facts.length - nxt L[i]) (out ++ grow d L[i] (nxt L[i])) (fun j hj => by
  have hj' : nxt L[i] + j < d.Facts.length := by omega
  have hg := gr_len (d := d) (s := L[i]) (f := nxt L[i]) (i := j)
  simp only [f6_2]
  rw [if_pos (by omega), ix_nat hi, Option.bind_some, app_fits (by simp; omega), Option.bind_some, app_fits (by simp; omega), Option.bind_some, List.nil_append, specPart hf (by simp; omega), prt_snoc hv hp (by omega) hj', Option.bind_some, w64_succ (i := nxt L[i] + j) (by omega), gr_succ]
  cases clash d L[i] (nxt L[i] + j)
  ·rw [if_pos (by simp), app_fits (by simp; omega)]
   simp [Nat.add_assoc]
  ·simp [Nat.add_assoc]) (by
  have e : nxt L[i] + (d.Facts.length - nxt L[i]) = d.Facts.length := by omega
  simp only [f6_2]
  rw [e, if_neg (by omega), gr_all])
 simp only [Nat.add_zero, gr, List.range'_zero, List.flatMap_nil, List.append_nil] at it
 exact it
theorem levSpec (hv : vDb d = true) (hf : Fits d) {k : Nat} (hk : k < 3) : iter (f6_1 d (lev d k)) ([], 0) = some (lev d (k + 1)) := by
 have h14 := (vDb_of hv).2.1
 have hll := (upToLe h14 (i := k) (k := 3) (by omega) (by omega)).2
 rw [iter_flat (f := f6_1 d (lev d k)) (lev d k) (fun s => grow d s (nxt s)) id (fun i hi => by
  have hm := lev_prt hv (List.getElem_mem hi)
  have ha := (prt_of hv hm.1).1
  have hb := flat_le (g := fun s => grow d s (nxt s)) (m := 14) (l := (lev d k).take i) fun s _ => grow_len h14
  rw [List.length_take] at hb
  have hfrom : (if (((lev d k)[i].length : Int)) > 0 then (ix (lev d k)[i] (w64 (((lev d k)[i].length : Int) - 1))).bind fun v => some (w64 (v + 1)) else some 0) = some ((nxt (lev d k)[i] : Nat) : Int) := by
   by_cases h0 : 0 < (lev d k)[i].length
   ·have hv2 := (asc_of ha).2 _ (List.getElem_mem (show (lev d k)[i].length - 1 < (lev d k)[i].length by omega))
    rw [if_pos (by omega), w64_of (by omega), show (((lev d k)[i].length : Int)) - 1 = (((lev d k)[i].length - 1 : Nat) : Int) by omega, ix_nat (by omega), Option.bind_some, w64_of (by omega), nxt_last ha h0]
   ·rw [if_neg (by omega), nxt_nil h0]; rfl
  simp only [f6_1]
  rw [if_pos (by omega), ix_nat hi, Option.bind_some, hfrom, Option.bind_some, growSpec hv hf hi hm.1 (by omega) (by omega), Option.bind_some, w64_succ (by omega)]) (by
  simp only [f6_1]
  rw [if_neg (by omega)]; rfl)]
 rfl
theorem upsSpec {k : Int} (hf : Fits d) : f6 d k = some (ups d k) := by
 unfold f6 ups
 rw [specDb (fits_room hf), Option.bind_some]
 cases hv : vDb d
 ·simp
 ·rw [if_neg (by simp), specIn, Option.bind_some, Option.bind_some]
  cases hb : btw k 0 3
  ·simp
  ·have h14 := (vDb_of hv).2.1
   have hk := hb
   simp only [btw, Bool.and_eq_true, decide_eq_true_eq] at hk
   obtain ⟨m, rfl⟩ : ∃ m : Nat, k = m := ⟨k.toNat, by omega⟩
   rw [if_neg (by simp), if_pos (by simp), app_fits (by simp), Option.bind_some]
   have it := iter_steps (f := f6_0 d (m : Int)) (fun i => (upTo d i, lev d i, (i : Int))) m (upTo d m) (fun i hi => by
    have h1 := upTo_len (d := d) (k := i) h14 (by omega)
    have h2 := (upToLe h14 (i := i + 1) (k := 3) (by omega) (by omega)).2
    simp only [f6_0]
    rw [if_pos (by omega), levSpec hv hf (by omega), Option.bind_some, app_fits (by omega), Option.bind_some, w64_succ (i := i) (by omega), upTo_succ]) (by
    simp only [f6_0]
    rw [if_neg (by omega)])
   rw [upTo_zero] at it
   simp only [lev, Int.natCast_zero, Int.ofNat_zero] at it
   rw [List.nil_append]
   erw [it]
   rfl
end Go.Proofs.YtaanfdjhmhifiaaH
namespace Go.Proofs.YtaanfdjhmhifiaaH
open Go
theorem sameI {a : List Int} (h : a.length ≤ 9223372036854775807) : f38 a a = some true := by
 unfold f38
 rw [if_neg (by simp)]
 rw [iter_ex (List.range a.length) (fun _ => false) false (fun i hi => by
  simp only [f38_0]
  simp only [List.length_range] at hi
  rw [if_pos (by omega), ix_nat hi, w64_succ (by omega)]
  simp) (by
  simp only [f38_0]
  rw [if_neg (by simp)])]
 simp
theorem sameR {a : List (List Int)} (h : a.length ≤ 1048576) (hx : ∀ x ∈ a, x.length ≤ 1048576) : f16 a a = some true := by
 unfold f16
 rw [if_neg (by simp)]
 rw [iter_ex (List.range a.length) (fun _ => false) false (fun i hi => by
  simp only [f16_0]
  simp only [List.length_range] at hi
  have := hx _ (List.getElem_mem hi)
  rw [if_pos (by omega), ix_nat hi, w64_succ (by omega), Option.bind_some, Option.bind_some, sameI (by omega), Option.bind_some]
  simp) (by
  simp only [f16_0]
  rw [if_neg (by simp)])]
 simp
theorem upTo_up {d : Database} (hv : vDb d = true) {k : Nat} : (upTo d k).Pairwise (fun a b => a.length ≤ b.length) := by
 induction k with
 | zero => rw [upTo_zero]; exact List.pairwise_singleton _ _
 | succ k ih =>
  rw [upTo_succ, List.pairwise_append]
  refine ⟨ih, ?_, fun a ha b hb => ?_⟩
  ·rw [List.pairwise_iff_forall_sublist]
   intro a b hs
   have ha := (lev_prt hv (hs.subset (by simp : a ∈ [a, b]))).2
   have hb := (lev_prt hv (hs.subset (by simp : b ∈ [a, b]))).2
   omega
  ·have := (upTo_prt hv ha).2
   have := (lev_prt hv hb).2
   omega
theorem upTo_head {d : Database} {k : Nat} : ∃ t, upTo d k = [] :: t := by
 induction k with
 | zero => exact ⟨[], upTo_zero⟩
 | succ k ih => obtain ⟨t, h⟩ := ih; exact ⟨t ++ lev d (k + 1), by rw [upTo_succ, h]; rfl⟩
theorem dbOk9 {c : L1Cur} (h : Cur c) : Ens (f36 c) fun r => Tiny 9 r.1 ∧ Cur r.2 := by
 unfold f36
 refine Ens.bind (dbOk h) fun o1 ⟨h1, h2⟩ => ?_
 refine Ens.bind (Q := fun s => Tiny 9 ⟨s.1, s.2⟩) ?_ fun s hs => Ens.of ⟨hs, h2⟩
 refine iter_up (f := f36_0) (o1.1.Facts.length - 9) (fun i s => Tiny (o1.1.Facts.length - i) ⟨s.1, s.2⟩ ∧ s.2.length = o1.1.Facts.length - i) _ (fun i s hi ⟨g1, g2⟩ => ?_) (fun s ⟨g1, g2⟩ => ?_) (o1.1.Relations, o1.1.Facts) ⟨⟨h1.1, by simp, h1.2.2⟩, by simp⟩
 ·obtain ⟨rs, fs⟩ := s
  simp only at g1 g2
  simp only [f36_0]
  have := h1.2.1
  rw [if_pos (by omega), w64_of (by omega), show (fs.length : Int) - 1 = ((fs.length - 1 : Nat) : Int) by omega, cutL_ok (by omega) (by omega) (by omega), Option.bind_some]
  simp only [Int.toNat_zero, List.drop_zero, Int.toNat_natCast]
  refine ⟨_, rfl, ⟨g1.1, ?_, fun x hx => g1.2.2 x (List.mem_of_mem_take hx)⟩, ?_⟩
  ·simp only [List.length_take]; omega
  ·simp only [List.length_take]; omega
 ·obtain ⟨rs, fs⟩ := s
  simp only at g1 g2
  simp only [f36_0]
  have := h1.2.1
  rw [if_neg (by omega)]
  exact ⟨_, rfl, g1.1, by simp only; omega, g1.2.2⟩
end Go.Proofs.YtaanfdjhmhifiaaH
namespace Go.Proofs.YtaanfdjhmhifiaaH
open Go
theorem lawFnPartialRepairs (code : List Int) (hcode : ok code) : f4 code = some true := by
 unfold f4 f14
 rw [Option.bind_some]
 by_cases hb : (code.length : Int) > 1048576
 ·rw [if_pos (by simpa using hb)]
 rw [if_neg (by simpa using hb)]
 have hd : Ens (f15 code) fun o => Tiny 9 o.1 := by
  unfold f15
  refine Ens.bind (newOk (by omega)) fun c hc => ?_
  refine Ens.bind (dbOk9 hc) fun o ho => ?_
  refine Ens.bind (belowOk ho.2) fun p hp => ?_
  exact Ens.of ho.1
 obtain ⟨o, e, ht⟩ := hd
 rw [e, Option.bind_some]
 obtain ⟨d, k⟩ := o
 simp only at ht ⊢
 have hf := ht.fits (by omega)
 have hl := ups_len (d := d) (k := k)
 rw [upsImp hf, Option.bind_some, upsSpec hf, Option.bind_some, sameR (by omega) (fun x hx => by have := (hl.2 x hx).2; omega), Option.bind_some]
 rw [if_neg (by simp)]
 by_cases hg : (vDb d && btw k 0 3) = true
 ·have eu : ups d k = upTo d k.toNat := by unfold ups; rw [if_pos hg]
  simp only [Bool.and_eq_true] at hg
  obtain ⟨hv, hk⟩ := hg
  have hk2 : 0 ≤ k ∧ k ≤ 3 := by simpa [btw] using hk
  rw [iter_ex (List.range (ups d k).length) (fun _ => false) false (fun i hi => by
   simp only [List.length_range] at hi
   simp only [f4_0]
   have hm := List.getElem_mem hi
   have h3 := hl.2 _ hm
   have hm2 : (ups d k)[i] ∈ upTo d k.toNat := by rw [← eu]; exact hm
   have h4 := (upTo_prt hv hm2).2
   rw [if_pos (by omega), ix_nat hi, Option.bind_some, if_neg (by omega), impPart hf (by omega), Option.bind_some, h3.1, if_neg (by simp)]
   by_cases h0 : i = 0
   ·subst h0
    rw [if_neg (by simp)]
    simp
   ·have hp := List.pairwise_iff_getElem.1 (by rw [eu]; exact upTo_up hv : (ups d k).Pairwise (fun a b => a.length ≤ b.length)) (i - 1) i (by omega) hi (by omega)
    rw [if_pos (by omega), w64_of (n := (i : Int) - 1) (by omega), show (i : Int) - 1 = ((i - 1 : Nat) : Int) by omega, ix_nat (by omega), Option.bind_some, w64_succ (by omega)]
    simp
    omega) (by
   simp only [f4_0, List.length_range]
   rw [if_neg (by simp)])]
  simp only [List.any_eq_true, Bool.false_eq_true, and_false, exists_const, if_false, Option.bind_some]
  obtain ⟨t, et⟩ := upTo_head (d := d) (k := k.toNat)
  rw [if_neg (by omega), if_neg (by omega), specDb (fits_room hf), Option.bind_some, hv, if_neg (by simp), eu, et]
  simp [ix]
 ·have eu : ups d k = [] := by unfold ups; rw [if_neg hg]
  rw [eu]
  rw [iter_ex (List.range 0) (fun _ => false) false (fun i hi => by simp at hi) (by
   simp only [f4_0, List.length_range]
   rfl)]
  simp only [List.range_zero, List.any_nil, Bool.false_eq_true, if_false, Option.bind_some]
  by_cases h1 : k < 0
  ·rw [if_pos h1]; rfl
  rw [if_neg h1]
  by_cases h2 : k > 3
  ·rw [if_pos h2]; rfl
  rw [if_neg h2, specDb (fits_room hf), Option.bind_some]
  have : vDb d = false := by
   have : btw k 0 3 = true := by simp [btw]; omega
   simpa [this] using hg
  rw [this]
  rfl
end Go.Proofs.YtaanfdjhmhifiaaH
