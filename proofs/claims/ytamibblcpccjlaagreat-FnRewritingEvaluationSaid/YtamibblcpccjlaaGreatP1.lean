import Derived.Test.YtamibblcpccjlaaGreatTd1
import Derived.Test.YtamibblcpccjlaaGreatX3
import Derived.Test.YtamibblcpccjlaaGreatRd1
set_option linter.unusedVariables false
set_option linter.unusedSimpArgs false
set_option linter.defProp false
set_option linter.unusedSectionVars false
namespace Go.Proofs.YtamibblcpccjlaaGreatH
open Go
section
theorem bS {α β : Type} {a : α} {f : α → Option β} : (some a).bind f = f a := rfl
end
section
def Cur (c : L1Cur) : Prop := 0 ≤ c.i ∧ c.i ≤ c.b.length ∧ c.b.length ≤ 1048576
theorem newOk {code : List Int} (h : code.length ≤ 1048576) : Ens (f18 code) Cur := by
 unfold f18
 refine Ens.bind (Q := fun _ => True) ?_ fun a _ => Ens.of ⟨by simp, by simp, h⟩
 refine iter_up (f := f18_0 code) code.length (fun i s => ∃ x, s = (x, (i : Int))) (fun _ => True) (fun i s hi ⟨x, hs⟩ => ?_) (fun s ⟨x, hs⟩ => ?_) _ ⟨_, rfl⟩
 ·subst hs
  simp only [f18_0]
  rw [if_pos (by omega), bS]
  by_cases h4 : (i : Int) < 4000
  ·rw [if_pos (by simpa using h4), ix_nat hi, bS, w64_succ (by omega)]
   exact ⟨_, rfl, _, rfl⟩
  ·rw [if_neg (by simpa using h4)]
   exact ⟨_, rfl, trivial⟩
 ·subst hs
  simp only [f18_0]
  rw [if_neg (by omega), bS, if_neg (by simp)]
  exact ⟨_, rfl, trivial⟩
theorem byteOk {c : L1Cur} (h : Cur c) : Ens (f63 c) fun r => 0 ≤ r.1 ∧ r.1 ≤ 255 ∧ Cur r.2 := by
 unfold f63
 obtain ⟨h0, h1, h2⟩ := h
 refine Ens.bind (Q := fun x : Int × Int => 0 ≤ x.1 ∧ x.1 ≤ (c.b.length : Int) ∧ 0 ≤ x.2 ∧ x.2 ≤ 255) ?_ fun a ha => Ens.of ⟨ha.2.2.1, ha.2.2.2, ha.1, ha.2.1, h2⟩
 refine Ens.ite (fun hc => ?_) fun hc => Ens.of ⟨h0, h1, band_255⟩
 rw [ix_getD (d := 0) h0 hc, bS]
 refine Ens.of ⟨?_, ?_, band_255⟩
 ·rw [w64_of (by omega)]; omega
 ·rw [w64_of (by omega)]; dsimp only; omega
theorem belowOk {c : L1Cur} {n : Int} (h : Cur c) : Ens (f20 c n) fun r => 0 ≤ r.1 ∧ (n ≤ 0 → r.1 = 0) ∧ (0 < n → r.1 < n) ∧ Cur r.2 := by
 unfold f20
 refine Ens.ite (fun hc => Ens.of ⟨by simp, fun _ => rfl, fun h => by omega, h⟩) fun hc => ?_
 refine Ens.ite (fun hd => ?_) fun hd => ?_
 ·refine Ens.bind (byteOk h) fun a ⟨a0, a1, a2⟩ => ?_
  rw [nz_ok (by omega), bS]
  have := tmod_lt (n := n) a0 (by omega)
  exact Ens.of ⟨this.1, fun h => by omega, fun _ => this.2, a2⟩
 ·refine Ens.bind (byteOk h) fun a ⟨a0, a1, a2⟩ => ?_
  refine Ens.bind (byteOk a2) fun b ⟨b0, b1, b2⟩ => ?_
  refine Ens.bind (byteOk b2) fun c ⟨c0, c1, c2⟩ => ?_
  refine Ens.bind (byteOk c2) fun d ⟨d0, d1, d2⟩ => ?_
  rw [nz_ok (by omega), bS]
  rw [w64_of (n := a.1 * 16777216) (by omega), w64_of (n := b.1 * 65536) (by omega), w64_of (n := c.1 * 256) (by omega), w64_of (n := a.1 * 16777216 + b.1 * 65536) (by omega), w64_of (n := a.1 * 16777216 + b.1 * 65536 + c.1 * 256) (by omega), w64_of (by omega)]
  have := tmod_lt (n := n) (a := a.1 * 16777216 + b.1 * 65536 + c.1 * 256 + d.1) (by omega) (by omega)
  exact Ens.of ⟨this.1, fun h => by omega, fun _ => this.2, d2⟩
theorem onceOk {c : L1Cur} {n : Int} (h : Cur c) : Ens (f21 c n) fun r => Cur r.2 := by
 unfold f21
 exact Ens.bind (belowOk h) fun a ha => Ens.of ha.2.2.2
theorem pickOk {c : L1Cur} {l : List Int} (h : Cur c) (hl : 0 < l.length) : Ens (f67 c l) fun r => r.1 ∈ l ∧ Cur r.2 := by
 unfold f67
 refine Ens.bind (belowOk h) fun a ha => ?_
 have h1 := ha.1
 have h2 := ha.2.2.1 (by omega)
 rw [ix_of h1, zE (by omega), bS]
 exact Ens.of ⟨List.getElem_mem _, ha.2.2.2⟩
end
section
end
section
abbrev Big (n : Nat) : Prop := n ≤ 9223372036854775806
theorem hasI {l : List Int} {x : Int} (h : Big l.length) : f80 l x = some (l.contains x) := by
 unfold f80
 rw [iter_ex l (fun a => x == a) true (fun i hi => by
  simp only [f80_0]
  rw [if_pos (by omega), ix_nat hi, w64_succ (by omega)]
  simp only [bS]
  by_cases hc : l[i] = x
  ·rw [if_pos hc, if_pos (by simp [hc])]
  ·rw [if_neg hc, if_neg (by simp; exact fun h => hc h.symm)]) (by
  simp only [f80_0]
  rw [if_neg (by omega)])]
 rw [show l.contains x = l.any (fun a => x == a) from List.any_beq.symm]
 by_cases hc : l.any (fun a => x == a) = true
 ·rw [if_pos hc, hc]; rfl
 ·rw [if_neg hc]; simp only [Bool.not_eq_true] at hc; rw [hc]; rfl
theorem indexI {s : List Int} {f : Int → Option Bool} {p : Int → Bool} (h : Big s.length) (hf : ∀ a ∈ s, f a = some (p a)) : f32 s f = some (s.any p) := by
 unfold f32 f75
 obtain ⟨o, h1, h2⟩ := iter_idx (f := f75_0 s f) s p (fun i hi => by
  simp only [f75_0]
  rw [if_pos (by omega), ix_nat hi, w64_succ (by omega)]
  simp only [bS, hf _ (List.getElem_mem hi)]
  split <;> rfl) (by
  simp only [f75_0]
  rw [if_neg (by omega)])
 rw [h1]
 cases o with
 | inl _ => dsimp only at h2; rw [h2]; rfl
 | inr x => dsimp only at h2; rw [h2.2]; simp; omega
theorem containsI {s : List Int} {v : Int} (h : Big s.length) : f77 s v = some (s.contains v) := by
 unfold f77 f120
 obtain ⟨o, h1, h2⟩ := iter_idx (f := f120_0 s v) s (fun a => v == a) (fun i hi => by
  simp only [f120_0]
  rw [if_pos (by omega), ix_nat hi, w64_succ (by omega)]
  simp only [bS, beq_iff_eq]
  split <;> rfl) (by
  simp only [f120_0]
  rw [if_neg (by omega)])
 rw [h1]
 rw [show s.contains v = s.any (fun a => v == a) from List.any_beq.symm]
 cases o with
 | inl _ => dsimp only at h2; rw [h2]; rfl
 | inr x => dsimp only at h2; rw [h2.2]; simp; omega
theorem subset {a b : List Int} (ha : Big a.length) (hb : Big b.length) : f34 a b = some (a.all b.contains) := by
 unfold f34
 rw [indexI (p := fun x => !b.contains x) ha (fun x _ => by
  unfold f76
  rw [containsI hb]
  simp)]
 rw [any_not]
 simp
end
section
def smaller (l : List (List Int)) (k i : Nat) : Bool := decide ((l.getD k []).length < (l.getD i []).length) || (decide (k < i) && decide ((l.getD k []).length = (l.getD i []).length))
def least (l : List (List Int)) (i : Nat) : Bool := (List.range l.length).all fun k => !(smaller l k i && (l.getD k []).all (l.getD i []).contains)
end
section
def Fits (d : Database) : Prop := d.Relations.length ≤ 1048576 ∧ d.Facts.length ≤ 1048576 ∧ ∀ x ∈ d.Facts, x.Values.length ≤ 1048576
end
section
variable {α ρ : Type}
def good (q : α → Bool) (r : α → α → Bool) (l : List α) : Bool := decide (∀ i (h : i < l.length), (q l[i] && (decide (i = 0) || r (l[i - 1]'(by omega)) l[i])) = true)
theorem good_of {q : α → Bool} {r : α → α → Bool} {l : List α} (h : good q r l = true) {i : Nat} (hi : i < l.length) : q l[i] = true ∧ (0 < i → r (l[i - 1]'(by omega)) l[i] = true) := by
 have := of_decide_eq_true h i hi
 simp only [Bool.and_eq_true, Bool.or_eq_true, decide_eq_true_eq] at this
 exact ⟨this.1, fun hp => this.2.resolve_left (by omega)⟩
theorem iter_adj {f : Int → Option (Int ⊕ (Unit ⊕ ρ))} (q : α → Bool) (r : α → α → Bool) (L : List α) (c : ρ)
  (hs : ∀ (i : Nat) (h : i < L.length), f (i : Int) = some (if (q L[i] && (decide (i = 0) || r (L[i - 1]'(by omega)) L[i])) = true then .inl ((i + 1 : Nat) : Int) else .inr (.inr c)))
  (he : f (L.length : Int) = some (.inr (.inl ()))) : iter f 0 = some (if good q r L = true then .inl () else .inr c) := by
 obtain ⟨o, h1, h2⟩ := iter_up (f := f) L.length (fun i s => s = (i : Int) ∧ ∀ j (h : j < L.length), j < i → (q L[j] && (decide (j = 0) || r (L[j - 1]'(by omega)) L[j])) = true)
  (fun o => o = if good q r L = true then .inl () else .inr c) (fun i s hi ⟨h, hp⟩ => by
   subst h
   refine ⟨_, hs i hi, ?_⟩
   by_cases hc : (q L[i] && (decide (i = 0) || r (L[i - 1]'(by omega)) L[i])) = true
   ·rw [if_pos hc]
    refine ⟨rfl, fun j hj hlt => ?_⟩
    by_cases e : j = i
    ·subst e; exact hc
    ·exact hp j hj (by omega)
   ·rw [if_neg hc]
    dsimp only
    rw [if_neg]
    intro hg
    exact hc (of_decide_eq_true hg i hi)) (fun s ⟨h, hp⟩ => by
   subst h
   refine ⟨_, he, ?_⟩
   rw [if_pos]
   exact decide_eq_true fun i hi => hp i hi hi) 0 ⟨rfl, fun j _ h => by omega⟩
 rw [h1, h2]
def btw (x low high : Int) : Bool := decide (low ≤ x) && decide (x ≤ high)
theorem specIn {x a b : Int} : f38 x a b = some (btw x a b) := by
 unfold f38 btw
 by_cases h : a ≤ x
 ·rw [if_pos (show x ≥ a from h)]; simp [h]
 ·rw [if_neg (show ¬ x ≥ a from h)]; simp [h]
theorem impIn {x a b : Int} : f31 x a b = some (btw x a b) := by
 unfold f31 btw
 by_cases h : a ≤ x
 ·rw [if_pos h]; simp [h]
 ·rw [if_neg h]; simp [h]
def vRel (r : Relation) : Bool := decide (r.Name.length = 1) && (decide (97 ≤ (r.Name.getD 0 0).toNat) && (decide ((r.Name.getD 0 0).toNat ≤ 122) && (btw r.Arity 1 3 && btw r.KeyLength 0 r.Arity)))
theorem specRel {r : Relation} : f79 r = some (vRel r) := by
 unfold f79 vRel
 by_cases h1 : r.Name.length = 1
 ·rw [if_pos (by omega)]
  have e : ix r.Name 0 = some (r.Name.getD 0 0) := by rw [ix_of (by omega)]; simp [zE (show 0 < r.Name.length by omega)]
  rw [e, bS]
  generalize r.Name.getD 0 0 = c
  by_cases h2 : 97 ≤ c.toNat
  ·rw [if_pos (by omega)]
   by_cases h3 : c.toNat ≤ 122
   ·rw [if_pos (by omega), specIn, bS]
    cases hb : btw r.Arity 1 3
    ·simp
    ·simp [specIn, h1, h2, h3]
   ·rw [if_neg (by omega)]; simp [h3]
  ·rw [if_neg (by omega)]; simp [h2]
 ·rw [if_neg (by omega)]; simp [h1]
theorem impRel {r : Relation} : f74 r = some (vRel r) := by
 unfold f74 vRel
 by_cases h1 : r.Name.length = 1
 ·rw [if_pos (by omega)]
  have e : ix r.Name 0 = some (r.Name.getD 0 0) := by rw [ix_of (by omega)]; simp [zE (show 0 < r.Name.length by omega)]
  rw [e, bS]
  generalize r.Name.getD 0 0 = c
  by_cases h2 : 97 ≤ c.toNat
  ·rw [if_pos (by omega)]
   by_cases h3 : c.toNat ≤ 122
   ·rw [if_pos (by omega), impIn, bS]
    cases hb : btw r.Arity 1 3
    ·simp
    ·simp [impIn, h1, h2, h3]
   ·rw [if_neg (by omega)]; simp [h3]
  ·rw [if_neg (by omega)]; simp [h2]
 ·rw [if_neg (by omega)]; simp [h1]
def vRels (l : List Relation) : Bool := good vRel (fun a b => Op.bytesLess a.Name b.Name) l && decide (l.length ≤ 4)
theorem specRels {l : List Relation} (h : Big l.length) : f37 l = some (vRels l) := by
 unfold f37 vRels
 rw [iter_adj vRel (fun a b => Op.bytesLess a.Name b.Name) l false (fun i hi => by
  simp only [f37_0]
  rw [if_pos (by omega), ix_nat hi, w64_succ (by omega)]
  simp only [bS, specRel]
  cases vRel l[i]
  ·simp
  ·by_cases h0 : i = 0
   ·subst h0; simp
   ·have e : ix l (w64 ((i : Int) - 1)) = some (l[i - 1]'(by omega)) := by rw [w64_of (by omega), show (i : Int) - 1 = ((i - 1 : Nat) : Int) by omega, ix_nat (by omega)]
    simp only [e]
    have : 0 < i := by omega
    cases hb : Op.bytesLess (l[i - 1]'(by omega)).Name l[i].Name <;> simp [h0, this, hb]) (by
  simp only [f37_0]
  rw [if_neg (by omega)])]
 cases good vRel (fun a b => Op.bytesLess a.Name b.Name) l
 ·simp
 ·simp; omega
theorem impRels {l : List Relation} (h : Big l.length) : f30 l = some (vRels l) := by
 unfold f30 vRels
 rw [iter_adj vRel (fun a b => Op.bytesLess a.Name b.Name) l false (fun i hi => by
  simp only [f30_0]
  rw [if_pos (by omega), ix_nat hi, w64_succ (by omega)]
  simp only [bS, impRel]
  cases vRel l[i]
  ·simp
  ·by_cases h0 : i = 0
   ·subst h0; simp
   ·have e : ix l (w64 ((i : Int) - 1)) = some (l[i - 1]'(by omega)) := by rw [w64_of (by omega), show (i : Int) - 1 = ((i - 1 : Nat) : Int) by omega, ix_nat (by omega)]
    simp only [e]
    have : 0 < i := by omega
    cases hb : Op.bytesLess (l[i - 1]'(by omega)).Name l[i].Name <;> simp [h0, this, hb]) (by
  simp only [f30_0]
  rw [if_neg (by omega)])]
 cases good vRel (fun a b => Op.bytesLess a.Name b.Name) l
 ·simp
 ·simp; omega
def arity (l : List Relation) (r : Int) : Int := (l[r.toNat]?.map (·.Arity)).getD 0
def keyLen (l : List Relation) (r : Int) : Int := (l[r.toNat]?.map (·.KeyLength)).getD 0
def vVals (l : List Int) : Bool := l.all fun v => btw v 0 9
def vFact (l : List Relation) (f : Fact) : Bool := btw f.Relation 0 (l.length - 1) && (decide ((f.Values.length : Int) = arity l f.Relation) && vVals f.Values)
theorem ix_rel {l : List Relation} {r : Int} (h : btw r 0 (l.length - 1) = true) : ∃ x, ix l r = some x ∧ x ∈ l ∧ x.Arity = arity l r ∧ x.KeyLength = keyLen l r := by
 unfold btw at h; simp only [Bool.and_eq_true, decide_eq_true_eq] at h
 have e : l[r.toNat]? = some (l[r.toNat]'(by omega)) := zE _
 refine ⟨l[r.toNat]'(by omega), ?_, List.getElem_mem _, ?_, ?_⟩
 ·rw [ix_of h.1, e]
 ·unfold arity; rw [e]; rfl
 ·unfold keyLen; rw [e]; rfl
theorem specFact {l : List Relation} {f : Fact} (h : Big l.length) (hf : Big f.Values.length) : f42 l f = some (vRels l && vFact l f) := by
 unfold f42 vFact
 rw [specRels h, bS]
 cases vRels l
 ·simp
 ·rw [w64_of (by omega), specIn]
  cases hb : btw f.Relation 0 (l.length - 1)
  ·simp
  ·obtain ⟨x, h1, _, h2, _⟩ := ix_rel hb
   rw [h1]
   by_cases ha : (f.Values.length : Int) = arity l f.Relation
   ·rw [iter_ex f.Values (fun v => !btw v 0 9) false (fun i hi => by
     simp only [f42_0]
     rw [if_pos (by omega), ix_nat hi, w64_succ (by omega)]
     simp only [bS, specIn]
     cases btw f.Values[i] 0 9 <;> simp) (by
     simp only [f42_0]
     rw [if_neg (by omega)])]
    unfold vVals
    rw [any_not]
    cases f.Values.all (fun v => btw v 0 9) <;> simp [h2, ha]
   ·simp [h2, ha]
theorem impVals {l : List Int} (h : Big l.length) : f112 l = some (vVals l) := by
 unfold f112
 rw [indexI (p := fun v => !btw v 0 9) h (fun v _ => by
  unfold f154
  rw [impIn]; cases btw v 0 9 <;> simp)]
 unfold vVals
 rw [any_not]
 cases l.all (fun v => btw v 0 9) <;> simp
theorem impFact {l : List Relation} {f : Fact} (h : Big l.length) (hf : Big f.Values.length) : f68 l f = some (vFact l f) := by
 unfold f68 vFact
 rw [w64_of (by omega), impIn]
 cases hb : btw f.Relation 0 (l.length - 1)
 ·simp
 ·obtain ⟨x, h1, _, h2, _⟩ := ix_rel hb
  rw [h1]
  by_cases ha : (f.Values.length : Int) = arity l f.Relation
  ·simp [h2, ha, impVals hf]
  ·simp [h2, ha]
def cmpL : List Int → List Int → Int
 | [], [] => 0
 | [], _ :: _ => -1
 | _ :: _, [] => 1
 | a :: s, b :: t => if a < b then -1 else if a > b then 1 else cmpL s t
theorem cmpL_step {a b : List Int} {i : Nat} (ha : i < a.length) (hb : i < b.length) : cmpL (a.drop i) (b.drop i) = if a[i] < b[i] then -1 else if a[i] > b[i] then 1 else cmpL (a.drop (i + 1)) (b.drop (i + 1)) := by
 rw [List.drop_eq_getElem_cons ha, List.drop_eq_getElem_cons hb, cmpL]
theorem cmpL_end {a b : List Int} {i : Nat} (h : a.length ≤ i ∨ b.length ≤ i) (hi : i ≤ a.length ∧ i ≤ b.length) : cmpL (a.drop i) (b.drop i) = if a.length < b.length then -1 else if a.length > b.length then 1 else 0 := by
 rcases h with h | h
 ·rw [List.drop_of_length_le h]
  by_cases e : b.length ≤ i
  ·rw [List.drop_of_length_le e, cmpL, if_neg (by omega), if_neg (by omega)]
  ·rw [List.drop_eq_getElem_cons (by omega : i < b.length), cmpL, if_pos (by omega)]
 ·rw [List.drop_of_length_le h]
  by_cases e : a.length ≤ i
  ·rw [List.drop_of_length_le e, cmpL, if_neg (by omega), if_neg (by omega)]
  ·rw [List.drop_eq_getElem_cons (by omega : i < a.length), cmpL, if_neg (by omega), if_pos (by omega)]
theorem specInts {a b : List Int} (ha : Big a.length) (hb : Big b.length) : f81 a b = some (cmpL a b) := by
 unfold f81
 refine Ens.eq (Q := fun r => r = cmpL a b) (Ens.bind (Q := fun o => match o with | .inl _ => (if a.length < b.length then -1 else if a.length > b.length then 1 else 0) = cmpL a b | .inr x => x = cmpL a b) ?_ fun o ho => ?_) _ (fun _ h => h)
 ·refine iter_up (f := f81_0 a b) (min a.length b.length) (fun i s => s = (i : Int) ∧ cmpL (a.drop i) (b.drop i) = cmpL a b) _ (fun i s hi ⟨h, hp⟩ => ?_) (fun s ⟨h, hp⟩ => ?_) 0 ⟨rfl, rfl⟩
  ·subst h
   have h1 : i < a.length := by omega
   have h2 : i < b.length := by omega
   simp only [f81_0]
   rw [if_pos (by omega), ix_nat h1, ix_nat h2, w64_succ (by omega)]
   rw [cmpL_step h1 h2] at hp
   simp only [bS, show (i : Int) < b.length by omega, decide_true, if_true]
   by_cases c1 : a[i] < b[i]
   ·rw [if_pos c1] at hp ⊢
    exact ⟨_, rfl, hp⟩
   ·rw [if_neg c1] at hp ⊢
    by_cases c2 : a[i] > b[i]
    ·rw [if_pos c2] at hp ⊢; exact ⟨_, rfl, hp⟩
    ·rw [if_neg c2] at hp ⊢; exact ⟨_, rfl, rfl, hp⟩
  ·subst h
   rw [cmpL_end (by omega) (by omega)] at hp
   simp only [f81_0]
   by_cases c : ((min a.length b.length : Nat) : Int) < a.length
   ·rw [if_pos c]
    simp only [bS, show ¬ ((min a.length b.length : Nat) : Int) < b.length by omega, decide_false]
    exact ⟨_, rfl, hp⟩
   ·rw [if_neg c]; exact ⟨_, rfl, hp⟩
 ·cases o with
  | inl _ =>
   dsimp only at ho ⊢
   by_cases c1 : a.length < b.length
   ·rw [if_pos c1] at ho; rw [if_pos (by omega)]; exact Ens.of ho
   ·rw [if_neg c1] at ho; rw [if_neg (by omega)]
    by_cases c2 : a.length > b.length
    ·rw [if_pos c2] at ho; rw [if_pos (by omega)]; exact Ens.of ho
    ·rw [if_neg c2] at ho; rw [if_neg (by omega)]; exact Ens.of ho
  | inr x => exact Ens.of ho
theorem cmpInt {a b : Int} : f155 a b = some (if a < b then -1 else if a > b then 1 else 0) := by
 unfold f155 f181
 simp only [ne_eq, not_true_eq_false, decide_false, bS, Bool.false_eq_true, if_false]
 split
 ·rfl
 ·split <;> rfl
theorem impInts {a b : List Int} (ha : Big a.length) (hb : Big b.length) : f114 a b = some (cmpL a b) := by
 unfold f114
 refine Ens.eq (Q := fun r => r = cmpL a b) (Ens.bind (Q := fun o => match o with | .inl _ => (if a.length < b.length then -1 else 0) = cmpL a b | .inr x => x = cmpL a b) ?_ fun o ho => ?_) _ (fun _ h => h)
 ·refine iter_up (f := f114_0 a b) a.length (fun i s => s = (i : Int) ∧ i ≤ b.length ∧ cmpL (a.drop i) (b.drop i) = cmpL a b) _ (fun i s hi ⟨h, hl, hp⟩ => ?_) (fun s ⟨h, hl, hp⟩ => ?_) 0 ⟨rfl, by omega, rfl⟩
  ·subst h
   simp only [f114_0]
   rw [if_pos (by omega), ix_nat hi, w64_succ (by omega)]
   by_cases h2 : i < b.length
   ·rw [bS, if_neg (by omega), ix_nat h2]
    rw [cmpL_step hi h2] at hp
    simp only [bS, cmpInt]
    by_cases c1 : a[i] < b[i]
    ·rw [if_pos c1] at hp ⊢
     rw [if_pos (by omega)]; exact ⟨_, rfl, hp⟩
    ·rw [if_neg c1] at hp ⊢
     by_cases c2 : a[i] > b[i]
     ·rw [if_pos c2] at hp ⊢; rw [if_pos (by omega)]; exact ⟨_, rfl, hp⟩
     ·rw [if_neg c2] at hp ⊢; rw [if_neg (by omega)]; exact ⟨_, rfl, rfl, by omega, hp⟩
   ·rw [bS, if_pos (by omega)]
    rw [cmpL_end (by omega) (by omega), if_neg (by omega), if_pos (by omega)] at hp
    exact ⟨_, rfl, hp⟩
  ·subst h
   simp only [f114_0]
   rw [if_neg (by omega)]
   rw [cmpL_end (by omega) (by omega)] at hp
   refine ⟨_, rfl, ?_⟩
   dsimp only
   rw [← hp]
   by_cases c1 : a.length < b.length
   ·rw [if_pos c1, if_pos c1]
   ·rw [if_neg c1, if_neg c1, if_neg (by omega)]
 ·cases o with
  | inl _ =>
   dsimp only at ho ⊢
   by_cases c1 : a.length < b.length
   ·rw [if_pos c1] at ho; rw [if_pos (by omega)]; exact Ens.of ho
   ·rw [if_neg c1] at ho; rw [if_neg (by omega)]; exact Ens.of ho
  | inr x => exact Ens.of ho
def cmpF (a b : Fact) : Int := if a.Relation < b.Relation then -1 else if a.Relation > b.Relation then 1 else cmpL a.Values b.Values
theorem specCmp {a b : Fact} (ha : Big a.Values.length) (hb : Big b.Values.length) : f43 a b = some (cmpF a b) := by
 unfold f43 cmpF
 rw [specInts ha hb]
 split
 ·rfl
 ·split <;> rfl
theorem impCmp {a b : Fact} (ha : Big a.Values.length) (hb : Big b.Values.length) : f69 a b = some (cmpF a b) := by
 unfold f69 f113 cmpF
 rw [impInts ha hb]
 by_cases c1 : a.Relation < b.Relation
 ·rw [if_pos (by omega), if_pos c1, if_pos c1]; rfl
 ·rw [if_neg c1, if_neg c1]
  by_cases c2 : a.Relation > b.Relation
  ·rw [if_pos (by omega), if_pos c2, if_pos c2]; rfl
  ·rw [if_neg (by omega), if_neg c2]; rfl
def Room (d : Database) : Prop := Big d.Relations.length ∧ Big d.Facts.length ∧ ∀ x ∈ d.Facts, Big x.Values.length
theorem fits_room {d : Database} (h : Fits d) : Room d := ⟨by have := h.1; omega, by have := h.2.1; omega, fun x hx => by have := h.2.2 x hx; omega⟩
def gFacts (d : Database) : Bool := good (vFact d.Relations) (fun a b => decide (cmpF a b < 0)) d.Facts
def vDb (d : Database) : Bool := vRels d.Relations && (decide (d.Facts.length ≤ 14) && gFacts d)
theorem good_congr {q q' : α → Bool} {r : α → α → Bool} {l : List α} (h : ∀ a ∈ l, q a = q' a) : good q r l = good q' r l := by
 unfold good
 congr 1
 apply propext
 constructor
 ·intro g i hi; rw [← h _ (List.getElem_mem hi)]; exact g i hi
 ·intro g i hi; rw [h _ (List.getElem_mem hi)]; exact g i hi
theorem specDb {d : Database} (h : Room d) : f11 d = some (vDb d) := by
 obtain ⟨h1, h2, h3⟩ := h
 unfold f11
 rw [iter_adj (fun f => vRels d.Relations && vFact d.Relations f) (fun a b => decide (cmpF a b < 0)) d.Facts false (fun i hi => by
  simp only [f11_0]
  rw [if_pos (by omega), ix_nat hi, w64_succ (by omega)]
  simp only [bS, specFact h1 (h3 _ (List.getElem_mem hi))]
  cases (vRels d.Relations && vFact d.Relations d.Facts[i])
  ·simp
  ·by_cases h0 : i = 0
   ·subst h0; simp
   ·have e : ix d.Facts (w64 ((i : Int) - 1)) = some (d.Facts[i - 1]'(by omega)) := by rw [w64_of (by omega), show (i : Int) - 1 = ((i - 1 : Nat) : Int) by omega, ix_nat (by omega)]
    simp only [e, bS, specCmp (h3 _ (List.getElem_mem (show i - 1 < d.Facts.length by omega))) (h3 _ (List.getElem_mem hi))]
    have : 0 < i := by omega
    by_cases hb : cmpF (d.Facts[i - 1]'(by omega)) d.Facts[i] < 0
    ·simp [h0, this, hb, Int.not_le.2 hb]
    ·simp [h0, this, hb, show 0 ≤ cmpF (d.Facts[i - 1]'(by omega)) d.Facts[i] by omega]) (by
  simp only [f11_0]
  rw [if_neg (by omega)])]
 unfold vDb
 rw [specRels h1]
 cases hv : vRels d.Relations
 ·split <;> simp
 ·have e : good (fun f => true && vFact d.Relations f) (fun a b => decide (cmpF a b < 0)) d.Facts = gFacts d := good_congr fun a _ => Bool.true_and _
  rw [e]
  cases gFacts d
  ·simp
  ·simp; omega
theorem impDb {d : Database} (h : Room d) : f24 d = some (vDb d) := by
 obtain ⟨h1, h2, h3⟩ := h
 unfold f24 vDb
 rw [impRels h1, bS]
 cases vRels d.Relations
 ·simp
 ·by_cases hn : d.Facts.length ≤ 14
  ·rw [iter_adj (vFact d.Relations) (fun a b => decide (cmpF a b < 0)) d.Facts false (fun i hi => by
    simp only [f24_0]
    rw [if_pos (by omega), ix_nat hi, w64_succ (by omega)]
    simp only [bS, impFact h1 (h3 _ (List.getElem_mem hi))]
    cases vFact d.Relations d.Facts[i]
    ·simp
    ·by_cases h0 : i = 0
     ·subst h0; simp
     ·have e : ix d.Facts (w64 ((i : Int) - 1)) = some (d.Facts[i - 1]'(by omega)) := by rw [w64_of (by omega), show (i : Int) - 1 = ((i - 1 : Nat) : Int) by omega, ix_nat (by omega)]
      simp only [e, bS, impCmp (h3 _ (List.getElem_mem (show i - 1 < d.Facts.length by omega))) (h3 _ (List.getElem_mem hi))]
      have : 0 < i := by omega
      by_cases hb : cmpF (d.Facts[i - 1]'(by omega)) d.Facts[i] < 0
      ·simp [h0, this, hb, Int.not_le.2 hb]
      ·simp [h0, this, hb, show 0 ≤ cmpF (d.Facts[i - 1]'(by omega)) d.Facts[i] by omega]) (by
    simp only [f24_0]
    rw [if_neg (by omega)])]
   change _ = some (true && (decide (d.Facts.length ≤ 14) && good (vFact d.Relations) (fun a b => decide (cmpF a b < 0)) d.Facts))
   cases good (vFact d.Relations) (fun a b => decide (cmpF a b < 0)) d.Facts
   ·simp
   ·simp [hn]; omega
  ·simp [hn]; omega
def asc (n : Int) (l : List Int) : Bool := good (fun v => btw v 0 (n - 1)) (fun a b => decide (a < b)) l
end
section
variable {α ρ : Type}
theorem nodup_le : ∀ {n : Nat} {H : List Int}, H.Nodup → (∀ v ∈ H, 0 ≤ v ∧ v < n) → H.length ≤ n
 | 0, [], _, _ => by simp
 | 0, a :: H, _, h => by have := h a (by simp); omega
 | n + 1, H, hd, h => by
  have h1 : (H.erase ((n : Nat) : Int)).length ≤ n := nodup_le (hd.erase _) fun v hv => by
   have h2 := h v (List.mem_of_mem_erase hv)
   have h3 := (List.Nodup.mem_erase_iff hd).1 hv
   have := h3.1
   omega
  have h2 := List.length_erase (l := H) (a := ((n : Nat) : Int))
  split at h2 <;> omega
theorem cmpL_trans : ∀ {a b c : List Int}, cmpL a b < 0 → cmpL b c < 0 → cmpL a c < 0
 | [], _, [], h1, h2 => by
  rename_i b
  cases b with
  | nil => simp [cmpL] at h1
  | cons y b => simp [cmpL] at h2
 | [], _, _ :: _, h1, h2 => by simp [cmpL]
 | _ :: _, [], _, h1, h2 => by simp [cmpL] at h1
 | _ :: _, _ :: _, [], h1, h2 => by simp [cmpL] at h2
 | x :: a, y :: b, z :: c, h1, h2 => by
  rw [cmpL] at h1 h2 ⊢
  by_cases c1 : x < y
  ·by_cases c2 : y < z
   ·rw [if_pos (by omega)]; omega
   ·rw [if_neg c2] at h2
    by_cases c3 : y > z
    ·rw [if_pos c3] at h2; omega
    ·rw [if_pos (by omega)]; omega
  ·rw [if_neg c1] at h1
   by_cases c3 : x > y
   ·rw [if_pos c3] at h1; omega
   ·rw [if_neg c3] at h1
    by_cases c2 : y < z
    ·rw [if_pos (by omega)]; omega
    ·rw [if_neg c2] at h2
     by_cases c4 : y > z
     ·rw [if_pos c4] at h2; omega
     ·rw [if_neg c4] at h2
      rw [if_neg (by omega), if_neg (by omega)]
      exact cmpL_trans h1 h2
theorem cmpL_conv : ∀ {m : Nat} {a b c : List Int}, cmpL a b < 0 → cmpL b c < 0 → m ≤ a.length → m ≤ b.length → m ≤ c.length → a.take m = c.take m → a.take m = b.take m
 | 0, _, _, _, _, _, _, _, _, _ => by simp
 | m + 1, [], _, _, _, _, h, _, _, _ => by simp at h
 | m + 1, _ :: _, [], _, _, _, _, h, _, _ => by simp at h
 | m + 1, _ :: _, _ :: _, [], _, _, _, _, h, _ => by simp at h
 | m + 1, x :: a, y :: b, z :: c, h1, h2, l1, l2, l3, h => by
  simp only [List.take_succ_cons, List.cons.injEq] at h ⊢
  obtain ⟨rfl, h⟩ := h
  simp only [List.length_cons] at l1 l2 l3
  rw [cmpL] at h1 h2
  have e : x = y := by
   by_cases c1 : x < y
   ·rw [if_neg (by omega), if_pos (by omega)] at h2; omega
   ·rw [if_neg c1] at h1
    by_cases c2 : x > y
    ·rw [if_pos c2] at h1; omega
    ·omega
  subst e
  rw [if_neg (by omega), if_neg (by omega)] at h1 h2
  exact ⟨rfl, cmpL_conv h1 h2 (by omega) (by omega) (by omega) h⟩
theorem cmpL_eq : ∀ {a b : List Int}, cmpL a b = 0 ↔ a = b
 | [], [] => by simp [cmpL]
 | [], _ :: _ => by simp [cmpL]
 | _ :: _, [] => by simp [cmpL]
 | x :: a, y :: b => by
  rw [cmpL]
  by_cases c1 : x < y
  ·rw [if_pos c1]; simp; intro h; omega
  ·rw [if_neg c1]
   by_cases c2 : x > y
   ·rw [if_pos c2]; simp; intro h; omega
   ·rw [if_neg c2, cmpL_eq]
    simp only [List.cons.injEq]
    exact ⟨fun h => ⟨by omega, h⟩, fun h => h.2⟩
theorem cmpF_trans {a b c : Fact} (h1 : cmpF a b < 0) (h2 : cmpF b c < 0) : cmpF a c < 0 := by
 unfold cmpF at h1 h2 ⊢
 by_cases c1 : a.Relation < b.Relation
 ·by_cases c2 : b.Relation > c.Relation
  ·rw [if_neg (by omega), if_pos c2] at h2; omega
  ·rw [if_pos (by omega)]; omega
 ·rw [if_neg c1] at h1
  by_cases c3 : a.Relation > b.Relation
  ·rw [if_pos c3] at h1; omega
  ·rw [if_neg c3] at h1
   by_cases c2 : b.Relation < c.Relation
   ·rw [if_pos (by omega)]; omega
   ·rw [if_neg c2] at h2
    by_cases c4 : b.Relation > c.Relation
    ·rw [if_pos c4] at h2; omega
    ·rw [if_neg c4] at h2
     rw [if_neg (by omega), if_neg (by omega)]
     exact cmpL_trans h1 h2
def keyOf (l : List Relation) (a : Fact) : List Int := a.Values.take (keyLen l a.Relation).toNat
def same (l : List Relation) (a b : Fact) : Bool := decide (a.Relation = b.Relation) && decide (keyOf l a = keyOf l b)
theorem vRel_mem {l : List Relation} (h : vRels l = true) {r : Relation} (hr : r ∈ l) : vRel r = true := by
 unfold vRels at h; simp only [Bool.and_eq_true] at h
 obtain ⟨i, hi, rfl⟩ := List.mem_iff_getElem.1 hr
 exact (good_of h.1 hi).1
theorem key_le {l : List Relation} {f : Fact} (h : vRels l = true) (hf : vFact l f = true) : ∃ x, ix l f.Relation = some x ∧ x.KeyLength = keyLen l f.Relation ∧ 0 ≤ keyLen l f.Relation ∧ keyLen l f.Relation ≤ f.Values.length := by
 unfold vFact at hf; simp only [Bool.and_eq_true, decide_eq_true_eq] at hf
 obtain ⟨x, h1, h2, h3, h4⟩ := ix_rel hf.1
 have := vRel_mem h h2
 unfold vRel btw at this
 simp only [Bool.and_eq_true, decide_eq_true_eq] at this
 exact ⟨x, h1, h4, by omega, by omega⟩
theorem specKey {l : List Relation} {f : Fact} (hl : Big l.length) (hv : f.Values.length ≤ 1048576) (h : vRels l = true) (hf : vFact l f = true) : f174 l f = some (keyOf l f) := by
 unfold f174
 rw [specFact hl (by omega), h, hf]
 obtain ⟨x, h1, h2, h3, h4⟩ := key_le h hf
 simp only [Bool.and_self, bS, not_true_eq_false, if_false, h1]
 rw [h2, cutL_ok (by omega) h3 h4, bS, app_fits (by simp; omega)]
 simp [keyOf]
theorem specSame {l : List Relation} {a b : Fact} (hl : Big l.length) (ha : a.Values.length ≤ 1048576) (hb : b.Values.length ≤ 1048576) (h : vRels l = true) (va : vFact l a = true) (vb : vFact l b = true) : f140 l a b = some (same l a b) := by
 unfold f140 same
 rw [specFact hl (by omega), specFact hl (by omega), h, va, vb, specKey hl ha h va, specKey hl hb h vb]
 have k1 : Big (keyOf l a).length := by unfold keyOf; simp; omega
 have k2 : Big (keyOf l b).length := by unfold keyOf; simp; omega
 by_cases c : a.Relation = b.Relation
 ·simp only [Bool.and_self, bS, if_true, c, specInts k1 k2, decide_true, Bool.true_and]
  by_cases e : keyOf l a = keyOf l b
  ·rw [cmpL_eq.2 e]; simp [e]
  ·have : ¬ cmpL (keyOf l a) (keyOf l b) = 0 := fun h => e (cmpL_eq.1 h)
   simp [this, e]
 ·simp [c]
theorem eqSl {a b : List Int} (ha : Big a.length) : f119 a b = some (decide (a = b)) := by
 unfold f119
 by_cases hl : a.length = b.length
 ·rw [if_neg (by omega)]
  rw [iter_ex (List.range a.length) (fun i => decide (a[i]? ≠ b[i]?)) false (fun i hi => by
   simp only [List.length_range] at hi
   simp only [f119_0, List.getElem_range]
   rw [if_pos (by omega), ix_nat hi, ix_nat (by omega : i < b.length), w64_succ (by omega), zE hi, zE (by omega : i < b.length)]
   by_cases c : a[i] = b[i]'(by omega)
   ·simp [c]
   ·simp [c]) (by
   simp only [f119_0]
   rw [if_neg (by simp)])]
  by_cases e : a = b
  ·subst e; simp
  ·have : ((List.range a.length).any fun i => decide (a[i]? ≠ b[i]?)) = true := by
    apply Classical.byContradiction
    intro hn
    apply e
    apply List.ext_getElem hl
    intro i h1 h2
    apply Classical.byContradiction
    intro hne
    exact hn (List.any_eq_true.2 ⟨i, List.mem_range.2 h1, by simp [zE h1, zE h2, hne]⟩)
   rw [if_pos this]; simp [e]
 ·rw [if_pos (by omega)]
  have : a ≠ b := fun h => hl (by rw [h])
  simp [this]
theorem impSame {l : List Relation} {a b : Fact} (ha : a.Values.length ≤ 1048576) (hb : b.Values.length ≤ 1048576) (h : vRels l = true) (va : vFact l a = true) (vb : vFact l b = true) : f72 l a b = some (same l a b) := by
 unfold f72 same
 obtain ⟨x, h1, h2, h3, h4⟩ := key_le h va
 obtain ⟨x', h1', h2', h3', h4'⟩ := key_le h vb
 by_cases c : a.Relation = b.Relation
 ·rw [if_neg (by simp [c]), h1, bS, h2, cutL_ok (by omega) h3 h4, bS, cutL_ok (by omega) h3 (by rw [c]; exact h4'), bS, eqSl (by simp; omega)]
  simp [keyOf, c]
 ·rw [if_pos c]; simp [c]
structure Kin (n : Nat) (sk : Nat → Nat → Bool) : Prop where
 refl : ∀ i, i < n → sk i i = true
 symm : ∀ i k, i < n → k < n → sk i k = sk k i
 trans : ∀ i j k, i < n → j < n → k < n → sk i j = true → sk j k = true → sk i k = true
 conv : ∀ i j k, i ≤ j → j ≤ k → k < n → sk i k = true → sk i j = true
variable {n : Nat} {sk : Nat → Nat → Bool}
def blk (sk : Nat → Nat → Bool) (i x : Nat) : List Int := (List.range x).flatMap fun k => if sk i k = true then [((k : Nat) : Int)] else []
def start (sk : Nat → Nat → Bool) (i : Nat) : Bool := (List.range i).all fun k => !sk k i
def blks (sk : Nat → Nat → Bool) (y x : Nat) : List (List Int) := (List.range y).flatMap fun i => if start sk i = true then [blk sk i x] else []
theorem blk_succ {i x : Nat} : blk sk i (x + 1) = blk sk i x ++ if sk i x = true then [((x : Nat) : Int)] else [] := by simp [blk, List.range_succ]
theorem blks_succ {y x : Nat} : blks sk (y + 1) x = blks sk y x ++ if start sk y = true then [blk sk y x] else [] := by simp [blks, List.range_succ]
theorem blk_len {i x : Nat} : (blk sk i x).length ≤ x := by
 induction x with
 | zero => simp [blk]
 | succ x ih => rw [blk_succ, List.length_append]; split <;> simp <;> omega
theorem blks_len {y x : Nat} : (blks sk y x).length ≤ y := by
 induction y with
 | zero => simp [blks]
 | succ y ih => rw [blks_succ, List.length_append]; split <;> simp <;> omega
theorem blk_none {i s : Nat} (h : ∀ k, k < s → sk i k = false) : blk sk i s = [] := by
 induction s with
 | zero => simp [blk]
 | succ s ih => rw [blk_succ, ih fun k hk => h k (by omega), h s (by omega)]; simp
theorem blk_first {i s x : Nat} (h : ∀ k, k < s → sk i k = false) (hs : sk i s = true) (hx : s < x) : ∃ t, blk sk i x = (s : Int) :: t := by
 induction x with
 | zero => omega
 | succ x ih =>
  rw [blk_succ]
  by_cases e : s = x
  ·subst e; rw [blk_none h, if_pos hs]; exact ⟨[], rfl⟩
  ·obtain ⟨t, ht⟩ := ih (by omega)
   rw [ht]; exact ⟨_, rfl⟩
theorem start_iff {i : Nat} : start sk i = true ↔ ∀ k, k < i → sk k i = false := by
 unfold start; rw [List.all_eq_true]
 simp only [List.mem_range, Bool.not_eq_true']
theorem not_start {i : Nat} (h : start sk i = false) : ∃ s, s < i ∧ sk s i = true ∧ ∀ k, k < s → sk k i = false := by
 have : ∃ s, s < i ∧ sk s i = true := by
  apply Classical.byContradiction
  intro hn
  have : start sk i = true := start_iff.2 fun k hk => by
   cases hb : sk k i
   ·rfl
   ·exact (hn ⟨k, hk, hb⟩).elim
  rw [h] at this; cases this
 obtain ⟨s, h1, h2⟩ := this
 induction s using Nat.strongRecOn with
 | _ s ih =>
  by_cases c : ∃ k, k < s ∧ sk k i = true
  ·obtain ⟨k, hk, hc⟩ := c
   exact ih k hk (by omega) hc
  ·refine ⟨s, h1, h2, fun k hk => ?_⟩
   cases hb : sk k i
   ·rfl
   ·exact (c ⟨k, hk, hb⟩).elim
theorem blk_head (K : Kin n sk) {i x : Nat} (hi : i < n) (hx : x ≤ n) (hix : i < x) : ∃ (s : Nat) (t : List Int), blk sk i x = (s : Int) :: t ∧ s ≤ i ∧ (s = i ↔ start sk i = true) := by
 cases hs : start sk i
 ·obtain ⟨s, h1, h2, h3⟩ := not_start hs
  obtain ⟨t, ht⟩ := blk_first (sk := sk) (i := i) (s := s) (x := x) (fun k hk => by rw [K.symm i k hi (by omega)]; exact h3 k hk) (by rw [K.symm i s hi (by omega)]; exact h2) (by omega)
  refine ⟨s, t, ht, by omega, ?_⟩
  simp; omega
 ·obtain ⟨t, ht⟩ := blk_first (sk := sk) (i := i) (s := i) (x := x) (fun k hk => by rw [K.symm i k hi (by omega)]; exact start_iff.1 hs k hk) (K.refl i hi) hix
  exact ⟨i, t, ht, by omega, by simp⟩
theorem blks_bnd {y x : Nat} (h : ∀ i, i < y → start sk i = true → sk i x = false) : blks sk y (x + 1) = blks sk y x := by
 induction y with
 | zero => simp [blks]
 | succ y ih =>
  rw [blks_succ, blks_succ, ih fun i hi => h i (by omega)]
  by_cases c : start sk y = true
  ·rw [if_pos c, if_pos c, blk_succ, h y (by omega) c]; simp
  ·rw [if_neg c, if_neg c]
theorem blks_nost {s y x : Nat} (hs : s ≤ y) (h : ∀ i, s ≤ i → i < y → start sk i = false) : blks sk y x = blks sk s x := by
  induction y with
  | zero => have : s = 0 := by omega
            subst this; rfl
  | succ y ih =>
    by_cases e : s = y + 1
    · subst e; rfl
    · rw [blks_succ, h y (by omega) (by omega)]
      simp [ih (by omega) fun i h1 h2 => h i h1 (by omega)]
theorem blks_start (K : Kin n sk) {x : Nat} (hx : x < n) (h : start sk x = true) : blks sk (x + 1) (x + 1) = blks sk x x ++ [[(x : Int)]] := by
 rw [blks_succ, if_pos h, blks_bnd fun i hi _ => start_iff.1 h i hi, blk_succ, K.refl x hx, if_pos rfl, blk_none fun k hk => by rw [K.symm x k hx (by omega)]; exact start_iff.1 h k hk]
 rfl
theorem blks_more (K : Kin n sk) {x : Nat} (hx : x < n) (h : start sk x = false) : ∃ P B, blks sk x x = P ++ [B] ∧ blks sk (x + 1) (x + 1) = P ++ [B ++ [(x : Int)]] ∧ B.length ≤ x ∧ ∃ s t, s < x ∧ B = ((s : Nat) : Int) :: t ∧ sk s x = true := by
 obtain ⟨s, h1, h2, h3⟩ := not_start h
 have hst : start sk s = true := start_iff.2 fun k hk => by
  cases hb : sk k s
  ·rfl
  ·have := K.trans k s x (by omega) (by omega) hx hb h2
   rw [h3 k hk] at this; cases this
 have hno : ∀ i, s + 1 ≤ i → i < x + 1 → start sk i = false := fun i a b => by
  cases hb : start sk i
  ·rfl
  ·have := start_iff.1 hb s (by omega)
   rw [K.conv s i x (by omega) (by omega) hx h2] at this; cases this
 refine ⟨blks sk s x, blk sk s x, ?_, ?_, blk_len, ?_⟩
 ·rw [blks_nost (s := s + 1) (by omega) fun i a b => hno i a (by omega), blks_succ, if_pos hst]
 ·rw [blks_nost (s := s + 1) (by omega) hno, blks_succ, if_pos hst, blks_bnd fun i hi _ => h3 i hi, blk_succ, if_pos h2]
 ·obtain ⟨s', t, e1, e2, e3⟩ := blk_head K (i := s) (x := x) (by omega) (by omega) h1
  have := e3.2 hst
  subst this
  exact ⟨s', t, h1, e1, h2⟩
theorem blks_mem (K : Kin n sk) {y x : Nat} (hy : y ≤ x) (hx : x ≤ n) {B : List Int} (h : B ∈ blks sk y x) : B.length ≤ x ∧ ∃ s t, s < y ∧ B = ((s : Nat) : Int) :: t := by
 unfold blks at h
 rw [List.mem_flatMap] at h
 obtain ⟨i, hi, h⟩ := h
 rw [List.mem_range] at hi
 by_cases c : start sk i = true
 ·rw [if_pos c, List.mem_singleton] at h
  subst h
  refine ⟨blk_len, ?_⟩
  obtain ⟨s', t, e1, e2, e3⟩ := blk_head K (i := i) (x := x) (by omega) (by omega) (by omega)
  exact ⟨s', t, by omega, e1⟩
 ·rw [if_neg c] at h; cases h
def pick (c : Int → Bool) (bs : List (List Int)) : List Int := bs.filterMap fun b => b.find? c
def picks (c : Int → Bool) (bs : List (List Int)) : List Int × Bool := if (bs.all fun b => (b.find? c).isSome) = true then (pick c bs, true) else ([], false)
end
section
def Sigs (l : List Relation) : Prop := l.length = 4 ∧ ∀ x ∈ l, x.Arity ≤ 3
def Tiny (m : Nat) (d : Database) : Prop := Sigs d.Relations ∧ d.Facts.length ≤ m ∧ ∀ x ∈ d.Facts, x.Values.length ≤ 3
theorem Tiny.fits {m : Nat} {d : Database} (h : Tiny m d) (hm : m ≤ 1048576) : Fits d := ⟨by have := h.1.1; omega, by have := h.2.1; omega, fun x hx => by have := h.2.2 x hx; omega⟩
theorem factOk {c : L1Cur} {l : List Relation} {v : Int} (h : Cur c) (hl : Sigs l) : Ens (f100 c l v) fun r => r.1.Values.length ≤ 3 ∧ Cur r.2 := by
 unfold f100
 refine Ens.bind (belowOk h) fun o1 h1 => ?_
 obtain ⟨a1, _, a2, a3⟩ := h1
 have a4 := a2 (by rw [hl.1]; decide)
 have hk : o1.1.toNat < l.length := by rw [hl.1] at a4 ⊢; omega
 refine Ens.bind (Q := fun s => s.2.2.2.2.length ≤ 3 ∧ Cur ⟨s.1, s.2.1, s.2.2.1⟩) ?_ fun s hs => Ens.of hs
 obtain ⟨o, e1, e2⟩ := iter_up (f := f100_0 l v) 3 (fun i s => Cur ⟨s.1, s.2.1, s.2.2.1⟩ ∧ s.2.2.2.1 = o1.1 ∧ s.2.2.2.2.length = i) (fun s => s.2.2.2.2.length ≤ 3 ∧ Cur ⟨s.1, s.2.1, s.2.2.1⟩) (fun i s hi ⟨g1, g2, g3⟩ => by
  obtain ⟨b, j, hh, r, vs⟩ := s
  simp only at g1 g2 g3
  subst g2
  simp only [f100_0]
  rw [ix_of a1, zE hk, bS]
  by_cases hc : (vs.length : Int) < l[o1.1.toNat].Arity
  ·rw [if_pos hc]
   obtain ⟨p, hp, hq⟩ := belowOk (n := v) g1
   rw [hp, bS, app_fits (by simp; omega), bS]
   exact ⟨_, rfl, hq.2.2.2, rfl, by simp; omega⟩
  ·rw [if_neg hc]
   exact ⟨_, rfl, by simp only; omega, g1⟩) (fun s ⟨g1, g2, g3⟩ => by
  obtain ⟨b, j, hh, r, vs⟩ := s
  simp only at g1 g2 g3
  subst g2
  have := hl.2 _ (List.getElem_mem hk)
  simp only [f100_0]
  rw [ix_of a1, zE hk, bS, if_neg (by omega)]
  exact ⟨_, rfl, by simp only; omega, g1⟩) (o1.2.b, o1.2.i, o1.2.h, o1.1, []) ⟨a3, rfl, rfl⟩
 exact ⟨o, e1, e2⟩
theorem copySpec {d : Database} (hf : Fits d) : f142 d = some d := by
 unfold f142
 rw [app_fits (by have := hf.1; simp; omega), bS, List.nil_append]
 have it := iter_steps (f := f142_0 d) (fun i => (d.Relations, d.Facts.take i, (i : Int))) d.Facts.length (d.Relations, d.Facts) (fun i hi => by
  have h1 := hf.2.2 _ (List.getElem_mem hi)
  have h2 := hf.2.1
  simp only [f142_0]
  rw [if_pos (by omega), ix_nat hi, bS, app_fits (by simp; omega), bS, app_fits (by simp; omega), bS, w64_succ (by omega), take_succ' hi]
  simp) (by
  simp only [f142_0]
  rw [if_neg (by omega), List.take_of_length_le (Nat.le_refl _)])
 simp only [List.take_zero, Int.natCast_zero, Int.ofNat_zero] at it
 erw [it]
 rfl
theorem findFact {d : Database} {f : Fact} (hf : Fits d) (h : f.Values.length ≤ 3) : Ens (f175 d f) fun _ => True := by
 unfold f175
 refine Ens.bind (Q := fun _ => True) ?_ fun o _ => by cases o <;> exact Ens.of trivial
 refine iter_up (f := f175_0 d f) d.Facts.length (fun i s => s = (i : Int)) (fun _ => True) (fun i s hi hs => ?_) (fun s hs => ?_) 0 rfl
 ·subst hs
  have h1 := hf.2.2 _ (List.getElem_mem hi)
  have h2 := hf.2.1
  simp only [f175_0]
  rw [if_pos (by omega), ix_nat hi, bS, specCmp (by omega) (by omega), bS, w64_succ (by omega)]
  by_cases c : cmpF d.Facts[i] f = 0
  ·rw [if_pos c]; exact ⟨_, rfl, trivial⟩
  ·rw [if_neg c]; exact ⟨_, rfl, rfl⟩
 ·subst hs
  simp only [f175_0]
  rw [if_neg (by omega)]; exact ⟨_, rfl, trivial⟩
theorem insOk {m : Nat} {d : Database} {f : Fact} (hd : Tiny m d) (hm : m ≤ 1000) (h : f.Values.length ≤ 3) : Ens (f99 d f) fun r => Tiny (m + 1) r.1 := by
 have hf := hd.fits (by omega)
 have hr := fits_room hf
 have base : Tiny (m + 1) d := ⟨hd.1, by have := hd.2.1; omega, hd.2.2⟩
 unfold f99
 rw [copySpec hf, bS, specDb hr, bS]
 refine Ens.bind (Q := fun _ : Bool => True) (Ens.ite (fun _ => Ens.of trivial) fun _ => ?_) fun x _ => Ens.ite (fun _ => Ens.of base) fun _ => ?_
 ·rw [specFact hr.1 (by omega), bS]
  refine Ens.bind (Q := fun _ : Bool => True) (Ens.ite (fun _ => Ens.of trivial) fun _ => ?_) fun x _ => Ens.of trivial
  refine Ens.bind (Q := fun _ : Bool => True) ?_ fun x _ => ?_
  ·unfold f143
   rw [specDb hr, bS]
   refine Ens.bind (Q := fun _ : Bool => True) (Ens.ite (fun _ => ?_) fun _ => Ens.of trivial) fun x _ => Ens.of trivial
   exact Ens.bind (findFact hf h) fun o _ => Ens.of trivial
  ·refine Ens.bind (Q := fun _ : Bool => True) (Ens.ite (fun _ => Ens.of trivial) fun _ => Ens.of trivial) fun x _ => Ens.of trivial
 ·have h2 := hd.2.1
  obtain ⟨k, hk, k0, k1⟩ : Ens (iter (f99_0 f d) 0) fun k => 0 ≤ k ∧ k ≤ d.Facts.length := by
   refine iter_up (f := f99_0 f d) d.Facts.length (fun i s => s = (i : Int)) (fun k => 0 ≤ k ∧ k ≤ d.Facts.length) (fun i s hi hs => ?_) (fun s hs => ?_) 0 rfl
   ·subst hs
    have h1 := hf.2.2 _ (List.getElem_mem hi)
    simp only [f99_0]
    rw [if_pos (by omega), ix_nat hi, bS, specCmp (by omega) (by omega), bS, bS, w64_succ (by omega)]
    by_cases c : cmpF d.Facts[i] f < 0
    ·rw [if_pos (by simpa using c)]; exact ⟨_, rfl, rfl⟩
    ·rw [if_neg (by simpa using c)]; exact ⟨_, rfl, by omega, by omega⟩
   ·subst hs
    simp only [f99_0]
    rw [if_neg (by omega), bS, if_neg (by simp)]; exact ⟨_, rfl, by omega, by omega⟩
  rw [hk, bS, cutL_ok k0 k1 (by omega), bS, app_fits (by simp; omega), bS, app_fits (by simp; omega), bS, cutL_ok (by omega) k0 k1, bS, app_fits (by simp; omega), bS, app_fits (by simp; omega), bS]
  refine Ens.of ⟨hd.1, by simp; omega, fun y hy => ?_⟩
  simp only [List.nil_append, List.mem_append, List.mem_cons, List.not_mem_nil, or_false] at hy
  rcases hy with hy | hy
  ·exact hd.2.2 y (List.mem_of_mem_take (List.mem_of_mem_drop hy))
  ·rcases hy with rfl | hy
   ·simpa using h
   ·exact hd.2.2 y (List.mem_of_mem_take (List.mem_of_mem_drop hy))
end
section
variable {d : Database}
def skOf (d : Database) (i k : Nat) : Bool := same d.Relations (d.Facts.getD i default) (d.Facts.getD k default)
theorem sk_get {i k : Nat} (hi : i < d.Facts.length) (hk : k < d.Facts.length) : skOf d i k = same d.Relations d.Facts[i] d.Facts[k] := by
 unfold skOf
 rw [zD, zD, zE hi, zE hk]; rfl
theorem vDb_of (h : vDb d = true) : vRels d.Relations = true ∧ d.Facts.length ≤ 14 ∧ gFacts d = true := by
 unfold vDb at h; simp only [Bool.and_eq_true, decide_eq_true_eq] at h; exact h
theorem fact_ok (h : vDb d = true) {i : Nat} (hi : i < d.Facts.length) : vFact d.Relations d.Facts[i] = true := (good_of (vDb_of h).2.2 hi).1
theorem facts_up (h : vDb d = true) {i k : Nat} (hik : i < k) (hk : k < d.Facts.length) : cmpF (d.Facts[i]'(by omega)) d.Facts[k] < 0 := by
 induction k with
 | zero => omega
 | succ k ih =>
  have h1 := (good_of (vDb_of h).2.2 hk).2 (by omega)
  simp only [Nat.add_sub_cancel, decide_eq_true_eq] at h1
  by_cases e : i = k
  ·subst e; exact h1
  ·exact cmpF_trans (ih (by omega) (by omega)) h1
theorem kin (h : vDb d = true) : Kin d.Facts.length (skOf d) where
 refl i hi := by rw [sk_get hi hi]; simp [same]
 symm i k hi hk := by
  rw [sk_get hi hk, sk_get hk hi]; unfold same
  congr 1
  ·exact decide_eq_decide.2 ⟨fun h => h.symm, fun h => h.symm⟩
  ·exact decide_eq_decide.2 ⟨fun h => h.symm, fun h => h.symm⟩
 trans i j k hi hj hk h1 h2 := by
  rw [sk_get hi hj] at h1; rw [sk_get hj hk] at h2; rw [sk_get hi hk]
  unfold same at *
  simp only [Bool.and_eq_true, decide_eq_true_eq] at *
  exact ⟨h1.1.trans h2.1, h1.2.trans h2.2⟩
 conv i j k hij hjk hk hs := by
  by_cases e1 : i = j
  ·subst e1
   rw [sk_get (by omega) (by omega)]; simp [same]
  by_cases e2 : j = k
  ·subst e2; exact hs
  have hi : i < d.Facts.length := by omega
  have hj : j < d.Facts.length := by omega
  have c1 := facts_up h (i := i) (k := j) (by omega) hj
  have c2 := facts_up h (i := j) (k := k) (by omega) hk
  rw [sk_get hi hk] at hs; rw [sk_get hi hj]
  have b1 := key_le (vDb_of h).1 (fact_ok h hi)
  have b2 := key_le (vDb_of h).1 (fact_ok h hj)
  have b3 := key_le (vDb_of h).1 (fact_ok h hk)
  generalize d.Facts[i] = a at *
  generalize d.Facts[j] = b at *
  generalize d.Facts[k] = c at *
  obtain ⟨_, _, _, _, b1⟩ := b1
  obtain ⟨_, _, _, _, b2⟩ := b2
  obtain ⟨_, _, _, _, b3⟩ := b3
  unfold same keyOf at *
  simp only [Bool.and_eq_true, decide_eq_true_eq] at *
  obtain ⟨r, hk⟩ := hs
  unfold cmpF at c1 c2
  have r1 : a.Relation = b.Relation := by
   by_cases q1 : a.Relation < b.Relation
   ·rw [if_neg (by omega), if_pos (by omega)] at c2; omega
   ·rw [if_neg q1] at c1
    by_cases q2 : a.Relation > b.Relation
    ·rw [if_pos q2] at c1; omega
    ·omega
  rw [if_neg (by omega), if_neg (by omega)] at c1 c2
  rw [← r] at hk b3; rw [← r1] at b2
  refine ⟨r1, ?_⟩
  rw [← r1]
  exact cmpL_conv c1 c2 (by omega) (by omega) (by omega) hk
variable (h : vDb d = true) (hf : Fits d)
theorem fits_val {i : Nat} (hf : Fits d) (hi : i < d.Facts.length) : d.Facts[i].Values.length ≤ 1048576 := hf.2.2 _ (List.getElem_mem hi)
include h hf
theorem blockSpec {i : Nat} (hi : i < d.Facts.length) : f97 d i = some (blk (skOf d) i d.Facts.length) := by
 have hn := (vDb_of h).2.1
 unfold f97
 rw [iter_flat (List.range d.Facts.length) (fun k => if skOf d i k = true then [((k : Nat) : Int)] else []) id (fun k hk => by
  simp only [List.length_range] at hk
  have el : (((List.range d.Facts.length).take k).flatMap fun k => if skOf d i k = true then [((k : Nat) : Int)] else []).length ≤ k := by
   have := take_flat_le (l := List.range d.Facts.length) (i := k) (g := fun k => if skOf d i k = true then [((k : Nat) : Int)] else []) (m := 1) (fun a => by split <;> simp)
   omega
  generalize ((List.range d.Facts.length).take k).flatMap (fun k => if skOf d i k = true then [((k : Nat) : Int)] else []) = out at el ⊢
  simp only [List.getElem_range]
  simp only [f97_0]
  have eb : btw (i : Int) 0 (w64 ((d.Facts.length : Int) - 1)) = true := by rw [w64_of (by omega)]; unfold btw; simp; omega
  rw [if_pos (by omega), specDb (fits_room hf), h]
  simp only [bS, if_true, specIn, eb]
  rw [ix_nat hi, ix_nat hk, w64_succ (by omega)]
  simp only [bS, specSame (fits_room hf).1 (fits_val hf hi) (fits_val hf hk) (vDb_of h).1 (fact_ok h hi) (fact_ok h hk)]
  rw [← sk_get hi hk]
  cases skOf d i k
  ·simp
  ·simp only [if_true]
   rw [app_fits (by simp; omega)]; simp) (by
  simp only [f97_0]
  rw [if_neg (by simp)]; rfl)]
 rfl
theorem blocksSpec : f58 d = some (blks (skOf d) d.Facts.length d.Facts.length) := by
 have hn := (vDb_of h).2.1
 unfold f58
 rw [iter_flat (List.range d.Facts.length) (fun i => if start (skOf d) i = true then [blk (skOf d) i d.Facts.length] else []) id (fun i hi => by
  simp only [List.length_range] at hi
  have el : (((List.range d.Facts.length).take i).flatMap fun i => if start (skOf d) i = true then [blk (skOf d) i d.Facts.length] else []).length ≤ i := by
   have := take_flat_le (l := List.range d.Facts.length) (i := i) (g := fun i => if start (skOf d) i = true then [blk (skOf d) i d.Facts.length] else []) (m := 1) (fun a => by split <;> simp)
   omega
  generalize ((List.range d.Facts.length).take i).flatMap (fun i => if start (skOf d) i = true then [blk (skOf d) i d.Facts.length] else []) = out at el ⊢
  simp only [List.getElem_range]
  simp only [f58_0]
  obtain ⟨s, t, e1, e2, e3⟩ := blk_head (kin h) hi (Nat.le_refl _) hi
  have e0 : ix (blk (skOf d) i d.Facts.length) 0 = some ((s : Nat) : Int) := by rw [e1]; rfl
  rw [if_pos (by omega), specDb (fits_room hf), h]
  simp only [bS, if_true, blockSpec h hf hi, e0]
  rw [w64_succ (by omega)]
  by_cases c : start (skOf d) i = true
  ·rw [if_pos (by have := e3.2 c; omega), if_pos c, app_fits (by simp; omega)]; rfl
  ·rw [if_neg (by intro q; exact c (e3.1 (by omega))), if_neg c]; simp) (by
  simp only [f58_0]
  rw [if_neg (by simp)]; rfl)]
 rfl
theorem blocksImp : f27 d = some (blks (skOf d) d.Facts.length d.Facts.length) := by
 have hn := (vDb_of h).2.1
 unfold f27
 have := iter_steps (f := f27_0 d) (fun i => (blks (skOf d) i i, (i : Int))) d.Facts.length (blks (skOf d) d.Facts.length d.Facts.length) (fun x hx => by
  have hl := blks_len (sk := skOf d) (y := x) (x := x)
  simp only [f27_0]
  rw [if_pos (by omega), ix_nat hx, bS, w64_succ (by omega), w64_of (by omega)]
  cases hs : start (skOf d) x
  ·obtain ⟨P, B, e1, e2, e3, s, t, h1, e4, h2⟩ := blks_more (kin h) hx hs
   rw [e1] at hl ⊢
   rw [e2]
   simp only [List.length_append, List.length_singleton] at hl ⊢
   have q : ((P.length + 1 : Nat) : Int) - 1 = ((P.length : Nat) : Int) := by omega
   rw [q, if_pos (by omega), ix_nat (by simp)]
   have e0 : ix B 0 = some ((s : Nat) : Int) := by rw [e4]; rfl
   simp only [List.getElem_concat_length, bS, e0]
   rw [ix_nat (by omega : s < d.Facts.length), bS, impSame (fits_val hf _) (fits_val hf hx) (vDb_of h).1 (fact_ok h _) (fact_ok h hx)]
   rw [← sk_get (by omega : s < d.Facts.length) hx, h2]
   simp only [bS, if_true]
   rw [app_fits (by simp; omega)]
   simp
  ·rw [blks_start (kin h) hx hs]
   by_cases c : blks (skOf d) x x = []
   ·rw [c]
    simp only [List.length_nil]
    rw [if_neg (by omega)]
    simp only [bS, Bool.false_eq_true, if_false]
    rw [app_fits (by simp)]; simp
   ·obtain ⟨P, B, e1⟩ : ∃ P B, blks (skOf d) x x = P ++ [B] := ⟨_, _, (List.dropLast_concat_getLast c).symm⟩
    obtain ⟨_, s, t, h1, e4⟩ := blks_mem (kin h) (y := x) (x := x) (Nat.le_refl _) (by omega) (B := B) (by rw [e1]; simp)
    rw [e1] at hl ⊢
    simp only [List.length_append, List.length_singleton] at hl ⊢
    have q : ((P.length + 1 : Nat) : Int) - 1 = ((P.length : Nat) : Int) := by omega
    rw [q, if_pos (by omega), ix_nat (by simp)]
    have e0 : ix B 0 = some ((s : Nat) : Int) := by rw [e4]; rfl
    simp only [List.getElem_concat_length, bS, e0]
    rw [ix_nat (by omega : s < d.Facts.length), bS, impSame (fits_val hf _) (fits_val hf hx) (vDb_of h).1 (fact_ok h _) (fact_ok h hx)]
    rw [← sk_get (by omega : s < d.Facts.length) hx, start_iff.1 hs s h1]
    simp only [bS, Bool.false_eq_true, if_false]
    rw [app_fits (by simp; omega)]; simp) (by
  simp only [f27_0]
  rw [if_neg (by omega)])
 erw [this]
 rfl
omit h hf
end
section
variable {d : Database} {n : Nat} {sk : Nat → Nat → Bool}
theorem asc_of {s : List Int} (h : asc n s = true) : s.Pairwise (· < ·) ∧ ∀ v ∈ s, 0 ≤ v ∧ v < n := by
 have hg := fun i (hi : i < s.length) => good_of h hi
 refine ⟨?_, ?_⟩
 ·rw [List.pairwise_iff_getElem]
  intro i j hi hj hij
  induction j with
  | zero => omega
  | succ j ih =>
   have h1 := (hg (j + 1) hj).2 (by omega)
   simp only [Nat.add_sub_cancel, decide_eq_true_eq] at h1
   by_cases e : i = j
   ·subst e; exact h1
   ·have := ih (by omega) (by omega); omega
 ·intro v hv
  obtain ⟨i, hi, rfl⟩ := List.getElem_of_mem hv
  have h1 := (hg i hi).1
  simp only [btw, Bool.and_eq_true, decide_eq_true_eq] at h1
  omega
theorem up_nodup {s : List Int} (h : s.Pairwise (· < ·)) : s.Nodup := h.imp fun hab e => by omega
theorem asc_len {s : List Int} (h : asc n s = true) : s.length ≤ n := nodup_le (up_nodup (asc_of h).1) (asc_of h).2
def fat (d : Database) (v : Int) : Fact := d.Facts.getD v.toNat default
theorem fat_get {i : Nat} (hi : i < d.Facts.length) : fat d (i : Int) = d.Facts[i] := by
 unfold fat
 rw [Int.toNat_natCast, zD, zE hi]; rfl
theorem fat_mem {v : Int} (h : 0 ≤ v ∧ v < d.Facts.length) : fat d v ∈ d.Facts := by
 have : v = ((v.toNat : Nat) : Int) := by omega
 rw [this, fat_get (by omega)]; exact List.getElem_mem _
def apart (d : Database) (s : List Int) : Prop := s.Pairwise fun a b => same d.Relations (fat d a) (fat d b) = false
instance {s : List Int} : Decidable (apart d s) := by unfold apart; infer_instance
end
section
theorem flat_take {L : List (List Int)} {i : Nat} : (L.take i).flatten.length ≤ L.flatten.length := by
 conv => rhs; rw [← List.take_append_drop i L, List.flatten_append, List.length_append]
 omega
theorem concatN {L : List (List Int)} (hL : L.length ≤ 1048576) (h : L.flatten.length ≤ 1048576) : f121 L = some L.flatten := by
 unfold f121
 have q : ∀ i (hi : i < L.length), (L.take (i + 1)).flatten = (L.take i).flatten ++ L[i] := fun i hi => by rw [take_succ' hi, List.flatten_append]; simp
 have h1 := iter_steps (f := f121_0 L) (fun i => (((L.take i).flatten.length : Int), (i : Int))) L.length (L.flatten.length : Int) (fun i hi => by
  have e := congrArg List.length (q i hi)
  rw [List.length_append] at e
  have b := flat_take (L := L) (i := i + 1)
  simp only [f121_0]
  rw [if_pos (by omega), ix_nat hi, bS, w64_succ (by omega), w64_of (by omega), if_neg (by omega), bS, e]
  rw [Int.natCast_add (List.take i L).flatten.length]) (by
  simp only [f121_0]
  rw [if_neg (by omega), List.take_of_length_le (Nat.le_refl _)])
 simp only [List.take_zero, List.flatten_nil, List.length_nil, Int.natCast_zero, Int.ofNat_zero] at h1
 erw [h1]
 rw [bS]
 unfold f158 growN
 rw [if_pos ⟨by omega, by unfold room; omega⟩, bS]
 have h2 := iter_steps (f := f121_1 L) (fun i => (L.flatten.length - (L.take i).flatten.length, (L.take i).flatten, (i : Int))) L.length (0, L.flatten) (fun i hi => by
  have e := congrArg List.length (q i hi)
  rw [List.length_append] at e
  have b := flat_take (L := L) (i := i + 1)
  simp only [f121_1]
  rw [if_pos (by omega), ix_nat hi, bS, w64_succ (by omega)]
  unfold apps
  rw [if_pos ⟨by omega, by unfold room; omega⟩, bS, q i hi]
  simp only [List.length_append]
  rw [Nat.sub_sub]) (by
  simp only [f121_1]
  rw [if_neg (by omega), List.take_of_length_le (Nat.le_refl _), Nat.sub_self])
 simp only [List.take_zero, List.flatten_nil, List.length_nil, Nat.sub_zero, Int.natCast_zero, Int.ofNat_zero] at h2
 rw [Int.toNat_natCast]
 erw [h2]
 simp [nsk]
theorem sort12 {x : List Int} (h : x.length ≤ 12) : Ens (f87 x) fun r => r.Pairwise (· ≤ ·) ∧ r.Perm x := by
 unfold f87 sortN srtL
 rw [if_pos (by omega)]
 refine Ens.of ⟨?_, List.mergeSort_perm _ _⟩
 have := List.pairwise_mergeSort (le := fun a b : Int => decide (a ≤ b)) (fun a b c h1 h2 => by simp at *; omega) (fun a b => by simp; omega) x
 exact this.imp fun h => by simpa using h
theorem compact_up : ∀ {l : List Int}, l.Pairwise (· ≤ ·) → (compactL l).Pairwise (· < ·) ∧ ∀ y, y ∈ compactL l ↔ y ∈ l
 | [], h => by simp [compactL]
 | [a], h => by simp [compactL]
 | a :: b :: r, h => by
  rw [List.pairwise_cons] at h
  obtain ⟨i1, i2⟩ := compact_up h.2
  rw [compactL]
  split
  ·rename_i e
   subst e
   exact ⟨i1, fun y => by rw [i2]; simp⟩
  ·rename_i e
   refine ⟨List.pairwise_cons.2 ⟨fun y hy => ?_, i1⟩, fun y => by simp [i2]⟩
   rw [i2] at hy
   have h1 := h.1 b (by simp)
   rcases List.mem_cons.1 hy with rfl | hy
   ·omega
   ·have := (List.pairwise_cons.1 h.2).1 y hy; omega
theorem union12 {a b : List Int} (h : a.length + b.length ≤ 12) : Ens (f78 a b) fun r => r.Pairwise (· < ·) ∧ (∀ y, y ∈ r ↔ y ∈ a ∨ y ∈ b) ∧ r.length ≤ 12 := by
 unfold f78
 have e : [a, b].flatten = a ++ b := by simp
 rw [concatN (by simp) (by rw [e]; simp; omega), e, bS]
 refine Ens.bind (sort12 (by simp; omega)) fun r hr => ?_
 have hl := hr.2.length_eq
 simp only [List.length_append] at hl
 unfold f122 compactN
 rw [if_pos (by omega)]
 obtain ⟨c1, c2⟩ := compact_up hr.1
 exact Ens.of ⟨c1, fun y => by rw [c2, hr.2.mem_iff, List.mem_append], by have := compactL_len r; omega⟩
theorem up_ext : ∀ {a b : List Int}, a.Pairwise (· < ·) → b.Pairwise (· < ·) → (∀ y, y ∈ a ↔ y ∈ b) → a = b
 | [], [], _, _, _ => rfl
 | [], y :: b, _, _, h => by have := (h y).2 (by simp); cases this
 | x :: a, [], _, _, h => by have := (h x).1 (by simp); cases this
 | x :: a, y :: b, ha, hb, h => by
  rw [List.pairwise_cons] at ha hb
  have e : x = y := by
   have h1 := (h x).1 (by simp)
   have h2 := (h y).2 (by simp)
   rcases List.mem_cons.1 h1 with e | h1
   ·exact e
   ·rcases List.mem_cons.1 h2 with e | h2
    ·exact e.symm
    ·have := ha.1 y h2; have := hb.1 x h1; omega
  subst e
  congr 1
  refine up_ext ha.2 hb.2 fun y => ?_
  have := h y
  constructor
  ·intro hy
   have q := ha.1 y hy
   rcases List.mem_cons.1 (this.1 (List.mem_cons.2 (.inr hy))) with e | e
   ·omega
   ·exact e
  ·intro hy
   have q := hb.1 y hy
   rcases List.mem_cons.1 (this.2 (List.mem_cons.2 (.inr hy))) with e | e
   ·omega
   ·exact e
end
section
def avars (t : List Int) : List Int := (List.range 4).flatMap fun v => if t.contains ((v : Nat) : Int) = true then [((v : Nat) : Int)] else []
theorem avars_up {t : List Int} : (avars t).Pairwise (· < ·) := by
 unfold avars
 simp only [List.range, List.range.loop, List.flatMap_cons, List.flatMap_nil, List.append_nil]
 generalize t.contains ((0 : Nat) : Int) = a
 generalize t.contains ((1 : Nat) : Int) = b
 generalize t.contains ((2 : Nat) : Int) = c
 generalize t.contains ((3 : Nat) : Int) = d
 cases a <;> cases b <;> cases c <;> cases d <;> simp
theorem avars_mem {t : List Int} {y : Int} : y ∈ avars t ↔ y ∈ t ∧ btw y 0 3 = true := by
 unfold avars btw
 simp only [List.mem_flatMap, List.mem_range, Bool.and_eq_true, decide_eq_true_eq]
 constructor
 ·rintro ⟨v, hv, h⟩
  by_cases c : t.contains ((v : Nat) : Int) = true
  ·rw [if_pos c, List.mem_singleton] at h
   subst h
   exact ⟨by simpa using c, by omega, by omega⟩
  ·rw [if_neg c] at h; cases h
 ·rintro ⟨h, h1, h2⟩
  refine ⟨y.toNat, by omega, ?_⟩
  rw [Int.toNat_of_nonneg h1, if_pos (by simpa using h)]
  simp
theorem avars_len {t : List Int} : (avars t).length ≤ 4 := by
 unfold avars
 simp only [List.range, List.range.loop, List.flatMap_cons, List.flatMap_nil, List.append_nil, List.length_append]
 split <;> split <;> split <;> split <;> simp
theorem specVars {a : Atom} (h : Big a.Terms.length) : f41 a = some (avars a.Terms) := by
 unfold f41
 rw [iter_flat (List.range 4) (fun v => if a.Terms.contains ((v : Nat) : Int) = true then [((v : Nat) : Int)] else []) id (fun k hk => by
  simp only [List.length_range] at hk
  have el : (((List.range 4).take k).flatMap fun v => if a.Terms.contains ((v : Nat) : Int) = true then [((v : Nat) : Int)] else []).length ≤ k := by
   have := take_flat_le (l := List.range 4) (i := k) (g := fun v => if a.Terms.contains ((v : Nat) : Int) = true then [((v : Nat) : Int)] else []) (m := 1) (fun a => by split <;> simp)
   omega
  generalize ((List.range 4).take k).flatMap (fun v => if a.Terms.contains ((v : Nat) : Int) = true then [((v : Nat) : Int)] else []) = out at el ⊢
  simp only [List.getElem_range]
  simp only [f41_0]
  rw [if_pos (by omega), hasI h, bS, w64_succ (by omega)]
  by_cases c : a.Terms.contains ((k : Nat) : Int) = true
  ·rw [if_pos c, if_pos c, app_fits (by simp; omega)]; rfl
  ·rw [if_neg c, if_neg c]; simp) (by
  simp only [f41_0]
  rw [if_neg (by simp)]; rfl)]
 rfl
theorem impVars {a : Atom} (h : a.Terms.length ≤ 12) : f36 a = some (avars a.Terms) := by
 unfold f36
 rw [iter_flat a.Terms (fun v => if btw v 0 3 = true then [v] else []) id (fun k hk => by
  have el : ((a.Terms.take k).flatMap fun v => if btw v 0 3 = true then [v] else []).length ≤ k := by
   have := take_flat_le (l := a.Terms) (i := k) (g := fun v => if btw v 0 3 = true then [v] else []) (m := 1) (fun a => by split <;> simp)
   omega
  generalize (a.Terms.take k).flatMap (fun v => if btw v 0 3 = true then [v] else []) = out at el ⊢
  simp only [f36_0]
  rw [if_pos (by omega), ix_nat hk, bS, impIn, bS, w64_succ (by omega)]
  by_cases c : btw a.Terms[k] 0 3 = true
  ·rw [if_pos c, if_pos c, app_fits (by simp; omega)]; rfl
  ·rw [if_neg c, if_neg c]; simp) (by
  simp only [f36_0]
  rw [if_neg (by omega)]; rfl)]
 rw [bS]
 dsimp only [id]
 have el : (a.Terms.flatMap fun v => if btw v 0 3 = true then [v] else []).length ≤ a.Terms.length := by
  have := take_flat_le (l := a.Terms) (i := a.Terms.length) (g := fun v => if btw v 0 3 = true then [v] else []) (m := 1) (fun a => by split <;> simp)
  rw [List.take_of_length_le (Nat.le_refl _)] at this
  omega
 obtain ⟨r, h1, h2, h3, _⟩ := union12 (a := a.Terms.flatMap fun v => if btw v 0 3 = true then [v] else []) (b := []) (by rw [List.length_nil]; omega)
 rw [h1, bS]
 congr 1
 refine up_ext h2 avars_up fun y => ?_
 rw [h3, avars_mem, List.mem_flatMap]
 constructor
 ·rintro (⟨v, hv, h⟩ | h)
  ·by_cases c : btw v 0 3 = true
   ·rw [if_pos c, List.mem_singleton] at h; subst h; exact ⟨hv, c⟩
   ·rw [if_neg c] at h; cases h
  ·cases h
 ·rintro ⟨h, c⟩
  exact .inl ⟨y, h, by rw [if_pos c]; simp⟩
def kvars (l : List Relation) (a : Atom) : List Int := if (btw a.Relation 0 (l.length - 1) && btw (keyLen l a.Relation) 0 a.Terms.length) = true then avars (a.Terms.take (keyLen l a.Relation).toNat) else []
theorem kvars_len {l : List Relation} {a : Atom} : (kvars l a).length ≤ 4 := by
 unfold kvars; split
 ·exact avars_len
 ·simp
theorem specKV {l : List Relation} {a : Atom} (hl : Big l.length) (h : Big a.Terms.length) : f40 l a = some (kvars l a) := by
 unfold f40 kvars
 rw [w64_of (by omega), specIn, bS]
 cases hb : btw a.Relation 0 (l.length - 1)
 ·simp
 ·obtain ⟨x, h1, _, _, h2⟩ := ix_rel hb
  rw [h1]
  simp only [not_true_eq_false, if_false, bS, specIn, h2]
  cases hk : btw (keyLen l a.Relation) 0 a.Terms.length
  ·simp
  ·unfold btw at hk; simp only [Bool.and_eq_true, decide_eq_true_eq] at hk
   simp only [not_true_eq_false, decide_false, Bool.false_eq_true, if_false, Bool.and_self, if_true]
   rw [cutL_ok (by omega) hk.1 hk.2, bS, specVars (by simp; omega)]; rfl
theorem impKV {l : List Relation} {a : Atom} (hl : Big l.length) (h : a.Terms.length ≤ 12) : f35 l a = some (kvars l a) := by
 unfold f35 kvars
 rw [w64_of (by omega), impIn, bS]
 cases hb : btw a.Relation 0 (l.length - 1)
 ·simp
 ·obtain ⟨x, h1, _, _, h2⟩ := ix_rel hb
  rw [h1]
  simp only [not_true_eq_false, if_false, bS, impIn, h2]
  cases hk : btw (keyLen l a.Relation) 0 a.Terms.length
  ·simp
  ·unfold btw at hk; simp only [Bool.and_eq_true, decide_eq_true_eq] at hk
   simp only [not_true_eq_false, decide_false, Bool.false_eq_true, if_false, Bool.and_self, if_true]
   rw [cutL_ok (by omega) hk.1 hk.2, bS, impVars (by simp; omega)]; rfl
theorem has14 {l w : List Int} (hl : Big l.length) (hw : Big w.length) : f39 l w = some (w.all l.contains) := by
 unfold f39
 rw [iter_ex w (fun v => !l.contains v) false (fun i hi => by
  simp only [f39_0]
  rw [if_pos (by omega), ix_nat hi, w64_succ (by omega)]
  simp only [bS, hasI hl]
  cases l.contains w[i] <;> simp) (by
  simp only [f39_0]
  rw [if_neg (by omega)])]
 rw [any_not]
 cases w.all l.contains <;> simp
theorem vRels_arity {l : List Relation} {r : Int} (h : vRels l = true) (hb : btw r 0 (l.length - 1) = true) : arity l r ≤ 3 := by
 obtain ⟨x, h1, h2, h3, _⟩ := ix_rel hb
 unfold vRels at h; simp only [Bool.and_eq_true] at h
 obtain ⟨i, hi, rfl⟩ := List.mem_iff_getElem.1 h2
 have := (good_of h.1 hi).1
 unfold vRel btw at this
 simp only [Bool.and_eq_true, decide_eq_true_eq] at this
 omega
end
section
def nfl (X : Int → Bool) : List Int := (List.range 4).flatMap fun v => if X ((v : Nat) : Int) = true then [((v : Nat) : Int)] else []
def In4 (X : Int → Bool) : Prop := ∀ v, X v = true → btw v 0 3 = true
def Le4 (X Y : Int → Bool) : Prop := ∀ v, X v = true → Y v = true
def cupX (X Y : Int → Bool) : Int → Bool := fun v => X v || Y v
theorem Le4.refl {X : Int → Bool} : Le4 X X := fun _ h => h
theorem Le4.trans {X Y Z : Int → Bool} (h : Le4 X Y) (g : Le4 Y Z) : Le4 X Z := fun v hv => g v (h v hv)
theorem Le4.antisymm {X Y : Int → Bool} (h : Le4 X Y) (g : Le4 Y X) : X = Y := by
 funext v
 rw [Bool.eq_iff_iff]
 exact ⟨h v, g v⟩
theorem nfl_mem {X : Int → Bool} {y : Int} : y ∈ nfl X ↔ X y = true ∧ btw y 0 3 = true := by
 unfold nfl btw
 simp only [List.mem_flatMap, List.mem_range, Bool.and_eq_true, decide_eq_true_eq]
 constructor
 ·rintro ⟨v, hv, h⟩
  by_cases c : X ((v : Nat) : Int) = true
  ·rw [if_pos c, List.mem_singleton] at h
   subst h
   exact ⟨c, by omega, by omega⟩
  ·rw [if_neg c] at h; cases h
 ·rintro ⟨h, h1, h2⟩
  refine ⟨y.toNat, by omega, ?_⟩
  rw [Int.toNat_of_nonneg h1, if_pos h]
  simp
theorem nfl_up {X : Int → Bool} : (nfl X).Pairwise (· < ·) := by
 unfold nfl
 simp only [List.range, List.range.loop, List.flatMap_cons, List.flatMap_nil, List.append_nil]
 generalize X ((0 : Nat) : Int) = a
 generalize X ((1 : Nat) : Int) = b
 generalize X ((2 : Nat) : Int) = c
 generalize X ((3 : Nat) : Int) = d
 cases a <;> cases b <;> cases c <;> cases d <;> simp
theorem nfl_len {X : Int → Bool} : (nfl X).length ≤ 4 := by
 unfold nfl
 simp only [List.range, List.range.loop, List.flatMap_cons, List.flatMap_nil, List.append_nil, List.length_append]
 split <;> split <;> split <;> split <;> simp
theorem nfl_has {X : Int → Bool} (h : In4 X) : (nfl X).contains = X := by
 funext v
 rw [Bool.eq_iff_iff, List.contains_iff_mem, nfl_mem]
 exact ⟨fun h => h.1, fun hv => ⟨hv, h v hv⟩⟩
theorem nfl_congr {X Y : Int → Bool} (h : ∀ v, btw v 0 3 = true → X v = Y v) : nfl X = nfl Y := by
 refine up_ext nfl_up nfl_up fun y => ?_
 rw [nfl_mem, nfl_mem]
 constructor <;> rintro ⟨a, b⟩ <;> exact ⟨by rw [← a, h y b], b⟩
theorem nfl_in {X : Int → Bool} : In4 (nfl X).contains := fun v hv => by
 rw [List.contains_iff_mem, nfl_mem] at hv; exact hv.2
theorem nfl_nil : nfl (fun _ => false) = [] := by simp [nfl]
theorem cup_in {X Y : Int → Bool} (h : In4 X) (g : In4 Y) : In4 (cupX X Y) := fun v hv => by
 unfold cupX at hv
 rcases Bool.or_eq_true _ _ ▸ hv with a | a
 ·exact h v a
 ·exact g v a
theorem nfl_idem {X : Int → Bool} : nfl (nfl X).contains = nfl X := nfl_congr fun v hv => by
 rw [Bool.eq_iff_iff, List.contains_iff_mem, nfl_mem]
 exact ⟨fun h => h.1, fun h => ⟨h, hv⟩⟩
theorem bothS {a b : List Int} (ha : Big a.length) (hb : Big b.length) : f151 a b = some (nfl (cupX a.contains b.contains)) := by
 unfold f151
 rw [iter_flat (List.range 4) (fun v => if cupX a.contains b.contains ((v : Nat) : Int) = true then [((v : Nat) : Int)] else []) id (fun k hk => by
  simp only [List.length_range] at hk
  have el : (((List.range 4).take k).flatMap fun v => if cupX a.contains b.contains ((v : Nat) : Int) = true then [((v : Nat) : Int)] else []).length ≤ k := by
   have := take_flat_le (l := List.range 4) (i := k) (g := fun v => if cupX a.contains b.contains ((v : Nat) : Int) = true then [((v : Nat) : Int)] else []) (m := 1) (fun a => by split <;> simp)
   omega
  generalize ((List.range 4).take k).flatMap (fun v => if cupX a.contains b.contains ((v : Nat) : Int) = true then [((v : Nat) : Int)] else []) = out at el ⊢
  simp only [List.getElem_range]
  simp only [f151_0]
  rw [if_pos (by omega), hasI ha, hasI hb, w64_succ (by omega)]
  unfold cupX
  cases a.contains ((k : Nat) : Int)
  ·cases b.contains ((k : Nat) : Int)
   ·simp
   ·simp only [bS, Bool.false_eq_true, if_false, if_true, Bool.false_or]
    rw [app_fits (by simp; omega)]; rfl
  ·simp only [bS, if_true, Bool.true_or]
   rw [app_fits (by simp; omega)]; rfl) (by
  simp only [f151_0]
  rw [if_neg (by simp)]; rfl)]
 rfl
structure Rule where
 c : (Int → Bool) → Bool
 a : Int → Bool
def Rule.mono (r : Rule) : Prop := ∀ X Y, Le4 X Y → r.c X = true → r.c Y = true
def fire (X : Int → Bool) (r : Rule) : Int → Bool := if r.c X = true then cupX X r.a else X
def pass (L : List Rule) (X : Int → Bool) : Int → Bool := L.foldl fire X
def passes (L : List Rule) : Nat → (Int → Bool) → Int → Bool
 | 0, X => X
 | n + 1, X => pass L (passes L n X)
def Clo (L : List Rule) (X : Int → Bool) : Prop := ∀ r ∈ L, r.c X = true → Le4 r.a X
theorem fire_le {X : Int → Bool} {r : Rule} : Le4 X (fire X r) := fun v hv => by
 unfold fire; split
 ·unfold cupX; rw [hv]; rfl
 ·exact hv
theorem pass_le {L : List Rule} {X : Int → Bool} : Le4 X (pass L X) := by
 induction L generalizing X with
 | nil => exact Le4.refl
 | cons r L ih => exact fire_le.trans ih
theorem fire_clo {X : Int → Bool} {r : Rule} (h : r.c X = true → Le4 r.a X) : fire X r = X := by
 unfold fire; split
 ·rename_i hc
  refine Le4.antisymm (fun v hv => ?_) (fun v hv => by unfold cupX; rw [hv]; rfl)
  unfold cupX at hv
  rcases Bool.or_eq_true _ _ ▸ hv with a | a
  ·exact a
  ·exact h hc v a
 ·rfl
theorem pass_clo {L : List Rule} {X : Int → Bool} (h : Clo L X) : pass L X = X := by
 induction L with
 | nil => rfl
 | cons r L ih =>
  unfold pass
  rw [List.foldl_cons, fire_clo (h r (by simp))]
  exact ih fun q hq => h q (by simp [hq])
theorem pass_fires {L : List Rule} (hm : ∀ r ∈ L, r.mono) {X : Int → Bool} {r : Rule} (hr : r ∈ L) (hc : r.c X = true) : Le4 r.a (pass L X) := by
 induction L generalizing X with
 | nil => cases hr
 | cons q L ih =>
  unfold pass
  rw [List.foldl_cons]
  rcases List.mem_cons.1 hr with rfl | hr
  ·refine Le4.trans (fun v hv => ?_) (pass_le (L := L))
   unfold fire; rw [if_pos hc]; unfold cupX; rw [hv, Bool.or_true]
  ·exact ih (fun r h => hm r (by simp [h])) hr (hm r (by simp [hr]) _ _ fire_le hc)
theorem pass_least {L : List Rule} (hm : ∀ r ∈ L, r.mono) {X Z : Int → Bool} (hz : Clo L Z) (h : Le4 X Z) : Le4 (pass L X) Z := by
 induction L generalizing X with
 | nil => exact h
 | cons q L ih =>
  unfold pass
  rw [List.foldl_cons]
  refine ih (fun r h => hm r (by simp [h])) (fun r hr => hz r (by simp [hr])) ?_
  unfold fire; split
  ·rename_i hc
   intro v hv
   unfold cupX at hv
   rcases Bool.or_eq_true _ _ ▸ hv with a | a
   ·exact h v a
   ·exact hz q (by simp) (hm q (by simp) _ _ h hc) v a
  ·exact h
theorem passes_le {L : List Rule} {n : Nat} {X : Int → Bool} : Le4 X (passes L n X) := by
 induction n with
 | zero => exact Le4.refl
 | succ n ih => exact ih.trans pass_le
theorem passes_least {L : List Rule} (hm : ∀ r ∈ L, r.mono) {X Z : Int → Bool} (hz : Clo L Z) (h : Le4 X Z) {n : Nat} : Le4 (passes L n X) Z := by
 induction n with
 | zero => exact h
 | succ n ih => exact pass_least hm hz ih
noncomputable def spent (L : List Rule) (X : Int → Bool) : Nat := by
 classical exact (L.map fun r => if Le4 r.a X then 1 else 0).sum
theorem spent_le {L : List Rule} {X : Int → Bool} : spent L X ≤ L.length := by
 unfold spent
 induction L with
 | nil => simp
 | cons r L ih => simp only [List.map_cons, List.sum_cons, List.length_cons]; split <;> omega
theorem spent_mono {L : List Rule} {X Y : Int → Bool} (h : Le4 X Y) : spent L X ≤ spent L Y := by
 unfold spent
 induction L with
 | nil => simp
 | cons r L ih =>
  simp only [List.map_cons, List.sum_cons]
  split
  ·rename_i a
   rw [if_pos (a.trans h)]; omega
  ·split <;> omega
theorem spent_lt {L : List Rule} {X Y : Int → Bool} (h : Le4 X Y) {r : Rule} (hr : r ∈ L) (h1 : ¬ Le4 r.a X) (h2 : Le4 r.a Y) : spent L X < spent L Y := by
 induction L with
 | nil => cases hr
 | cons q L ih =>
  have hm := spent_mono (L := L) h
  unfold spent at ih hm ⊢
  simp only [List.map_cons, List.sum_cons]
  rcases List.mem_cons.1 hr with rfl | hr
  ·rw [if_neg h1, if_pos h2]; omega
  ·have := ih hr
   split
   ·rename_i a
    rw [if_pos (a.trans h)]; omega
   ·split <;> omega
theorem spent_full {L : List Rule} {X : Int → Bool} (h : L.length ≤ spent L X) : Clo L X := by
 intro r hr _
 apply Classical.byContradiction
 intro hn
 have : spent L X < spent L (fun _ => true) := spent_lt (fun _ _ => rfl) hr hn (fun _ _ => rfl)
 have := spent_le (L := L) (X := fun _ => true)
 omega
theorem passes_spent {L : List Rule} (hm : ∀ r ∈ L, r.mono) {X : Int → Bool} {n : Nat} : Clo L (passes L n X) ∨ n ≤ spent L (passes L n X) := by
 induction n with
 | zero => exact .inr (by omega)
 | succ n ih =>
  rw [passes]
  rcases ih with h | h
  ·rw [pass_clo h]; exact .inl h
  ·by_cases c : Clo L (passes L n X)
   ·rw [pass_clo c]; exact .inl c
   ·right
    have : ∃ r ∈ L, r.c (passes L n X) = true ∧ ¬ Le4 r.a (passes L n X) := by
     apply Classical.byContradiction
     intro hn
     exact c fun r hr hc => Classical.byContradiction fun h => hn ⟨r, hr, hc, h⟩
    obtain ⟨r, hr, hc, hn⟩ := this
    have := spent_lt (pass_le (L := L)) hr hn (pass_fires hm hr hc)
    omega
theorem passes_clo {L : List Rule} (hm : ∀ r ∈ L, r.mono) {X : Int → Bool} {n : Nat} (h : L.length ≤ n) : Clo L (passes L n X) := by
 rcases passes_spent hm (X := X) (n := n) with c | c
 ·exact c
 ·exact spent_full (by omega)
def cl (L : List Rule) (X : Int → Bool) : Int → Bool := passes L L.length X
theorem cl_uniq {L : List Rule} (hm : ∀ r ∈ L, r.mono) {X Y : Int → Bool} (h1 : Clo L Y) (h2 : Le4 X Y) (h3 : ∀ Z, Clo L Z → Le4 X Z → Le4 Y Z) : Y = cl L X :=
 (h3 _ (passes_clo hm (Nat.le_refl _)) passes_le).antisymm (passes_least hm h1 h2)
theorem passes_cl {L : List Rule} (hm : ∀ r ∈ L, r.mono) {X : Int → Bool} {n : Nat} (h : L.length ≤ n) : passes L n X = cl L X :=
 cl_uniq hm (passes_clo hm h) passes_le fun Z hz hx => passes_least hm hz hx
theorem fire_in {X : Int → Bool} {r : Rule} (h : In4 X) (g : In4 r.a) : In4 (fire X r) := by
 unfold fire; split
 ·exact cup_in h g
 ·exact h
theorem pass_in {L : List Rule} {X : Int → Bool} (h : In4 X) (g : ∀ r ∈ L, In4 r.a) : In4 (pass L X) := by
 induction L generalizing X with
 | nil => exact h
 | cons r L ih => exact ih (fire_in h (g r (by simp))) fun q hq => g q (by simp [hq])
theorem passes_in {L : List Rule} {n : Nat} {X : Int → Bool} (h : In4 X) (g : ∀ r ∈ L, In4 r.a) : In4 (passes L n X) := by
 induction n with
 | zero => exact h
 | succ n ih => exact pass_in ih g
theorem pass_take {L : List Rule} {X : Int → Bool} {i : Nat} (h : i < L.length) : pass (L.take (i + 1)) X = fire (pass (L.take i) X) L[i] := by
 unfold pass; rw [take_succ' h, List.foldl_append]; rfl
end
section
def FitsQ (q : Query) : Prop := q.Atoms.length ≤ 1048576 ∧ (∀ a ∈ q.Atoms, a.Terms.length ≤ 1048576) ∧ q.Free.length ≤ 1048576
def vAt (l : List Relation) (n : Int) (before : List Atom) (a : Atom) : Bool :=
 btw a.Relation 0 (l.length - 1) && (decide ((a.Terms.length : Int) = arity l a.Relation) && ((a.Terms.all fun v => btw v (-10) (n - 1)) && !(before.any fun b => decide (b.Relation = a.Relation))))
def vAtom (l : List Relation) (q : Query) (i : Nat) : Bool := match q.Atoms[i]? with
 | none => true
 | some a => vAt l q.VariableCount (q.Atoms.take i) a
def occ (az : List Atom) : Int → Bool := fun v => az.any fun a => a.Terms.contains v
def vQuery (l : List Relation) (q : Query) : Bool :=
 vRels l && (btw q.VariableCount 0 4 && (btw q.Atoms.length 1 3 && (((List.range q.Atoms.length).all (vAtom l q)) && (((List.range 4).all fun v => decide (q.VariableCount ≤ ((v : Nat) : Int)) || occ q.Atoms ((v : Nat) : Int)) && asc q.VariableCount q.Free))))
theorem vAtom_get {l : List Relation} {q : Query} {i : Nat} (h : i < q.Atoms.length) : vAtom l q i = vAt l q.VariableCount (q.Atoms.take i) q.Atoms[i] := by
 unfold vAtom; rw [zE h]
theorem all_false {n i : Nat} {p : Nat → Bool} (h : i < n) (hp : p i = false) : (List.range n).all p = false := by
 rw [Bool.eq_false_iff]
 intro ha
 have := List.all_eq_true.1 ha i (List.mem_range.2 h)
 rw [hp] at this; cases this
theorem occ_succ {az : List Atom} {i : Nat} (h : i < az.length) {v : Int} : occ (az.take (i + 1)) v = (occ (az.take i) v || az[i].Terms.contains v) := by
 unfold occ; rw [take_succ' h, List.any_append]; simp
theorem has_succ {t : List Int} {k : Nat} (h : k < t.length) {v : Int} : (t.take (k + 1)).contains v = ((t.take k).contains v || decide (v = t[k])) := by
 rw [Bool.eq_iff_iff, List.contains_iff_mem, take_succ' h, List.mem_append, List.mem_singleton, Bool.or_eq_true, List.contains_iff_mem, decide_eq_true_eq]
section
variable {l : List Relation} {q : Query}
theorem specTerms {a : Atom} {mt : List Bool} {X : Int → Bool} (ht : a.Terms.length ≤ 1048576) (hn : 0 ≤ q.VariableCount ∧ q.VariableCount ≤ 4) (hm : mt.length = 4) (hx : ∀ v, v < 4 → mt[v]? = some (X ((v : Nat) : Int))) :
  Ens (iter (f93_4 q a) (mt, 0)) fun o => match o with
   | .inl m => (a.Terms.all fun v => btw v (-10) (q.VariableCount - 1)) = true ∧ m.length = 4 ∧ ∀ v, v < 4 → m[v]? = some (X ((v : Nat) : Int) || a.Terms.contains ((v : Nat) : Int))
   | .inr b => b = false ∧ (a.Terms.all fun v => btw v (-10) (q.VariableCount - 1)) = false := by
 refine iter_up (f := f93_4 q a) a.Terms.length (fun k s => s.2 = (k : Int) ∧ ((a.Terms.take k).all fun v => btw v (-10) (q.VariableCount - 1)) = true ∧ s.1.length = 4 ∧ ∀ v, v < 4 → s.1[v]? = some (X ((v : Nat) : Int) || (a.Terms.take k).contains ((v : Nat) : Int))) _ (fun k s hk hI => ?_) (fun s hI => ?_) (mt, 0) ⟨rfl, by simp, hm, fun v hv => by simp [hx v hv]⟩
 ·obtain ⟨m, x⟩ := s
  obtain ⟨e1, e2, e3, e4⟩ := hI
  dsimp only at e1 e3 e4
  subst e1
  simp only [f93_4]
  rw [if_pos (by omega), ix_nat hk, bS, w64_of (by omega), specIn, bS]
  cases hb : btw a.Terms[k] (-10) (q.VariableCount - 1)
  ·refine ⟨_, rfl, rfl, ?_⟩
   rw [Bool.eq_false_iff]
   intro ha
   have := List.all_eq_true.1 ha _ (List.getElem_mem hk)
   rw [hb] at this; cases this
  ·have hb' := hb
   unfold btw at hb'; simp only [Bool.and_eq_true, decide_eq_true_eq] at hb'
   have ha : ((a.Terms.take (k + 1)).all fun v => btw v (-10) (q.VariableCount - 1)) = true := by
    rw [take_succ' hk, List.all_append, e2]; simp [hb]
   simp only [not_true_eq_false, if_false]
   rw [w64_succ (by omega)]
   by_cases c : a.Terms[k] ≥ 0
   ·have hi : ix m a.Terms[k] = some (m[a.Terms[k].toNat]'(by omega)) := by rw [ix_of c, zE (by omega)]
    rw [if_pos c, hi]
    simp only [bS]
    refine ⟨_, rfl, rfl, ha, by simp [e3], fun v hv => ?_⟩
    dsimp only
    rw [List.getElem?_set]
    by_cases e : a.Terms[k].toNat = v
    ·rw [if_pos e, if_pos (by omega)]
     have : ((v : Nat) : Int) = a.Terms[k] := by omega
     rw [has_succ hk]
     simp [this]
    ·rw [if_neg e, e4 v hv, has_succ hk]
     have : ¬ ((v : Nat) : Int) = a.Terms[k] := by omega
     simp [this]
   ·rw [if_neg c]
    simp only [bS]
    refine ⟨_, rfl, rfl, ha, e3, fun v hv => ?_⟩
    dsimp only
    rw [e4 v hv, has_succ hk]
    have : ¬ ((v : Nat) : Int) = a.Terms[k] := by omega
    simp [this]
 ·obtain ⟨m, x⟩ := s
  obtain ⟨e1, e2, e3, e4⟩ := hI
  dsimp only at e1 e3 e4
  subst e1
  rw [List.take_of_length_le (Nat.le_refl _)] at e2 e4
  simp only [f93_4]
  rw [if_neg (by omega)]
  exact ⟨_, rfl, e2, e3, e4⟩
theorem specEarlier {a : Atom} {i : Nat} (hi : i ≤ q.Atoms.length) (hq : q.Atoms.length ≤ 1048576) : iter (f93_3 q (i : Int) a) 0 = some (if ((q.Atoms.take i).any fun b => decide (b.Relation = a.Relation)) = true then .inr false else .inl ()) := by
 have e : (q.Atoms.take i).length = i := by simp; omega
 refine iter_ex (q.Atoms.take i) (fun b => decide (b.Relation = a.Relation)) false (fun k hk => ?_) ?_
 ·rw [e] at hk
  simp only [f93_3]
  rw [if_pos (by omega), ix_nat (by omega : k < q.Atoms.length), bS, w64_succ (by omega), List.getElem_take]
  by_cases c : q.Atoms[k].Relation = a.Relation
  ·rw [if_pos c, if_pos (by simp [c])]
  ·rw [if_neg c, if_neg (by simp [c])]
 ·simp only [f93_3]
  rw [e, if_neg (by omega)]
theorem specAtoms (hl : Big l.length) (hq : FitsQ q) (hn : 0 ≤ q.VariableCount ∧ q.VariableCount ≤ 4) :
  Ens (iter (f93_0 l q) ([false, false, false, false], 0)) fun o => match o with
   | .inl m => (List.range q.Atoms.length).all (vAtom l q) = true ∧ m.length = 4 ∧ ∀ v, v < 4 → m[v]? = some (occ q.Atoms ((v : Nat) : Int))
   | .inr b => b = false ∧ (List.range q.Atoms.length).all (vAtom l q) = false := by
 obtain ⟨q1, q2, q3⟩ := hq
 refine iter_up (f := f93_0 l q) q.Atoms.length (fun i s => s.2 = (i : Int) ∧ (∀ j, j < i → vAtom l q j = true) ∧ s.1.length = 4 ∧ ∀ v, v < 4 → s.1[v]? = some (occ (q.Atoms.take i) ((v : Nat) : Int))) _ (fun i s hi hI => ?_) (fun s hI => ?_) _ ⟨rfl, fun j hj => by omega, rfl, fun v hv => ?_⟩
 ·obtain ⟨m, x⟩ := s
  obtain ⟨e1, e2, e3, e4⟩ := hI
  dsimp only at e1 e3 e4
  subst e1
  have hv := vAtom_get (l := l) hi
  simp only [f93_0]
  rw [if_pos (by omega), ix_nat hi, bS, w64_of (by omega), specIn, bS]
  have ht := q2 _ (List.getElem_mem hi)
  unfold vAt at hv
  cases hb : btw q.Atoms[i].Relation 0 (l.length - 1)
  ·rw [hb] at hv
   exact ⟨_, rfl, rfl, all_false hi (by rw [hv]; rfl)⟩
  ·obtain ⟨x, h1, _, h2, _⟩ := ix_rel hb
   rw [hb] at hv
   rw [h1]
   simp only [not_true_eq_false, if_false, bS]
   rw [h2]
   by_cases ha : (q.Atoms[i].Terms.length : Int) = arity l q.Atoms[i].Relation
   ·simp only [ha, not_true_eq_false, if_false, bS, ne_eq, decide_false, Bool.false_eq_true]
    rw [specEarlier (by omega) q1]
    cases hd : (q.Atoms.take i).any fun b => decide (b.Relation = q.Atoms[i].Relation)
    ·simp only [Bool.false_eq_true, if_false, bS]
     obtain ⟨o, ho, hQ⟩ := specTerms (q := q) (a := q.Atoms[i]) (mt := m) (X := occ (q.Atoms.take i)) ht hn e3 e4
     rw [ho]
     cases o with
     | inl m' =>
      obtain ⟨g1, g2, g3⟩ := hQ
      simp only [bS]
      rw [w64_succ (by omega)]
      refine ⟨_, rfl, rfl, fun j hj => ?_, g2, fun v hv => ?_⟩
      ·by_cases e : j = i
       ·subst e; rw [hv, ha, g1, hd]; simp
       ·exact e2 j (by omega)
      ·rw [g3 v hv, occ_succ hi]
     | inr b =>
      obtain ⟨rfl, g⟩ := hQ
      exact ⟨_, rfl, rfl, all_false hi (by rw [hv, g]; simp)⟩
    ·simp only [if_true, bS]
     exact ⟨_, rfl, rfl, all_false hi (by rw [hv, hd]; simp)⟩
   ·simp only [ha, not_true_eq_false, not_false_eq_true, if_false, bS, ne_eq, decide_true, if_true]
    exact ⟨_, rfl, rfl, all_false hi (by rw [hv]; simp [ha])⟩
 ·obtain ⟨m, x⟩ := s
  obtain ⟨e1, e2, e3, e4⟩ := hI
  dsimp only at e1 e3 e4
  subst e1
  rw [List.take_of_length_le (Nat.le_refl _)] at e4
  simp only [f93_0]
  rw [if_neg (by omega)]
  exact ⟨_, rfl, List.all_eq_true.2 fun j hj => e2 j (List.mem_range.1 hj), e3, e4⟩
 ·simp only [List.take_zero, occ, List.any_nil]
  rcases v with _ | _ | _ | _ | v
  ·rfl
  ·rfl
  ·rfl
  ·rfl
  ·omega
theorem specQ (hl : Big l.length) (hq : FitsQ q) : f93 l q = some (vQuery l q) := by
 unfold f93 vQuery
 rw [specRels hl, bS]
 cases vRels l
 ·simp
 simp only [not_true_eq_false, if_false, specIn, bS, Bool.true_and]
 cases hc : btw q.VariableCount 0 4
 ·simp
 cases hn : btw (q.Atoms.length : Int) 1 3
 ·simp
 have hc' := hc
 unfold btw at hc'; simp only [Bool.and_eq_true, decide_eq_true_eq] at hc'
 simp only [not_true_eq_false, if_false, bS, decide_false, Bool.false_eq_true, Bool.true_and]
 rw [mkl_ok (by omega) (by omega) (by omega), bS, show List.replicate (4 : Int).toNat false = [false, false, false, false] from rfl]
 obtain ⟨o, ho, hQ⟩ := specAtoms hl hq hc'
 rw [ho]
 cases o with
 | inr b => obtain ⟨rfl, g⟩ := hQ; rw [g]; simp
 | inl m =>
  obtain ⟨g1, g2, g3⟩ := hQ
  rw [g1]
  simp only [bS, Bool.true_and]
  rw [iter_ex (List.range q.VariableCount.toNat) (fun v => !occ q.Atoms ((v : Nat) : Int)) false (fun v hv => by
   simp only [List.length_range] at hv
   simp only [List.getElem_range]
   simp only [f93_1]
   rw [if_pos (by omega), ix_cast, g3 v (by omega), bS, w64_succ (by omega)]
   cases occ q.Atoms ((v : Nat) : Int) <;> simp) (by
   simp only [f93_1, List.length_range]
   rw [if_neg (by omega)])]
  have ea : ((List.range 4).all fun v => decide (q.VariableCount ≤ ((v : Nat) : Int)) || occ q.Atoms ((v : Nat) : Int)) = !((List.range q.VariableCount.toNat).any fun v => !occ q.Atoms ((v : Nat) : Int)) := by
   rw [any_not, Bool.not_not, Bool.eq_iff_iff, List.all_eq_true, List.all_eq_true]
   simp only [List.mem_range, Bool.or_eq_true, decide_eq_true_eq]
   constructor
   ·intro h v hv
    exact (h v (by omega)).resolve_left (by omega)
   ·intro h v hv
    by_cases c : q.VariableCount ≤ ((v : Nat) : Int)
    ·exact .inl c
    ·exact .inr (h v (by omega))
  rw [ea]
  cases (List.range q.VariableCount.toNat).any fun v => !occ q.Atoms ((v : Nat) : Int)
  ·simp only [Bool.false_eq_true, if_false, bS, Bool.not_false, Bool.true_and]
   have hF := hq.2.2
   rw [iter_adj (fun v => btw v 0 (q.VariableCount - 1)) (fun a b => decide (a < b)) q.Free false (fun i hi => by
    simp only [f93_2]
    rw [if_pos (by omega), ix_nat hi, w64_succ (by omega), w64_of (n := q.VariableCount - 1) (by omega)]
    simp only [bS, specIn]
    cases btw q.Free[i] 0 (q.VariableCount - 1)
    ·simp
    ·by_cases h0 : i = 0
     ·subst h0; simp
     ·have e : ix q.Free (w64 ((i : Int) - 1)) = some (q.Free[i - 1]'(by omega)) := by rw [w64_of (by omega), show (i : Int) - 1 = ((i - 1 : Nat) : Int) by omega, ix_nat (by omega)]
      simp only [e]
      have : 0 < i := by omega
      by_cases hb : q.Free[i - 1]'(by omega) < q.Free[i]
      ·simp [h0, this, hb, Int.not_le.2 hb]
      ·simp [h0, this, hb, Int.not_lt.1 hb]) (by
    simp only [f93_2]
    rw [if_neg (by omega)])]
   unfold asc
   cases good (fun v => btw v 0 (q.VariableCount - 1)) (fun a b => decide (a < b)) q.Free <;> simp
  ·simp
end
end
section
def uni : List Int → List Int → List Int → Option (List Int)
 | t :: ts, v :: vs, x => if t < 0 then (if -1 - t = v then uni ts vs x else none) else if x.getD t.toNat 0 < 0 then uni ts vs (x.set t.toNat v) else if x.getD t.toNat 0 = v then uni ts vs x else none
 | _, _, x => some x
theorem uni_len : ∀ {ts vs x y : List Int}, uni ts vs x = some y → y.length = x.length
 | [], _, x, y, h => by simp [uni] at h; rw [h]
 | _ :: _, [], x, y, h => by simp [uni] at h; rw [h]
 | t :: ts, v :: vs, x, y, h => by
  simp only [uni] at h
  split at h
  ·split at h
   ·exact uni_len h
   ·cases h
  ·split at h
   ·rw [uni_len h]; simp
   ·split at h
    ·exact uni_len h
    ·cases h
def step (F : List Fact) (a : Atom) (x : List Int) (i : Nat) : Option (List Int) := match F[i]? with
 | some f => if f.Relation = a.Relation then uni a.Terms f.Values x else none
 | none => none
theorem vq_len {l : List Relation} {q : Query} (h : vQuery l q = true) : q.Atoms.length ≤ 3 ∧ 1 ≤ q.Atoms.length := by
 unfold vQuery at h
 simp only [Bool.and_eq_true, btw, decide_eq_true_eq] at h
 omega
theorem vq_vars {l : List Relation} {q : Query} (h : vQuery l q = true) : 0 ≤ q.VariableCount ∧ q.VariableCount ≤ 4 := by
 unfold vQuery at h
 simp only [Bool.and_eq_true, btw, decide_eq_true_eq] at h
 omega
theorem vq_atom {l : List Relation} {q : Query} (h : vQuery l q = true) {k : Nat} (hk : k < q.Atoms.length) : (q.Atoms[k].Terms.length : Int) = arity l q.Atoms[k].Relation ∧ ∀ t ∈ q.Atoms[k].Terms, -10 ≤ t ∧ t < q.VariableCount := by
 unfold vQuery at h
 simp only [Bool.and_eq_true] at h
 have h1 := List.all_eq_true.1 h.2.2.2.1 k (List.mem_range.2 hk)
 rw [vAtom_get hk] at h1
 unfold vAt at h1
 simp only [Bool.and_eq_true, decide_eq_true_eq] at h1
 refine ⟨h1.2.1, fun t ht => ?_⟩
 have := List.all_eq_true.1 h1.2.2.1 t ht
 simp only [btw, Bool.and_eq_true, decide_eq_true_eq] at this
 omega
end
section
end
section
theorem digit {n : Int} (h0 : 0 ≤ n) (h9 : n ≤ 9) : f180 n = some [UInt8.ofNat (48 + n.toNat)] := by
 have : n = 0 ∨ n = 1 ∨ n = 2 ∨ n = 3 ∨ n = 4 ∨ n = 5 ∨ n = 6 ∨ n = 7 ∨ n = 8 ∨ n = 9 := by omega
 unfold f180
 rcases this with rfl | rfl | rfl | rfl | rfl | rfl | rfl | rfl | rfl | rfl
 ·rfl
 ·rw [if_neg (by decide), iter_of (f := f180_0) (n := 2) (r := [UInt8.ofNat (48 + 1)]) (by decide)]; rfl
 ·rw [if_neg (by decide), iter_of (f := f180_0) (n := 2) (r := [UInt8.ofNat (48 + 2)]) (by decide)]; rfl
 ·rw [if_neg (by decide), iter_of (f := f180_0) (n := 2) (r := [UInt8.ofNat (48 + 3)]) (by decide)]; rfl
 ·rw [if_neg (by decide), iter_of (f := f180_0) (n := 2) (r := [UInt8.ofNat (48 + 4)]) (by decide)]; rfl
 ·rw [if_neg (by decide), iter_of (f := f180_0) (n := 2) (r := [UInt8.ofNat (48 + 5)]) (by decide)]; rfl
 ·rw [if_neg (by decide), iter_of (f := f180_0) (n := 2) (r := [UInt8.ofNat (48 + 6)]) (by decide)]; rfl
 ·rw [if_neg (by decide), iter_of (f := f180_0) (n := 2) (r := [UInt8.ofNat (48 + 7)]) (by decide)]; rfl
 ·rw [if_neg (by decide), iter_of (f := f180_0) (n := 2) (r := [UInt8.ofNat (48 + 8)]) (by decide)]; rfl
 ·rw [if_neg (by decide), iter_of (f := f180_0) (n := 2) (r := [UInt8.ofNat (48 + 9)]) (by decide)]; rfl
def ftm (t : Int) : List UInt8 := if t < 0 then (if -10 ≤ t then [UInt8.ofNat (48 + (-1 - t).toNat)] else []) else (([120, 121, 122, 119] : List UInt8).drop t.toNat).take 1
theorem fterm {t : Int} (h0 : -1000 ≤ t) (h1 : t ≤ 1000) : f152 t = some (ftm t) := by
 unfold f152 f179 ftm
 by_cases c : t < 0
 ·rw [if_neg (by omega), w64_of (n := -1 - t) (by omega), specIn, bS, bS, if_pos c]
  by_cases c2 : -10 ≤ t
  ·rw [show btw (-1 - t) 0 9 = true by simp [btw]; omega, if_neg (by simp), bS, if_pos rfl, digit (by omega) (by omega), if_pos c2]; rfl
  ·rw [show btw (-1 - t) 0 9 = false by simp [btw]; omega, if_pos (by simp), bS, if_neg (by simp), specIn, bS, show btw t 0 3 = false by simp [btw]; omega, if_pos (by simp), if_neg c2]
 ·rw [if_pos (by omega), bS, if_pos rfl, bS, if_neg (by simp), specIn, bS, if_neg c]
  by_cases c2 : t ≤ 3
  ·rw [show btw t 0 3 = true by simp [btw]; omega, if_neg (by simp), w64_of (by omega), cutL_ok (by omega) (by omega) (by simp; omega), bS]
   have : t = 0 ∨ t = 1 ∨ t = 2 ∨ t = 3 := by omega
   rcases this with rfl | rfl | rfl | rfl <;> rfl
  ·rw [show btw t 0 3 = false by simp [btw]; omega, if_pos (by simp), List.drop_of_length_le (by simp; omega)]; rfl
theorem ftm_len {t : Int} : (ftm t).length ≤ 1 := by
 unfold ftm
 split
 ·split <;> simp
 ·rw [List.length_take]; omega
def ptm (s : List UInt8) : Int × Bool := match (List.range 14).find? fun k => decide (ftm ((k : Nat) - 10) = s) with
 | some k => ((k : Nat) - 10, true)
 | none => (0, false)
theorem pterm {s : List UInt8} : f109 s = some (ptm s) := by
 unfold f109 ptm
 obtain ⟨o, h1, h2⟩ := iter_up (f := f109_0 s) 14 (fun i t => t = ((i : Nat) : Int) - 10 ∧ ∀ j, j < i → ftm ((j : Nat) - 10) ≠ s)
  (fun o => o = (match (List.range 14).find? fun k => decide (ftm ((k : Nat) - 10) = s) with | some k => .inr (((k : Nat) : Int) - 10, true) | none => .inl ())) (fun i t hi ⟨e, hp⟩ => by
   subst e
   simp only [f109_0]
   rw [if_pos (by omega), fterm (by omega) (by omega), bS]
   by_cases c : ftm ((i : Nat) - 10) = s
   ·rw [if_pos c]
    refine ⟨_, rfl, ?_⟩
    dsimp only
    have : (List.range 14).find? (fun k => decide (ftm ((k : Nat) - 10) = s)) = some i := by
     rw [List.find?_range_eq_some]
     exact ⟨by simpa using c, by simpa using hi, fun j hj => by simpa using hp j hj⟩
    rw [this]
   ·rw [if_neg c, w64_of (by omega)]
    refine ⟨_, rfl, by omega, fun j hj => ?_⟩
    by_cases e : j = i
    ·subst e; exact c
    ·exact hp j (by omega)) (fun t ⟨e, hp⟩ => by
   subst e
   simp only [f109_0]
   rw [if_neg (by omega)]
   refine ⟨_, rfl, ?_⟩
   have : (List.range 14).find? (fun k => decide (ftm ((k : Nat) - 10) = s)) = none := by
    rw [List.find?_eq_none]
    intro k hk
    have := hp k (List.mem_range.1 hk)
    simpa using this
   rw [this]) (-10) ⟨by simp, fun j hj => by omega⟩
 rw [h1, h2]
 cases (List.range 14).find? fun k => decide (ftm ((k : Nat) - 10) = s) <;> rfl
theorem ptm_rng {s : List UInt8} : -10 ≤ (ptm s).1 ∧ (ptm s).1 ≤ 3 := by
 unfold ptm
 split
 ·rename_i k h
  have := List.mem_range.1 (List.mem_of_find?_eq_some h)
  simp only; omega
 ·simp
end
section
theorem cutOk {s : List UInt8} {sign : Int} (h : s.length ≤ 1000) : Ens (f108 s sign) fun r => r.length ≤ s.length + 1 ∧ ∀ x ∈ r, x.length ≤ s.length := by
 unfold f108
 refine Ens.bind (Q := fun o : List (List UInt8) × Int => o.1.length ≤ s.length ∧ (∀ x ∈ o.1, x.length ≤ s.length) ∧ 0 ≤ o.2 ∧ o.2 ≤ s.length) ?_ fun o ⟨h1, h2, h3, h4⟩ => ?_
 ·refine iter_up (f := f108_0 s sign) s.length (fun i t => t.1.length ≤ i ∧ (∀ x ∈ t.1, x.length ≤ s.length) ∧ 0 ≤ t.2.1 ∧ t.2.1 ≤ i ∧ t.2.2 = (i : Int)) _ (fun i t hi ⟨g1, g2, g3, g4, g5⟩ => ?_) (fun t ⟨g1, g2, g3, g4, g5⟩ => ?_) ([], 0, 0) ⟨by simp, by simp, by simp, by simp, rfl⟩
  ·obtain ⟨out, from_, k⟩ := t
   simp only at g1 g2 g3 g4 g5
   subst g5
   simp only [f108_0]
   rw [if_pos (by omega), ix_nat hi, bS, w64_succ (by omega)]
   by_cases c : (s[i].toNat : Int) = sign
   ·rw [if_pos c, cutL_ok g3 g4 (by omega), bS, app_fits (by simp; omega), bS]
    refine ⟨_, rfl, by simp; omega, fun x hx => ?_, by simp only; omega, by simp only; omega, rfl⟩
    rcases List.mem_append.1 hx with hx | hx
    ·exact g2 x hx
    ·rw [List.mem_singleton] at hx
     subst hx
     rw [List.length_drop, List.length_take]; omega
   ·rw [if_neg c]
    exact ⟨_, rfl, by simp only; omega, g2, g3, by simp only; omega, rfl⟩
  ·obtain ⟨out, from_, k⟩ := t
   simp only at g1 g2 g3 g4 g5
   subst g5
   simp only [f108_0]
   rw [if_neg (by omega)]
   exact ⟨_, rfl, g1, g2, g3, g4⟩
 ·obtain ⟨out, from_⟩ := o
  simp only at h1 h2 h3 h4 ⊢
  rw [cutL_ok h3 h4 (by omega), bS, app_fits (by simp; omega), bS]
  refine Ens.of ⟨by simp; omega, fun x hx => ?_⟩
  rcases List.mem_append.1 hx with hx | hx
  ·exact h2 x hx
  ·rw [List.mem_singleton] at hx
   subst hx
   rw [List.length_drop, List.length_take]; omega
theorem relIdx {l : List Relation} {s : List UInt8} (h : l.length ≤ 1000) : Ens (f110 l s) fun r => -1 ≤ r ∧ r < l.length := by
 unfold f110
 refine Ens.bind (Q := fun o => match o with | .inl _ => True | .inr r => -1 ≤ r ∧ r < l.length) ?_ fun o ho => by
  cases o with
  | inl _ => exact Ens.of ⟨by omega, by omega⟩
  | inr r => exact Ens.of ho
 refine iter_up (f := f110_0 l s) l.length (fun i t => t = (i : Int)) _ (fun i t hi e => ?_) (fun t e => ?_) 0 rfl
 ·subst e
  simp only [f110_0]
  rw [if_pos (by omega), ix_nat hi, bS, w64_succ (by omega)]
  by_cases c : l[i].Name = s
  ·rw [if_pos c]; exact ⟨_, rfl, by omega, by omega⟩
  ·rw [if_neg c]; exact ⟨_, rfl, rfl⟩
 ·subst e
  simp only [f110_0]
  rw [if_neg (by omega)]; exact ⟨_, rfl, trivial⟩
def QS (q : Query) : Prop := 1 ≤ q.Atoms.length ∧ q.Atoms.length ≤ 40 ∧ (∀ a ∈ q.Atoms, 1 ≤ a.Terms.length ∧ a.Terms.length ≤ 40) ∧ q.Free.length ≤ 20 ∧ 0 ≤ q.VariableCount ∧ q.VariableCount ≤ 20
def QM (q : Query) : Prop := q.Atoms.length ≤ 40 ∧ (∀ a ∈ q.Atoms, a.Terms.length ≤ 40) ∧ q.Free.length ≤ 40
theorem QM.fits {q : Query} (h : QM q) : FitsQ q := ⟨by have := h.1; omega, fun a ha => by have := h.2.1 a ha; omega, by have := h.2.2; omega⟩
theorem vq_qs {l : List Relation} {q : Query} (h : vQuery l q = true) : QS q := by
 have hl := vq_len h
 have hv := vq_vars h
 have h0 := h
 unfold vQuery at h0
 simp only [Bool.and_eq_true] at h0
 obtain ⟨r1, _, _, r4, _, r6⟩ := h0
 have hfree : q.Free.length ≤ 4 := by
  have := asc_len (n := q.VariableCount.toNat) (s := q.Free) (by
   have e : ((q.VariableCount.toNat : Nat) : Int) = q.VariableCount := by omega
   rw [e]; exact r6)
  omega
 refine ⟨hl.2, by omega, fun a ha => ?_, by omega, hv.1, by omega⟩
 obtain ⟨k, hk, rfl⟩ := List.getElem_of_mem ha
 have ht := (vq_atom h hk).1
 have h1 := List.all_eq_true.1 r4 k (List.mem_range.2 hk)
 rw [vAtom_get hk] at h1
 unfold vAt at h1
 simp only [Bool.and_eq_true] at h1
 obtain ⟨x, _, hx, hx2, _⟩ := ix_rel h1.1
 have hr := vRel_mem r1 hx
 unfold vRel at hr
 simp only [btw, Bool.and_eq_true, decide_eq_true_eq] at hr
 omega
theorem fatomOk {l : List Relation} {a : Atom} (hv : btw a.Relation 0 (l.length - 1) = true) (hl : l.length ≤ 1000) (hn : ∀ x ∈ l, x.Name.length ≤ 100) (ht : a.Terms.length ≤ 40 ∧ ∀ t ∈ a.Terms, -1000 ≤ t ∧ t ≤ 1000) : Ens (f153 l a) fun s => s.length ≤ 300 := by
 obtain ⟨x, h1, h2, _, _⟩ := ix_rel hv
 have hx := hn x h2
 unfold f153
 rw [h1, bS]
 refine Ens.bind (Q := fun s => s.length ≤ 300) ?_ fun s hs => Ens.of hs
 refine iter_up (f := f153_0 l a) a.Terms.length (fun i t => t.1.length ≤ 100 + 2 * i ∧ t.2 = (i : Int)) _ (fun i t hi ⟨g1, g2⟩ => ?_) (fun t ⟨g1, g2⟩ => ?_) (x.Name, 0) ⟨by simp only; omega, rfl⟩
 ·obtain ⟨s, k⟩ := t
  simp only at g1 g2
  subst g2
  have hb := ht.2 _ (List.getElem_mem hi)
  have hf := ftm_len (t := a.Terms[i])
  simp only [f153_0]
  rw [if_pos (by omega), h1, bS, w64_succ (by omega)]
  obtain ⟨s2, e2, q2⟩ : Ens (if ((i : Nat) : Int) = x.KeyLength then (cat s [124]).bind fun s_11 => some s_11 else some s) fun s2 => s2.length ≤ s.length + 1 := by
   refine Ens.ite (fun _ => ?_) fun _ => Ens.of (by omega)
   rw [cat_ok (by simp; omega)]
   exact Ens.of (by simp)
  rw [e2, bS, ix_nat hi, bS, fterm hb.1 hb.2, bS, cat_ok (by omega), bS]
  exact ⟨_, rfl, by simp only [List.length_append]; omega, rfl⟩
 ·obtain ⟨s, k⟩ := t
  simp only at g1 g2
  subst g2
  simp only [f153_0]
  rw [if_neg (by omega)]
  exact ⟨_, rfl, by omega⟩
theorem fmtOk {l : List Relation} {q : Query} (hl : l.length ≤ 1000) (hn : ∀ x ∈ l, x.Name.length ≤ 100) (hq : QM q) : Ens (f111 l q) fun s => s ≠ [] → vQuery l q = true := by
 unfold f111
 rw [specQ (by omega) hq.fits, bS]
 cases hv : vQuery l q
 ·rw [if_pos (by simp)]
  exact Ens.of fun h => absurd rfl h
 ·have hs := vq_qs hv
  have hv4 := vq_vars hv
  rw [if_neg (by simp)]
  have free : ∀ t ∈ q.Free, -1000 ≤ t ∧ t ≤ 1000 := by
   have h0 := hv
   unfold vQuery at h0
   simp only [Bool.and_eq_true] at h0
   intro t ht
   have := (asc_of (n := q.VariableCount.toNat) (s := q.Free) (by
    have e : ((q.VariableCount.toNat : Nat) : Int) = q.VariableCount := by omega
    rw [e]; exact h0.2.2.2.2.2)).2 t ht
   omega
  have atm : ∀ a ∈ q.Atoms, btw a.Relation 0 (l.length - 1) = true ∧ a.Terms.length ≤ 40 ∧ ∀ t ∈ a.Terms, -1000 ≤ t ∧ t ≤ 1000 := fun a ha => by
   obtain ⟨k, hk, rfl⟩ := List.getElem_of_mem ha
   have h0 := hv
   unfold vQuery at h0
   simp only [Bool.and_eq_true] at h0
   have h1 := List.all_eq_true.1 h0.2.2.2.1 k (List.mem_range.2 hk)
   rw [vAtom_get hk] at h1
   unfold vAt at h1
   simp only [Bool.and_eq_true] at h1
   refine ⟨h1.1, (hs.2.2.1 _ ha).2, fun t ht => ?_⟩
   have := (vq_atom hv hk).2 t ht
   omega
  have hs4 := hs.2.2.2.1
  have hs2 := hs.2.1
  refine Ens.bind (Q := fun s => s.length ≤ 40) ?_ fun s1 h1 => ?_
  ·refine iter_up (f := f111_0 q) q.Free.length (fun i t => t.1.length ≤ i ∧ t.2 = (i : Int)) _ (fun i t hi ⟨g1, g2⟩ => ?_) (fun t ⟨g1, g2⟩ => ?_) ([], 0) ⟨by simp, rfl⟩
   ·obtain ⟨s, k⟩ := t
    simp only at g1 g2
    subst g2
    have hb := free _ (List.getElem_mem hi)
    have hf := ftm_len (t := q.Free[i])
    simp only [f111_0]
    rw [if_pos (by omega), ix_nat hi, bS, fterm hb.1 hb.2, bS, cat_ok (by omega), bS, w64_succ (by omega)]
    exact ⟨_, rfl, by simp only [List.length_append]; omega, rfl⟩
   ·obtain ⟨s, k⟩ := t
    simp only at g1 g2
    subst g2
    simp only [f111_0]
    rw [if_neg (by omega)]
    exact ⟨_, rfl, by omega⟩
  rw [cat_ok (by simp; omega), bS]
  refine Ens.bind (Q := fun _ => True) ?_ fun s2 _ => Ens.of fun _ => rfl
  refine iter_up (f := f111_1 l q) q.Atoms.length (fun i t => t.1.length ≤ 41 + 301 * i ∧ t.2 = (i : Int)) _ (fun i t hi ⟨g1, g2⟩ => ?_) (fun t ⟨g1, g2⟩ => ?_) (s1 ++ [63], 0) ⟨by simp; omega, rfl⟩
  ·obtain ⟨s, k⟩ := t
   simp only at g1 g2
   subst g2
   obtain ⟨a1, a2⟩ := atm _ (List.getElem_mem hi)
   obtain ⟨z, z1, z2⟩ := fatomOk a1 hl hn a2
   simp only [f111_1]
   obtain ⟨s2, e2, q2⟩ : Ens (if ((i : Nat) : Int) > 0 then (cat s [32]).bind fun s_24 => some s_24 else some s) fun s2 => s2.length ≤ s.length + 1 := by
    refine Ens.ite (fun _ => ?_) fun _ => Ens.of (by omega)
    rw [cat_ok (by simp; omega)]
    exact Ens.of (by simp)
   rw [if_pos (by omega), e2, bS, ix_nat hi, bS, z1, bS, cat_ok (by omega), bS, w64_succ (by omega)]
   exact ⟨_, rfl, by simp only [List.length_append]; omega, rfl⟩
  ·obtain ⟨s, k⟩ := t
   simp only at g1 g2
   subst g2
   simp only [f111_1]
   rw [if_neg (by omega)]
   exact ⟨_, rfl, trivial⟩
end
section
theorem parseOk {l : List Relation} {s : List UInt8} (hl : l.length ≤ 1000) (hn : ∀ x ∈ l, x.Name.length ≤ 100) (hs : s.length ≤ 20) (h0 : s ≠ []) : Ens (f66 l s) fun r => r.2 = true → QS r.1 := by
  unfold f66
  refine Ens.bind (cutOk (sign := 63) (show s.length ≤ 1000 by omega)) fun o1 ⟨c1, c2⟩ => ?_
  refine Ens.ite (fun _ => Ens.of fun h => by cases h) fun h2 => ?_
  have h2 : o1.length = 2 := by simp only [ne_eq, Classical.not_not] at h2; omega
  have w0 := c2 o1[0] (List.getElem_mem _)
  have w1 := c2 o1[1] (List.getElem_mem _)
  have i0 : ix o1 0 = some o1[0] := ix_nat (i := 0) (by omega)
  have i1 : ix o1 1 = some o1[1] := ix_nat (i := 1) (by omega)
  refine Ens.bind (Q := fun t : Int × List Atom × List Int => t.2.1 = [] ∧ t.2.2.length ≤ 20) ?_ fun t1 ⟨a1, a2⟩ => ?_
  · refine iter_up (f := f66_0 o1) o1[0].length (fun i t => t.2.1 = [] ∧ t.2.2.1.length ≤ i ∧ t.2.2.2 = (i : Int)) _ (fun i t hi ⟨g1, g2, g3⟩ => ?_) (fun t ⟨g1, g2, g3⟩ => ?_) (0, [], [], 0) ⟨rfl, by simp, rfl⟩
    · obtain ⟨v, az, fr, k⟩ := t
      simp only at g1 g2 g3
      subst g3
      simp only [f66_0]
      rw [i0, bS, if_pos (by omega), w64_succ (by omega), cutL_ok (by omega) (by omega) (by omega), bS, pterm, bS, app_fits (by simp; omega), bS]
      exact ⟨_, rfl, g1, by simp; omega, rfl⟩
    · obtain ⟨v, az, fr, k⟩ := t
      simp only at g1 g2 g3
      subst g3
      simp only [f66_0]
      rw [i0, bS, if_neg (by omega)]
      exact ⟨_, rfl, g1, by simp only; omega⟩
  obtain ⟨v1, as1, fr1⟩ := t1
  simp only at a1 a2 ⊢
  subst a1
  rw [i1, bS]
  refine Ens.bind (cutOk (sign := 32) (show o1[1].length ≤ 1000 by omega)) fun o2 ⟨d1, d2⟩ => ?_
  refine Ens.bind (Q := fun t : Int × List Atom × List Int => QM ⟨t.1, t.2.1, t.2.2⟩) ?_ fun t2 b2 => ?_
  · refine iter_up (f := f66_1 l o2) o2.length (fun i t => t.2.1.length ≤ i ∧ (∀ a ∈ t.2.1, a.Terms.length ≤ 20) ∧ t.2.2.1.length ≤ 20 ∧ t.2.2.2 = (i : Int)) _ (fun i t hi ⟨g1, g2, g3, g4⟩ => ?_) (fun t ⟨g1, g2, g3, g4⟩ => ?_) (v1, [], fr1, 0) ⟨by simp, by simp, a2, rfl⟩
    · obtain ⟨v, az, fr, k⟩ := t
      simp only at g1 g2 g3 g4
      subst g4
      have hw := d2 _ (List.getElem_mem hi)
      have ii : ix o2 (i : Int) = some o2[i] := ix_nat hi
      obtain ⟨u, e, u1, u2, u3⟩ : Ens (iter (f66_2 l o2 (i : Int)) (v, az, fr, 0, [], 0)) fun u => u.2.1 = az ∧ u.2.2.1 = fr ∧ u.2.2.2.2.length ≤ 20 := by
        refine iter_up (f := f66_2 l o2 (i : Int)) o2[i].length (fun j u => u.2.1 = az ∧ u.2.2.1 = fr ∧ u.2.2.2.2.1.length ≤ j ∧ u.2.2.2.2.2 = (j : Int)) _ (fun j u hj ⟨k1, k2, k3, k4⟩ => ?_) (fun u ⟨k1, k2, k3, k4⟩ => ?_) (v, az, fr, 0, [], 0) ⟨rfl, rfl, by simp, rfl⟩
        · obtain ⟨v', az', fr', r, ts, m⟩ := u
          simp only at k1 k2 k3 k4
          subst k1 k2 k4
          simp only [f66_2]
          rw [ii, bS, if_pos (by omega), w64_succ (by omega)]
          obtain ⟨z, z1, z2⟩ : Ens (if ((j : Nat) : Int) = 0 then (cutL o2[i] 0 1).bind fun l_43 => (f110 l l_43).bind fun o45 => some (v', o45, ts)
              else (ix o2[i] (j : Int)).bind fun c_47 => if (c_47.toNat : Int) = 124 then some (v', r, ts)
                else (cutL o2[i] (j : Int) ((j + 1 : Nat) : Int)).bind fun l_50 => (f109 l_50).bind fun o52 => (app 8 ts ([o52.1])).bind fun l_54 => some (if w64 (o52.1 + 1) > v' then w64 (o52.1 + 1) else v', r, l_54)) fun z => z.2.2.length ≤ j + 1 := by
            refine Ens.ite (fun _ => ?_) fun _ => ?_
            · rw [cutL_ok (by omega) (by omega) (by omega), bS]
              exact Ens.bind (relIdx hl) fun o _ => Ens.of (by simp only; omega)
            · rw [ix_nat hj, bS]
              refine Ens.ite (fun _ => Ens.of (by simp only; omega)) fun _ => ?_
              rw [cutL_ok (by omega) (by omega) (by omega), bS, pterm, bS, app_fits (by simp; omega), bS]
              exact Ens.of (by simp; omega)
          rw [z1, bS]
          exact ⟨_, rfl, rfl, rfl, z2, rfl⟩
        · obtain ⟨v', az', fr', r, ts, m⟩ := u
          simp only at k1 k2 k3 k4
          subst k1 k2 k4
          simp only [f66_2]
          rw [ii, bS, if_neg (by omega)]
          exact ⟨_, rfl, rfl, rfl, by simp only; omega⟩
      obtain ⟨v', az', fr', r, ts⟩ := u
      simp only at u1 u2 u3
      subst u1 u2
      simp only [f66_1]
      rw [if_pos (by omega), e, bS, app_fits (by simp; omega), bS, w64_succ (by omega)]
      refine ⟨_, rfl, by simp; omega, fun a ha => ?_, g3, rfl⟩
      rcases List.mem_append.1 ha with ha | ha
      · exact g2 a ha
      · rw [List.mem_singleton] at ha
        subst ha; exact u3
    · obtain ⟨v, az, fr, k⟩ := t
      simp only at g1 g2 g3 g4
      subst g4
      simp only [f66_1]
      rw [if_neg (by omega)]
      exact ⟨_, rfl, by simp only; omega, fun a ha => by have := g2 a ha; omega, by simp only; omega⟩
  obtain ⟨v2, as2, fr2⟩ := t2
  simp only at b2 ⊢
  refine Ens.bind (fmtOk hl hn b2) fun o3 h3 => ?_
  refine Ens.ite (fun _ => Ens.of fun h => by cases h) fun he => Ens.of fun _ => ?_
  simp only [ne_eq, Classical.not_not] at he
  exact vq_qs (h3 (by rw [he]; exact h0))
end
section
def sg (a b : Int) : List Relation := [⟨[114], 2, 1⟩, ⟨[115], 2, 1⟩, ⟨[116], 2, a⟩, ⟨[117], 3, b⟩]
def q0 : Query := ⟨3, [⟨0, [0, 1]⟩, ⟨1, [1, 2]⟩], []⟩
def s0 : List UInt8 := [63, 114, 120, 124, 121, 32, 115, 121, 124, 122]
variable {a b : Int}
theorem cutA : f108 s0 63 = some [[], [114, 120, 124, 121, 32, 115, 121, 124, 122]] := by
 unfold f108
 rw [iter_of (f := f108_0 s0 63) (n := 12) (r := ([[]], 1)) (by decide)]
 rfl
theorem cutB : f108 [114, 120, 124, 121, 32, 115, 121, 124, 122] 32 = some [[114, 120, 124, 121], [115, 121, 124, 122]] := by
 unfold f108
 rw [iter_of (f := f108_0 [114, 120, 124, 121, 32, 115, 121, 124, 122] 32) (n := 12) (r := ([[114, 120, 124, 121]], 5)) (by decide)]
 rfl
theorem ri0 : f110 (sg a b) [114] = some 0 := by
 unfold f110
 rw [iter_of (f := f110_0 (sg a b) [114]) (n := 3) (r := .inr 0) (by rfl)]
 rfl
theorem ri1 : f110 (sg a b) [115] = some 1 := by
 unfold f110
 rw [iter_of (f := f110_0 (sg a b) [115]) (n := 3) (r := .inr 1) (by rfl)]
 rfl
section
variable {l : List Relation} {o : List (List UInt8)} {i : Nat} {w : List UInt8} {v : Int} {az : List Atom} {fr ts : List Int} {r : Int} {j : Nat}
theorem stp0 (hw : ix o (i : Int) = some w) (hj : 0 < w.length) {x : Int} (hx : f110 l (w.take 1) = some x) : f66_2 l o (i : Int) (v, az, fr, r, ts, 0) = some (.inl (v, az, fr, x, ts, 1)) := by
 simp only [f66_2]
 rw [hw, bS, if_pos (by omega), if_pos trivial, cutL_ok (by omega) (by omega) (by omega), bS]
 have : (w.take (1 : Int).toNat).drop (0 : Int).toNat = w.take 1 := by simp
 rw [this, hx]; rfl
theorem stpB (hw : ix o (i : Int) = some w) (hj : j < w.length) (h0 : j ≠ 0) (hc : w[j] = 124) (hl : j < 1000) : f66_2 l o (i : Int) (v, az, fr, r, ts, (j : Int)) = some (.inl (v, az, fr, r, ts, ((j + 1 : Nat) : Int))) := by
 simp only [f66_2]
 rw [hw, bS, if_pos (by omega), if_neg (by omega), ix_nat hj, bS, hc, if_pos (by decide), w64_succ (by omega)]; rfl
theorem stpT (hw : ix o (i : Int) = some w) (hj : j < w.length) (h0 : j ≠ 0) (hc : (w[j].toNat : Int) ≠ 124) (hl : j < 1000) (ht : ts.length < 1000) : f66_2 l o (i : Int) (v, az, fr, r, ts, (j : Int)) = some (.inl (if (ptm [w[j]]).1 + 1 > v then (ptm [w[j]]).1 + 1 else v, az, fr, r, ts ++ [(ptm [w[j]]).1], ((j + 1 : Nat) : Int))) := by
 have hr := ptm_rng (s := [w[j]])
 simp only [f66_2]
 rw [hw, bS, if_pos (by omega), if_neg (by omega), ix_nat hj, bS, if_neg hc, w64_succ (by omega), cutL_ok (by omega) (by omega) (by omega), bS]
 have : (w.take ((j + 1 : Nat) : Int).toNat).drop ((j : Nat) : Int).toNat = [w[j]] := by
  simp only [Int.toNat_natCast]
  rw [List.drop_take, show j + 1 - j = 1 by omega, List.drop_eq_getElem_cons hj]; rfl
 rw [this, pterm, bS, app_fits (by simp; omega), bS, w64_of (by omega)]; rfl
theorem stpE (hw : ix o (i : Int) = some w) : f66_2 l o (i : Int) (v, az, fr, r, ts, (w.length : Int)) = some (.inr (v, az, fr, r, ts)) := by
 simp only [f66_2]
 rw [hw, bS, if_neg (by omega)]
end
theorem wordA {az : List Atom} : iter (f66_2 (sg a b) [[114, 120, 124, 121], [115, 121, 124, 122]] 0) (0, az, [], 0, [], 0) = some (2, az, [], 0, [0, 1]) := by
 have hw : ix [[114, 120, 124, 121], [115, 121, 124, (122 : UInt8)]] ((0 : Nat) : Int) = some [114, 120, 124, 121] := rfl
 have e1 := stp0 (l := sg a b) (v := 0) (az := az) (fr := []) (r := 0) (ts := []) hw (by decide) ri0
 have e2 := stpT (l := sg a b) (v := 0) (az := az) (fr := []) (r := 0) (ts := []) (j := 1) hw (by decide) (by decide) (by decide) (by decide) (by decide)
 have e3 := stpB (l := sg a b) (v := 1) (az := az) (fr := []) (r := 0) (ts := [0]) (j := 2) hw (by decide) (by decide) (by decide) (by decide)
 have e4 := stpT (l := sg a b) (v := 1) (az := az) (fr := []) (r := 0) (ts := [0]) (j := 3) hw (by decide) (by decide) (by decide) (by decide) (by decide)
 have e5 := stpE (l := sg a b) (v := 2) (az := az) (fr := []) (r := 0) (ts := [0, 1]) hw
 rw [iter_eq]; erw [e1]; dsimp only
 rw [iter_eq]; erw [e2]; dsimp only
 rw [iter_eq]; erw [e3]; dsimp only
 rw [iter_eq]; erw [e4]; dsimp only
 rw [iter_eq]; erw [e5]
theorem wordB {az : List Atom} : iter (f66_2 (sg a b) [[114, 120, 124, 121], [115, 121, 124, 122]] 1) (2, az, [], 0, [], 0) = some (3, az, [], 1, [1, 2]) := by
 have hw : ix [[114, 120, 124, 121], [115, 121, 124, (122 : UInt8)]] ((1 : Nat) : Int) = some [115, 121, 124, 122] := rfl
 have e1 := stp0 (l := sg a b) (v := 2) (az := az) (fr := []) (r := 0) (ts := []) hw (by decide) ri1
 have e2 := stpT (l := sg a b) (v := 2) (az := az) (fr := []) (r := 1) (ts := []) (j := 1) hw (by decide) (by decide) (by decide) (by decide) (by decide)
 have e3 := stpB (l := sg a b) (v := 2) (az := az) (fr := []) (r := 1) (ts := [1]) (j := 2) hw (by decide) (by decide) (by decide) (by decide)
 have e4 := stpT (l := sg a b) (v := 2) (az := az) (fr := []) (r := 1) (ts := [1]) (j := 3) hw (by decide) (by decide) (by decide) (by decide) (by decide)
 have e5 := stpE (l := sg a b) (v := 3) (az := az) (fr := []) (r := 1) (ts := [1, 2]) hw
 rw [iter_eq]; erw [e1]; dsimp only
 rw [iter_eq]; erw [e2]; dsimp only
 rw [iter_eq]; erw [e3]; dsimp only
 rw [iter_eq]; erw [e4]; dsimp only
 rw [iter_eq]; erw [e5]
theorem q0_v (ha : a = 0 ∨ a = 1 ∨ a = 2) (hb : b = 1 ∨ b = 2) : vQuery (sg a b) q0 = true := by
 rcases ha with rfl | rfl | rfl <;> rcases hb with rfl | rfl <;> decide
end
section
variable {a b : Int}
theorem stpA {l : List Relation} {at_ : Atom} {i : Nat} {x : Relation} {s : List UInt8} (hi : i < at_.Terms.length) (hx : ix l at_.Relation = some x) (ht : -1000 ≤ at_.Terms[i] ∧ at_.Terms[i] ≤ 1000) (hs : s.length ≤ 300) (hil : i < 1000) :
  f153_0 l at_ (s, (i : Int)) = some (.inl ((if (i : Int) = x.KeyLength then s ++ [124] else s) ++ ftm at_.Terms[i], ((i + 1 : Nat) : Int))) := by
 have hf := ftm_len (t := at_.Terms[i])
 simp only [f153_0]
 rw [if_pos (by omega), hx, bS, w64_succ (by omega), ix_nat hi]
 by_cases c : (i : Int) = x.KeyLength
 ·rw [if_pos c, if_pos c, cat_ok (by simp; omega), bS, bS, bS, fterm ht.1 ht.2, bS, cat_ok (by simp; omega)]; rfl
 ·rw [if_neg c, if_neg c, bS, bS, fterm ht.1 ht.2, bS, cat_ok (by omega)]; rfl
theorem atomA : f153 (sg a b) ⟨0, [0, 1]⟩ = some [114, 120, 124, 121] := by
 unfold f153
 have hx : ix (sg a b) 0 = some ⟨[114], 2, 1⟩ := rfl
 have e1 := stpA (l := sg a b) (at_ := ⟨0, [0, 1]⟩) (i := 0) (s := [114]) (by decide) hx (by decide) (by decide) (by decide)
 have e2 := stpA (l := sg a b) (at_ := ⟨0, [0, 1]⟩) (i := 1) (s := [114, 120]) (by decide) hx (by decide) (by decide) (by decide)
 have e3 : f153_0 (sg a b) ⟨0, [0, 1]⟩ ([114, 120, 124, 121], 2) = some (.inr [114, 120, 124, 121]) := rfl
 have it : iter (f153_0 (sg a b) ⟨0, [0, 1]⟩) ([114], 0) = some [114, 120, 124, 121] := by
  rw [iter_eq]; erw [e1]; dsimp only
  rw [iter_eq]; erw [e2]; dsimp only
  rw [iter_eq]; erw [e3]
 show ((ix (sg a b) 0).bind fun v => (iter (f153_0 (sg a b) ⟨0, [0, 1]⟩) (v.Name, 0)).bind fun s => some s) = _
 rw [hx, bS, it]; rfl
theorem atomB : f153 (sg a b) ⟨1, [1, 2]⟩ = some [115, 121, 124, 122] := by
 unfold f153
 have hx : ix (sg a b) 1 = some ⟨[115], 2, 1⟩ := rfl
 have e1 := stpA (l := sg a b) (at_ := ⟨1, [1, 2]⟩) (i := 0) (s := [115]) (by decide) hx (by decide) (by decide) (by decide)
 have e2 := stpA (l := sg a b) (at_ := ⟨1, [1, 2]⟩) (i := 1) (s := [115, 121]) (by decide) hx (by decide) (by decide) (by decide)
 have e3 : f153_0 (sg a b) ⟨1, [1, 2]⟩ ([115, 121, 124, 122], 2) = some (.inr [115, 121, 124, 122]) := rfl
 have it : iter (f153_0 (sg a b) ⟨1, [1, 2]⟩) ([115], 0) = some [115, 121, 124, 122] := by
  rw [iter_eq]; erw [e1]; dsimp only
  rw [iter_eq]; erw [e2]; dsimp only
  rw [iter_eq]; erw [e3]
 show ((ix (sg a b) 1).bind fun v => (iter (f153_0 (sg a b) ⟨1, [1, 2]⟩) (v.Name, 0)).bind fun s => some s) = _
 rw [hx, bS, it]; rfl
theorem fmtQ0 (ha : a = 0 ∨ a = 1 ∨ a = 2) (hb : b = 1 ∨ b = 2) : f111 (sg a b) q0 = some s0 := by
 unfold f111
 rw [specQ (by simp [sg]) (QM.fits ⟨by simp [q0], by simp [q0], by simp [q0]⟩), q0_v ha hb, bS, if_neg (by simp)]
 rw [iter_of (f := f111_0 q0) (n := 1) (r := []) (by rfl), bS, cat_ok (by decide), bS]
 have e1 : f111_1 (sg a b) q0 ([63], 0) = some (.inl ([63, 114, 120, 124, 121], 1)) := by
  show ((Option.bind (some [63]) fun s_26 => (ix q0.Atoms 0).bind fun v_27 => (f153 (sg a b) v_27).bind fun o29 => (cat s_26 o29).bind fun s_31 => some (Sum.inl (s_31, w64 (0 + 1))))) = _
  show ((f153 (sg a b) ⟨0, [0, 1]⟩).bind fun o29 => (cat [63] o29).bind fun s_31 => some (Sum.inl (s_31, w64 (0 + 1)))) = _
  rw [atomA]; rfl
 have e2 : f111_1 (sg a b) q0 ([63, 114, 120, 124, 121], 1) = some (.inl (s0, 2)) := by
  show ((f153 (sg a b) ⟨1, [1, 2]⟩).bind fun o29 => (cat [63, 114, 120, 124, 121, 32] o29).bind fun s_31 => some (Sum.inl (s_31, w64 (1 + 1)))) = _
  rw [atomB]; rfl
 have e3 : f111_1 (sg a b) q0 (s0, 2) = some (.inr s0) := rfl
 have it : iter (f111_1 (sg a b) q0) ([63], 0) = some s0 := by
  rw [iter_eq, e1]; dsimp only
  rw [iter_eq, e2]; dsimp only
  rw [iter_eq, e3]
 erw [it]; rfl
theorem parseQ0 (ha : a = 0 ∨ a = 1 ∨ a = 2) (hb : b = 1 ∨ b = 2) : f66 (sg a b) s0 = some (q0, true) := by
 unfold f66
 rw [cutA, bS, if_neg (by decide)]
 rw [iter_of (f := f66_0 [[], [114, 120, 124, 121, 32, 115, 121, 124, 122]]) (n := 1) (r := (0, [], [])) (by rfl), bS]
 dsimp only
 rw [show ix [[], [114, 120, 124, 121, 32, 115, 121, 124, (122 : UInt8)]] 1 = some [114, 120, 124, 121, 32, 115, 121, 124, 122] from rfl, bS, cutB, bS]
 have e1 : f66_1 (sg a b) [[114, 120, 124, 121], [115, 121, 124, 122]] (0, [], [], 0) = some (.inl (2, [⟨0, [0, 1]⟩], [], 1)) := by
  show ((iter (f66_2 (sg a b) [[114, 120, 124, 121], [115, 121, 124, 122]] 0) (0, [], [], 0, [], 0)).bind fun (q_61, q_62, q_63, a_64, a_65) => (app 32 q_62 ([({ Relation := a_64, Terms := a_65 } : Atom)])).bind fun l_66 => some (Sum.inl (q_61, l_66, q_63, w64 (0 + 1)))) = _
  rw [wordA]; rfl
 have e2 : f66_1 (sg a b) [[114, 120, 124, 121], [115, 121, 124, 122]] (2, [⟨0, [0, 1]⟩], [], 1) = some (.inl (3, q0.Atoms, [], 2)) := by
  show ((iter (f66_2 (sg a b) [[114, 120, 124, 121], [115, 121, 124, 122]] 1) (2, [⟨0, [0, 1]⟩], [], 0, [], 0)).bind fun (q_61, q_62, q_63, a_64, a_65) => (app 32 q_62 ([({ Relation := a_64, Terms := a_65 } : Atom)])).bind fun l_66 => some (Sum.inl (q_61, l_66, q_63, w64 (1 + 1)))) = _
  rw [wordB]; rfl
 have e3 : f66_1 (sg a b) [[114, 120, 124, 121], [115, 121, 124, 122]] (3, q0.Atoms, [], 2) = some (.inr (3, q0.Atoms, [])) := rfl
 have it : iter (f66_1 (sg a b) [[114, 120, 124, 121], [115, 121, 124, 122]]) (0, [], [], 0) = some (3, q0.Atoms, []) := by
  rw [iter_eq, e1]; dsimp only
  rw [iter_eq, e2]; dsimp only
  rw [iter_eq, e3]
 rw [it, bS]
 show (f111 (sg a b) q0).bind _ = _
 rw [fmtQ0 ha hb, bS, if_neg (by simp)]; rfl
end
section
theorem copyQ {q : Query} (h : QM q) : f105 q = some q := by
 unfold f105
 have h1 := h.1
 have h3 := h.2.2
 rw [app_fits (by simp; omega), bS, List.nil_append]
 have it := iter_steps (f := f105_0 q) (fun i => (q.VariableCount, q.Atoms.take i, q.Free, (i : Int))) q.Atoms.length (q.VariableCount, q.Atoms, q.Free) (fun i hi => by
  have h2 := h.2.1 _ (List.getElem_mem hi)
  simp only [f105_0]
  rw [if_pos (by omega), ix_nat hi, bS, app_fits (by simp; omega), bS, app_fits (by simp; omega), bS, w64_succ (by omega), take_succ' hi]
  simp) (by
  simp only [f105_0]
  rw [if_neg (by omega), List.take_of_length_le (Nat.le_refl _)])
 simp only [List.take_zero, Int.natCast_zero, Int.ofNat_zero] at it
 erw [it]
 rfl
theorem onceB {c : L1Cur} {n : Int} (h : Cur c) : Ens (f21 c n) fun r => Cur r.2 := onceOk h
def lens (l : List Atom) : List Nat := l.map (·.Terms.length)
theorem lens_set {l : List Atom} {i : Nat} {x : Atom} (hi : i < l.length) (h : x.Terms.length = l[i].Terms.length) : lens (l.set i x) = lens l := by
 unfold lens
 rw [List.map_set]
 apply List.ext_getElem
 ·simp
 ·intro j h1 h2
  rw [List.getElem_set]
  split
  ·rename_i e; subst e; simp [h]
  ·rfl
theorem lens_get {l m : List Atom} (h : lens l = lens m) {i : Nat} (hi : i < m.length) : ∃ hl : i < l.length, l[i].Terms.length = m[i].Terms.length := by
 have hl : l.length = m.length := by have := congrArg List.length h; simpa [lens] using this
 refine ⟨by omega, ?_⟩
 have := congrArg (fun z => z[i]?) h
 simp only [lens, List.getElem?_map] at this
 rw [zE (by omega), zE hi] at this
 exact Option.some.inj this
theorem seek {name : List Int} {v : Int} (h : name.length ≤ 2000) : Ens (iter (f144_2 name v) (-1, 0)) fun r => -1 ≤ r ∧ r < name.length := by
 refine iter_up (f := f144_2 name v) name.length (fun i s => -1 ≤ s.1 ∧ s.1 < name.length ∧ s.2 = (i : Int)) _ (fun i s hi ⟨g1, g2, g3⟩ => ?_) (fun s ⟨g1, g2, g3⟩ => ?_) (-1, 0) ⟨by simp, by simp only; omega, rfl⟩
 ·obtain ⟨x, k⟩ := s
  simp only at g1 g2 g3
  subst g3
  simp only [f144_2]
  rw [if_pos (by omega), ix_nat hi, bS, w64_succ (by omega)]
  by_cases c : name[i] = v
  ·rw [if_pos c, bS]; exact ⟨_, rfl, by simp only; omega, by simp only; omega, rfl⟩
  ·rw [if_neg c, bS]; exact ⟨_, rfl, g1, g2, rfl⟩
 ·obtain ⟨x, k⟩ := s
  simp only at g1 g2 g3
  subst g3
  simp only [f144_2]
  rw [if_neg (by omega)]; exact ⟨_, rfl, g1, g2⟩
theorem tightOk {q : Query} (h : q.Atoms.length ≤ 3) (ht : ∀ a ∈ q.Atoms, a.Terms.length ≤ 3) (hfr : q.Free.length ≤ 20) : Ens (f144 q) fun r => lens r.Atoms = lens q.Atoms ∧ r.Free = q.Free ∧ 0 ≤ r.VariableCount ∧ r.VariableCount ≤ 20 := by
 unfold f144
 rw [copyQ ⟨by omega, fun a ha => by have := ht a ha; omega, by omega⟩, bS]
 refine Ens.bind (Q := fun s : Int × List Atom × List Int × List Int => lens s.2.1 = lens q.Atoms ∧ s.2.2.1 = q.Free ∧ s.2.2.2.length ≤ 20) ?_ fun s hs => ?_
 ·refine iter_up (f := f144_0) q.Atoms.length (fun i s => lens s.2.1 = lens q.Atoms ∧ s.2.2.1 = q.Free ∧ s.2.2.2.1.length ≤ 3 * i ∧ s.2.2.2.2 = (i : Int)) _ (fun i s hi ⟨g1, g2, g3, g4⟩ => ?_) (fun s ⟨g1, g2, g3, g4⟩ => ?_) (q.VariableCount, q.Atoms, q.Free, [], 0) ⟨rfl, rfl, by simp, rfl⟩
  ·obtain ⟨v, xs, fr, nm, k⟩ := s
   simp only at g1 g2 g3 g4
   subst g4
   have hq3 := ht _ (List.getElem_mem hi)
   have hxl : xs.length = q.Atoms.length := by have := congrArg List.length g1; simpa [lens] using this
   obtain ⟨u, e, u1, u2, u3⟩ : Ens (iter (f144_1 (i : Int)) (v, xs, fr, nm, 0)) fun u => lens u.2.1 = lens q.Atoms ∧ u.2.2.1 = q.Free ∧ u.2.2.2.length ≤ nm.length + 3 := by
    refine iter_up (f := f144_1 (i : Int)) q.Atoms[i].Terms.length (fun j u => lens u.2.1 = lens q.Atoms ∧ u.2.2.1 = q.Free ∧ u.2.2.2.1.length ≤ nm.length + j ∧ u.2.2.2.2 = (j : Int)) _ (fun j u hj ⟨k1, k2, k3, k4⟩ => ?_) (fun u ⟨k1, k2, k3, k4⟩ => ?_) (v, xs, fr, nm, 0) ⟨g1, g2, by simp, rfl⟩
    ·obtain ⟨v', xs', fr', nm', m⟩ := u
     simp only at k1 k2 k3 k4
     subst k4
     obtain ⟨hl1, hl2⟩ := lens_get k1 hi
     simp only [f144_1]
     rw [ix_nat hl1, bS, if_pos (by omega), ix_nat (by omega), w64_succ (by omega)]
     simp only [bS]
     by_cases c : xs'[i].Terms[j] < 0
     ·rw [if_pos c, bS]
      exact ⟨_, rfl, k1, k2, by simp only; omega, rfl⟩
     ·obtain ⟨z, z1, z2, z3⟩ := seek (name := nm') (v := xs'[i].Terms[j]) (by omega)
      rw [if_neg c, z1, bS]
      obtain ⟨y, y1, y2⟩ : Ens (if z < 0 then (app 8 nm' ([xs'[i].Terms[j]])).bind fun l_37 => some (l_37, (nm'.length : Int)) else some (nm', z)) fun y => y.1.length ≤ nm'.length + 1 := by
       refine Ens.ite (fun _ => ?_) fun _ => Ens.of (by simp only; omega)
       rw [app_fits (by simp; omega), bS]
       exact Ens.of (by simp)
      rw [y1, bS, bS]
      refine ⟨_, rfl, ?_, k2, by simp only; omega, rfl⟩
      simp only [Int.toNat_natCast]
      rw [lens_set hl1 (by simp)]; exact k1
    ·obtain ⟨v', xs', fr', nm', m⟩ := u
     simp only at k1 k2 k3 k4
     subst k4
     obtain ⟨hl1, hl2⟩ := lens_get k1 hi
     simp only [f144_1]
     rw [ix_nat hl1, bS, if_neg (by omega)]
     exact ⟨_, rfl, k1, k2, by simp only; omega⟩
   obtain ⟨uv, uxs, ufr, unm⟩ := u
   simp only at u1 u2 u3
   simp only [f144_0]
   rw [if_pos (by omega), e, bS, w64_succ (by omega)]
   exact ⟨_, rfl, u1, u2, by simp only; omega, rfl⟩
  ·obtain ⟨v, xs, fr, nm, k⟩ := s
   simp only at g1 g2 g3 g4
   subst g4
   have hxl : xs.length = q.Atoms.length := by have := congrArg List.length g1; simpa [lens] using this
   simp only [f144_0]
   rw [if_neg (by omega)]
   exact ⟨_, rfl, g1, g2, by simp only; omega⟩
 ·obtain ⟨v, xs, fr, nm⟩ := s
  simp only at hs ⊢
  exact Ens.of ⟨hs.1, hs.2.1, by simp only; omega, by simp only; omega⟩
theorem queryOk {c : L1Cur} (h : Cur c) : Ens (f102 c) fun r => QS r.1 ∧ Cur r.2 := by
  unfold f102
  refine Ens.bind (belowOk h) fun o1 h1 => ?_
  refine Ens.bind (belowOk h1.2.2.2) fun o3 h3 => ?_
  refine Ens.bind (belowOk h3.2.2.2) fun o5 h5 => ?_
  have a1 := h1.2.2.1 (by decide)
  have a5 := h5.2.2.1 (by decide)
  have a10 := h1.1
  have a50 := h5.1
  obtain ⟨n, hn⟩ : ∃ n : Nat, 1 + o1.1 = n := ⟨(1 + o1.1).toNat, by omega⟩
  refine Ens.bind (Q := fun s : List Int × Int × Int × Int × List Atom × List Int => Cur ⟨s.1, s.2.1, s.2.2.1⟩ ∧ s.2.2.2.2.1.length = n ∧ (∀ a ∈ s.2.2.2.2.1, 2 ≤ a.Terms.length ∧ a.Terms.length ≤ 3) ∧ s.2.2.2.2.2 = []) ?_ fun s hs => ?_
  · refine iter_up (f := f102_0 o1 o3 o5) n (fun i s => Cur ⟨s.1, s.2.1, s.2.2.1⟩ ∧ s.2.2.2.2.1.length = i ∧ (∀ a ∈ s.2.2.2.2.1, 2 ≤ a.Terms.length ∧ a.Terms.length ≤ 3) ∧ s.2.2.2.2.2.1 = [] ∧ s.2.2.2.2.2.2 = (i : Int)) _ (fun i s hi ⟨g1, g2, g3, g4, g5⟩ => ?_) (fun s ⟨g1, g2, g3, g4, g5⟩ => ?_) (o5.2.b, o5.2.i, o5.2.h, 0, [], [], 0) ⟨h5.2.2.2, rfl, by simp, rfl, rfl⟩
    · obtain ⟨cb, ci, ch, v, az, fr, k⟩ := s
      simp only at g1 g2 g3 g4 g5
      subst g4 g5
      have hr : 0 ≤ (o5.1 + (i : Int)).tmod 4 ∧ (o5.1 + (i : Int)).tmod 4 < 4 := tmod_lt (by omega) (by decide)
      have hm : 0 ≤ ((o5.1 + (i : Int)).tmod 4).tdiv 3 ∧ ((o5.1 + (i : Int)).tmod 4).tdiv 3 ≤ 1 := by
        rw [Int.tdiv_eq_ediv_of_nonneg hr.1]; omega
      obtain ⟨p, hp⟩ : ∃ p : Nat, 2 + ((o5.1 + (i : Int)).tmod 4).tdiv 3 = p := ⟨(2 + ((o5.1 + (i : Int)).tmod 4).tdiv 3).toNat, by omega⟩
      simp only [f102_0]
      rw [w64_of (n := 1 + o1.1) (by omega), if_pos (by omega), w64_of (n := o5.1 + (i : Int)) (by omega), w64_of (n := ((o5.1 + (i : Int)).tmod 4).tdiv 3) (by omega), w64_of (n := 2 + ((o5.1 + (i : Int)).tmod 4).tdiv 3) (by omega), hp]
      obtain ⟨u, e, u1, u2⟩ : Ens (iter (f102_1 o3) (cb, ci, ch, (o5.1 + (i : Int)).tmod 4, [], (p : Int))) fun u => Cur ⟨u.1, u.2.1, u.2.2.1⟩ ∧ u.2.2.2.2.length = p := by
        refine iter_up (f := f102_1 o3) p (fun j u => Cur ⟨u.1, u.2.1, u.2.2.1⟩ ∧ u.2.2.2.2.1.length = j ∧ u.2.2.2.2.2 = ((p - j : Nat) : Int)) _ (fun j u hj ⟨k1, k2, k3⟩ => ?_) (fun u ⟨k1, k2, k3⟩ => ?_) _ ⟨g1, rfl, rfl⟩
        · obtain ⟨b, x, y, r, ts, m⟩ := u
          simp only at k1 k2 k3
          subst k3
          simp only [f102_1]
          rw [if_pos (by omega)]
          obtain ⟨z, z1, z2⟩ := onceB (n := 12) k1
          rw [z1, bS]
          obtain ⟨t, t1, t2, t3⟩ : Ens (if z.1 = true then (f20 z.2 2).bind fun o27 => (app 8 ts ([w64 ((-1) - o27.1)])).bind fun l_29 => some (o27.2.b, o27.2.i, o27.2.h, l_29)
              else (f20 z.2 (w64 (1 + o3.1))).bind fun o31 => (app 8 ts ([o31.1])).bind fun l_33 => some (o31.2.b, o31.2.i, o31.2.h, l_33)) fun t => Cur ⟨t.1, t.2.1, t.2.2.1⟩ ∧ t.2.2.2.length = j + 1 := by
            refine Ens.ite (fun _ => ?_) fun _ => ?_
            · refine Ens.bind (belowOk z2) fun o ho => ?_
              rw [app_fits (by simp; omega), bS]
              exact Ens.of ⟨ho.2.2.2, by simp; omega⟩
            · refine Ens.bind (belowOk z2) fun o ho => ?_
              rw [app_fits (by simp; omega), bS]
              exact Ens.of ⟨ho.2.2.2, by simp; omega⟩
          rw [t1, bS, w64_of (by omega)]
          exact ⟨_, rfl, t2, t3, by simp only; omega⟩
        · obtain ⟨b, x, y, r, ts, m⟩ := u
          simp only at k1 k2 k3
          subst k3
          simp only [f102_1]
          rw [if_neg (by omega)]
          exact ⟨_, rfl, k1, k2⟩
      obtain ⟨b, x, y, r, ts⟩ := u
      simp only at u1 u2
      rw [e, bS, app_fits (by simp; omega), bS, w64_succ (by omega)]
      refine ⟨_, rfl, u1, by simp; omega, fun a ha => ?_, rfl, rfl⟩
      rcases List.mem_append.1 ha with ha | ha
      · exact g3 a ha
      · rw [List.mem_singleton] at ha
        subst ha
        simp only; omega
    · obtain ⟨cb, ci, ch, v, az, fr, k⟩ := s
      simp only at g1 g2 g3 g4 g5
      subst g4 g5
      simp only [f102_0]
      rw [w64_of (n := 1 + o1.1) (by omega), if_neg (by omega)]
      exact ⟨_, rfl, g1, g2, g3, rfl⟩
  · obtain ⟨cb, ci, ch, v, az, fr⟩ := s
    simp only at hs ⊢
    obtain ⟨s1, s2, s3, s4⟩ := hs
    subst s4
    refine Ens.bind (tightOk (q := ⟨v, az, []⟩) (by simp only; omega) (fun a ha => (s3 a ha).2) (by simp)) fun r ⟨r1, r2, r3, r4⟩ => Ens.of ⟨?_, s1⟩
    show QS r
    have hrl : r.Atoms.length = az.length := by have := congrArg List.length r1; simpa [lens] using this
    refine ⟨by omega, by omega, fun a ha => ?_, by rw [r2]; simp, r3, r4⟩
    obtain ⟨k, hk, rfl⟩ := List.getElem_of_mem ha
    obtain ⟨hl1, hl2⟩ := lens_get (l := r.Atoms) (m := az) r1 (i := k) (by omega)
    have := s3 az[k] (List.getElem_mem _)
    omega
end
section
def SigsG (l : List Relation) : Prop := ∃ a b : Int, l = sg a b ∧ (a = 0 ∨ a = 1 ∨ a = 2) ∧ (b = 1 ∨ b = 2)
theorem SigsG.small {l : List Relation} (h : SigsG l) : l.length = 4 ∧ ∀ x ∈ l, x.Name.length ≤ 100 := by
 obtain ⟨a, b, rfl, _⟩ := h
 refine ⟨rfl, fun x hx => ?_⟩
 simp only [sg, List.mem_cons, List.not_mem_nil, or_false] at hx
 rcases hx with rfl | rfl | rfl | rfl <;> simp
theorem sigsG {c : L1Cur} (h : Cur c) : Ens (f23 c) fun r => SigsG r.1 ∧ Cur r.2 := by
 unfold f23
 refine Ens.bind (pickOk h (by simp)) fun o1 h1 => ?_
 refine Ens.bind (belowOk h1.2) fun o2 h2 => ?_
 have h3 := h2.2.2.1 (by decide)
 have h4 := h2.1
 refine Ens.of ⟨⟨o1.1, 1 + o2.1, ?_, ?_, by omega⟩, h2.2.2.2⟩
 ·rw [w64_of (by omega)]; rfl
 ·have := h1.1
  simp only [List.mem_cons, List.not_mem_nil, or_false] at this
  omega
theorem q0_qs : QS q0 := by
 refine ⟨by decide, by decide, fun a ha => ?_, by decide, by decide, by decide⟩
 simp only [q0, List.mem_cons, List.not_mem_nil, or_false] at ha
 rcases ha with rfl | rfl <;> decide
theorem knownOk {c : L1Cur} {l : List Relation} (h : Cur c) (hl : SigsG l) : Ens (f103 c l) fun r => QS r.1 ∧ Cur r.2 := by
 unfold f103
 refine Ens.bind (Q := fun r : List UInt8 × L1Cur => (r.1.length ≤ 20 ∧ r.1 ≠ []) ∧ Cur r.2) ?_ fun o1 h1 => ?_
 ·unfold f101
  refine Ens.bind (belowOk h) fun o ho => ?_
  have a1 := ho.1
  have a2 := ho.2.2.1 (by decide)
  rw [ix_of a1, zE (by omega), bS]
  refine Ens.of ⟨?_, ho.2.2.2⟩
  have all : ∀ x ∈ ([[63, 114, 120, 124, 121, 32, 115, 121, 124, 122], [63, 114, 120, 124, 121, 32, 115, 121, 124, 120], [63, 114, 120, 124, 121, 32, 115, 122, 124, 121], [63, 114, 120, 124, 121, 32, 115, 120, 124, 122], [63, 114, 120, 124, 49], [63, 114, 120, 124, 120], [63, 114, 120, 124, 121, 32, 115, 121, 124, 49], [63, 114, 120, 124, 121, 32, 115, 121, 124, 122, 32, 114], [63, 114, 120, 124, 121], [63, 114, 120, 124, 122, 32, 115, 121, 124, 122]] : List (List UInt8)), x.length ≤ 20 ∧ x ≠ [] := by decide
  exact all _ (List.getElem_mem _)
 obtain ⟨m1, m2⟩ := hl.small
 refine Ens.bind (parseOk (by omega) m2 h1.1.1 h1.1.2) fun o3 h3 => ?_
 refine Ens.bind (Q := fun r : Int × List Atom × List Int => QS ⟨r.1, r.2.1, r.2.2⟩) (Ens.ite (fun _ => ?_) fun hc => ?_) fun r hr => Ens.of ⟨hr, h1.2⟩
 ·obtain ⟨a, b, rfl, ha, hb⟩ := hl
  have := parseQ0 (a := a) (b := b) ha hb
  unfold s0 at this
  rw [this, bS]
  exact Ens.of q0_qs
 ·exact Ens.of (h3 (by simpa using hc))
def QB (q : Query) : Prop := q.Atoms.length ≤ 100 ∧ (∀ a ∈ q.Atoms, a.Terms.length ≤ 100) ∧ q.Free.length ≤ 100
theorem QB.fits {q : Query} (h : QB q) : FitsQ q := ⟨by have := h.1; omega, fun a ha => by have := h.2.1 a ha; omega, by have := h.2.2; omega⟩
theorem drawQ {c : L1Cur} {l : List Relation} (h : Cur c) (hl : SigsG l) : Ens (f64 c l) fun r => (1 ≤ r.1.Atoms.length ∧ r.1.Atoms.length ≤ 40 ∧ (∀ a ∈ r.1.Atoms, 1 ≤ a.Terms.length ∧ a.Terms.length ≤ 40) ∧ r.1.Free.length ≤ 40) ∧ Cur r.2 := by
 unfold f64
 refine Ens.bind (queryOk h) fun o1 h1 => ?_
 refine Ens.bind (onceB h1.2) fun o3 h3 => ?_
 refine Ens.bind (Q := fun s : List Int × Int × Int × Int × List Atom × List Int => QS ⟨s.2.2.2.1, s.2.2.2.2.1, s.2.2.2.2.2⟩ ∧ Cur ⟨s.1, s.2.1, s.2.2.1⟩) (Ens.ite (fun _ => ?_) fun _ => Ens.of ⟨h1.1, h3⟩) fun s hs => ?_
 ·exact Ens.bind (knownOk h3 hl) fun o ho => Ens.of ho
 obtain ⟨cb, ci, ch, v, az, fr⟩ := s
 simp only at hs ⊢
 obtain ⟨⟨q1, q2, q3, q4, q5, q6⟩, hc⟩ := hs
 simp only at q1 q2 q3 q4 q5 q6
 refine Ens.bind (onceB hc) fun o6 h6 => ?_
 refine Ens.bind (Q := fun s : List Int × Int × Int × Int × List Atom × List Int => s.2.2.2.2.1 = az ∧ s.2.2.2.2.2.length ≤ 40 ∧ Cur ⟨s.1, s.2.1, s.2.2.1⟩) (Ens.ite (fun _ => ?_) fun _ => Ens.of ⟨rfl, by simp only; omega, h6⟩) fun s hs => ?_
 ·refine Ens.bind (Q := fun s : List Int × Int × Int × Int × List Atom × List Int => s.2.2.2.2.1 = az ∧ s.2.2.2.2.2.length ≤ 40 ∧ Cur ⟨s.1, s.2.1, s.2.2.1⟩) ?_ fun s hs => Ens.of hs
  obtain ⟨n, hn⟩ : ∃ n : Nat, v = n := ⟨v.toNat, by omega⟩
  subst hn
  refine iter_up (f := f64_0) n (fun i s => s.2.2.2.1 = (n : Int) ∧ s.2.2.2.2.1 = az ∧ s.2.2.2.2.2.1.length ≤ 20 + i ∧ Cur ⟨s.1, s.2.1, s.2.2.1⟩ ∧ s.2.2.2.2.2.2 = (i : Int)) _ (fun i s hi ⟨g1, g2, g3, g4, g5⟩ => ?_) (fun s ⟨g1, g2, g3, g4, g5⟩ => ?_) _ ⟨rfl, rfl, by simp only; omega, h6, rfl⟩
  ·obtain ⟨b, x, y, v, az', fr', k⟩ := s
   simp only at g1 g2 g3 g4 g5
   subst g1 g2 g5
   simp only [f64_0]
   obtain ⟨z, z1, z2⟩ := onceB (n := 3) g4
   rw [if_pos (by omega), z1, bS, w64_succ (by omega)]
   obtain ⟨t, t1, t2⟩ : Ens (if z.1 = true then (app 8 fr' ([((i : Nat) : Int)])).bind fun l_34 => some l_34 else some fr') fun t => t.length ≤ fr'.length + 1 := by
    refine Ens.ite (fun _ => ?_) fun _ => Ens.of (by omega)
    rw [app_fits (by simp; omega), bS]
    exact Ens.of (by simp)
   rw [t1, bS]
   exact ⟨_, rfl, rfl, rfl, by simp only; omega, z2, rfl⟩
  ·obtain ⟨b, x, y, v, az', fr', k⟩ := s
   simp only at g1 g2 g3 g4 g5
   subst g1 g2 g5
   simp only [f64_0]
   rw [if_neg (by omega)]
   exact ⟨_, rfl, rfl, by simp only; omega, g4⟩
 obtain ⟨b, x, y, v', az', fr'⟩ := s
 simp only at hs ⊢
 obtain ⟨s1, s2, s3⟩ := hs
 subst s1
 exact Ens.of ⟨⟨q1, q2, q3, s2⟩, s3⟩
end
section
variable {n : Nat} {sk : Nat → Nat → Bool}
theorem blk_mem {i x : Nat} {j : Int} : j ∈ blk sk i x ↔ ∃ k : Nat, k < x ∧ j = k ∧ sk i k = true := by
 unfold blk
 rw [List.mem_flatMap]
 constructor
 ·rintro ⟨k, hk, h⟩
  split at h
  ·rename_i c
   exact ⟨k, List.mem_range.1 hk, by simpa using h, c⟩
  ·cases h
 ·rintro ⟨k, h1, h2, h3⟩
  exact ⟨k, List.mem_range.2 h1, by rw [if_pos h3]; simp [h2]⟩
theorem mem_blks {y x : Nat} {B : List Int} : B ∈ blks sk y x ↔ ∃ s, s < y ∧ start sk s = true ∧ B = blk sk s x := by
 unfold blks
 rw [List.mem_flatMap]
 constructor
 ·rintro ⟨k, hk, h⟩
  split at h
  ·rename_i c
   exact ⟨k, List.mem_range.1 hk, c, by simpa using h⟩
  ·cases h
 ·rintro ⟨k, h1, h2, h3⟩
  exact ⟨k, List.mem_range.2 h1, by rw [if_pos h2]; simp [h3]⟩
end
section
theorem SigsG.sigs {l : List Relation} (h : SigsG l) : Sigs l ∧ ∀ x ∈ l, 1 ≤ x.Arity := by
 obtain ⟨a, b, rfl, _⟩ := h
 refine ⟨⟨rfl, fun x hx => ?_⟩, fun x hx => ?_⟩
 all_goals
  simp only [sg, List.mem_cons, List.not_mem_nil, or_false] at hx
  rcases hx with rfl | rfl | rfl | rfl <;> simp
theorem factG {c : L1Cur} {l : List Relation} {v : Int} (h : Cur c) (hg : SigsG l) : Ens (f100 c l v) fun r => (1 ≤ r.1.Values.length ∧ r.1.Values.length ≤ 3) ∧ Cur r.2 := by
 obtain ⟨hl, hp⟩ := hg.sigs
 unfold f100
 refine Ens.bind (belowOk h) fun o1 h1 => ?_
 obtain ⟨a1, _, a2, a3⟩ := h1
 have a4 := a2 (by rw [hl.1]; decide)
 have hk : o1.1.toNat < l.length := by rw [hl.1] at a4 ⊢; omega
 have hp := hp _ (List.getElem_mem hk)
 refine Ens.bind (Q := fun s => (1 ≤ s.2.2.2.2.length ∧ s.2.2.2.2.length ≤ 3) ∧ Cur ⟨s.1, s.2.1, s.2.2.1⟩) ?_ fun s hs => Ens.of hs
 obtain ⟨o, e1, e2⟩ := iter_up (f := f100_0 l v) 3 (fun i s => Cur ⟨s.1, s.2.1, s.2.2.1⟩ ∧ s.2.2.2.1 = o1.1 ∧ s.2.2.2.2.length = i) (fun s => (1 ≤ s.2.2.2.2.length ∧ s.2.2.2.2.length ≤ 3) ∧ Cur ⟨s.1, s.2.1, s.2.2.1⟩) (fun i s hi ⟨g1, g2, g3⟩ => by
  obtain ⟨b, j, hh, r, vs⟩ := s
  simp only at g1 g2 g3
  subst g2
  simp only [f100_0]
  rw [ix_of a1, zE hk, bS]
  by_cases hc : (vs.length : Int) < l[o1.1.toNat].Arity
  ·rw [if_pos hc]
   obtain ⟨p, hp, hq⟩ := belowOk (n := v) g1
   rw [hp, bS, app_fits (by simp; omega), bS]
   exact ⟨_, rfl, hq.2.2.2, rfl, by simp; omega⟩
  ·rw [if_neg hc]
   exact ⟨_, rfl, ⟨by simp only; omega, by simp only; omega⟩, g1⟩) (fun s ⟨g1, g2, g3⟩ => by
  obtain ⟨b, j, hh, r, vs⟩ := s
  simp only at g1 g2 g3
  subst g2
  have := hl.2 _ (List.getElem_mem hk)
  simp only [f100_0]
  rw [ix_of a1, zE hk, bS, if_neg (by omega)]
  exact ⟨_, rfl, ⟨by simp only; omega, by simp only; omega⟩, g1⟩) (o1.2.b, o1.2.i, o1.2.h, o1.1, []) ⟨a3, rfl, rfl⟩
 exact ⟨o, e1, e2⟩
theorem insRel {d : Database} {f : Fact} {r : Database × Bool} (hf : Fits d) (h : f99 d f = some r) : r.1.Relations = d.Relations := by
 unfold f99 at h
 rw [copySpec hf, bS] at h
 obtain ⟨o3, _, h⟩ := Option.bind_eq_some_iff.1 h
 obtain ⟨x, _, h⟩ := Option.bind_eq_some_iff.1 h
 split at h
 ·cases h; rfl
 ·obtain ⟨_, _, h⟩ := Option.bind_eq_some_iff.1 h
  obtain ⟨_, _, h⟩ := Option.bind_eq_some_iff.1 h
  obtain ⟨_, _, h⟩ := Option.bind_eq_some_iff.1 h
  obtain ⟨_, _, h⟩ := Option.bind_eq_some_iff.1 h
  obtain ⟨_, _, h⟩ := Option.bind_eq_some_iff.1 h
  obtain ⟨_, _, h⟩ := Option.bind_eq_some_iff.1 h
  obtain ⟨_, _, h⟩ := Option.bind_eq_some_iff.1 h
  cases h; rfl
theorem dbG {c : L1Cur} (h : Cur c) : Ens (f60 c) fun r => (Tiny 12 r.1 ∧ SigsG r.1.Relations) ∧ Cur r.2 := by
 unfold f60
 refine Ens.bind (sigsG h) fun o1 h1 => ?_
 refine Ens.bind (pickOk h1.2 (by simp)) fun o3 h3 => ?_
 refine Ens.bind (belowOk h3.2) fun o5 h5 => ?_
 obtain ⟨a1, _, a2, a3⟩ := h5
 have a4 := a2 (by decide)
 rw [w64_of (by omega)]
 refine Ens.bind (Q := fun s => (Tiny 12 ⟨s.2.2.2.1, s.2.2.2.2⟩ ∧ SigsG s.2.2.2.1) ∧ Cur ⟨s.1, s.2.1, s.2.2.1⟩) ?_ fun s hs => Ens.of hs
 obtain ⟨n, hn⟩ : ∃ n : Nat, 2 + o5.1 = n := ⟨(2 + o5.1).toNat, by omega⟩
 rw [hn]
 refine iter_up (f := f60_0 o3) n (fun i s => Cur ⟨s.1, s.2.1, s.2.2.1⟩ ∧ (Tiny i ⟨s.2.2.2.1, s.2.2.2.2.1⟩ ∧ SigsG s.2.2.2.1) ∧ s.2.2.2.2.2 = ((n - i : Nat) : Int)) _ (fun i s hi ⟨g1, ⟨g2, gg⟩, g3⟩ => ?_) (fun s ⟨g1, ⟨g2, gg⟩, g3⟩ => ?_) (o5.2.b, o5.2.i, o5.2.h, o1.1, [], ((n : Nat) : Int)) ⟨a3, ⟨⟨h1.1.sigs.1, by simp, by simp⟩, h1.1⟩, rfl⟩
 ·obtain ⟨b, j, hh, rs, fs, k⟩ := s
  simp only at g1 g2 g3 gg
  subst g3
  simp only [f60_0]
  obtain ⟨p, hp, hq1, hq2⟩ := factOk (v := o3.1) g1 g2.1
  obtain ⟨r, hr, hr1⟩ := insOk g2 (by omega) hq1
  have hrel := insRel (g2.fits (by omega)) hr
  simp only at hrel
  rw [if_pos (by omega), hp, bS, hr, bS, w64_of (by omega)]
  exact ⟨_, rfl, hq2, ⟨hr1, by simp only; rw [hrel]; exact gg⟩, by simp only; omega⟩
 ·obtain ⟨b, j, hh, rs, fs, k⟩ := s
  simp only at g1 g2 g3 gg
  subst g3
  simp only [f60_0]
  rw [if_neg (by omega)]
  exact ⟨_, rfl, ⟨⟨g2.1, by have := g2.2.1; simp only at this ⊢; omega, g2.2.2⟩, gg⟩, g1⟩
def Sm (d : Database) : Prop := d.Relations.length ≤ 4 ∧ d.Facts.length ≤ 13 ∧ ∀ x ∈ d.Facts, x.Values.length ≤ 4
theorem Sm.fits {d : Database} (h : Sm d) : Fits d := ⟨by have := h.1; omega, by have := h.2.1; omega, fun x hx => by have := h.2.2 x hx; omega⟩
theorem Tiny.sm {d : Database} (h : Tiny 12 d) : Sm d := ⟨by have := h.1.1; omega, by have := h.2.1; omega, fun x hx => by have := h.2.2 x hx; omega⟩
theorem factAny {c : L1Cur} {l : List Relation} (h : Cur c) (hl : SigsG l) : Ens (f61 c l) fun r => r.1.Values.length ≤ 4 ∧ Cur r.2 := by
 unfold f61
 refine Ens.bind (factG h hl) fun o1 h1 => ?_
 refine Ens.bind (belowOk h1.2) fun o3 h3 => ?_
 have hc := h3.2.2.2
 obtain ⟨⟨v1, v3⟩, _⟩ := h1
 refine Ens.bind (Q := fun s : List Int × Int × Int × Int × List Int => s.2.2.2.2.length ≤ 4 ∧ Cur ⟨s.1, s.2.1, s.2.2.1⟩) (Ens.ite (fun _ => ?_) fun _ => ?_) fun s hs => Ens.of hs
 ·exact Ens.bind (belowOk hc) fun o ho => Ens.of ⟨by simp only; omega, ho.2.2.2⟩
 refine Ens.bind (Q := fun s : List Int × Int × Int × List Int => s.2.2.2.length ≤ 4 ∧ Cur ⟨s.1, s.2.1, s.2.2.1⟩) (Ens.ite (fun _ => ?_) fun _ => ?_) fun s hs => Ens.of hs
 ·rw [app_fits (by simp; omega), bS]
  exact Ens.of ⟨by simp; omega, hc⟩
 refine Ens.bind (Q := fun s : List Int × Int × Int × List Int => s.2.2.2.length ≤ 4 ∧ Cur ⟨s.1, s.2.1, s.2.2.1⟩) (Ens.ite (fun _ => ?_) fun _ => ?_) fun s hs => Ens.of hs
 ·refine Ens.bind (pickOk hc (by simp)) fun o ho => ?_
  have i0 : ix o1.1.Values 0 = some o1.1.Values[0] := ix_nat (i := 0) (by omega)
  rw [i0, bS]
  exact Ens.of ⟨by simp; omega, ho.2⟩
 ·exact Ens.of ⟨by simp only; omega, hc⟩
theorem pickS {c : L1Cur} {L : List (List UInt8)} (h : Cur c) (hl : 0 < L.length) (hb : L.length ≤ 1000) : Ens (f101 c L) fun r => Cur r.2 := by
 unfold f101
 refine Ens.bind (belowOk h) fun o ho => ?_
 have a1 := ho.1
 have a2 := ho.2.2.1 (by omega)
 rw [ix_of a1, zE (by omega), bS]
 exact Ens.of ho.2.2.2
theorem relAny {c : L1Cur} (h : Cur c) : Ens (f62 c) fun r => Cur r.2 := by
 unfold f62
 refine Ens.bind (pickS h (by simp) (by simp)) fun o1 h1 => ?_
 refine Ens.bind (belowOk h1) fun o3 h3 => ?_
 exact Ens.bind (belowOk h3.2.2.2) fun o5 h5 => Ens.of h5.2.2.2
theorem anyDb {c : L1Cur} (h : Cur c) : Ens (f19 c) fun r => Sm r.1 ∧ Cur r.2 := by
 unfold f19
 refine Ens.bind (dbG h) fun o1 ⟨⟨h1, hg⟩, hc1⟩ => ?_
 refine Ens.bind (belowOk hc1) fun o3 h3 => ?_
 have hc := h3.2.2.2
 have hs := h1.sm
 have h4 := h1.1.1
 have h12 := h1.2.1
 refine Ens.bind (Q := fun s : List Int × Int × Int × List Relation × List Fact => Sm ⟨s.2.2.2.1, s.2.2.2.2⟩ ∧ Cur ⟨s.1, s.2.1, s.2.2.1⟩) (Ens.ite (fun _ => ?_) fun _ => ?_) fun s hs => Ens.of hs
 ·refine Ens.bind (factAny hc hg) fun o ho => ?_
  rw [app_fits (by simp; omega), bS]
  refine Ens.of ⟨⟨hs.1, by simp; omega, fun x hx => ?_⟩, ho.2⟩
  rcases List.mem_append.1 hx with hx | hx
  ·exact hs.2.2 x hx
  ·rw [List.mem_singleton] at hx
   subst hx; exact ho.1
 refine Ens.bind (Q := fun s : List Int × Int × Int × List Relation × List Fact => Sm ⟨s.2.2.2.1, s.2.2.2.2⟩ ∧ Cur ⟨s.1, s.2.1, s.2.2.1⟩) (Ens.ite (fun _ => ?_) fun _ => ?_) fun s hs => Ens.of hs
 ·refine Ens.bind (belowOk hc) fun o ho => ?_
  have a1 := ho.1
  have a2 := ho.2.2.1 (by decide)
  rw [cutL_ok (by omega) a1 (by omega), bS]
  exact Ens.of ⟨⟨by simp only [List.length_drop, List.length_take]; omega, hs.2.1, hs.2.2⟩, ho.2.2.2⟩
 refine Ens.bind (Q := fun s : List Int × Int × Int × List Relation => Sm ⟨s.2.2.2, o1.1.Facts⟩ ∧ Cur ⟨s.1, s.2.1, s.2.2.1⟩) (Ens.ite (fun _ => ?_) fun _ => ?_) fun s hs => Ens.of hs
 ·refine Ens.bind (belowOk hc) fun o ho => ?_
  refine Ens.bind (relAny ho.2.2.2) fun o2 ho2 => ?_
  have a1 := ho.1
  have a2 := ho.2.2.1 (by decide)
  rw [ix_of a1, zE (by omega), bS]
  exact Ens.of ⟨⟨by simp only [List.length_set]; omega, hs.2.1, hs.2.2⟩, ho2⟩
 ·exact Ens.of ⟨hs, hc⟩
end
section
def none4 : Int → Bool := fun _ => false
def bl (n : Nat) (X : Int → Bool) : List Bool := (List.range n).map fun v => X ((v : Nat) : Int)
theorem bl_len {n : Nat} {X : Int → Bool} : (bl n X).length = n := by simp [bl]
theorem bl_get {n : Nat} {X : Int → Bool} {v : Nat} (h : v < n) : ix (bl n X) ((v : Nat) : Int) = some (X ((v : Nat) : Int)) := by
 rw [ix_nat (by rw [bl_len]; exact h)]; simp [bl]
theorem bl_congr {n : Nat} {X Y : Int → Bool} (h : ∀ v : Nat, v < n → X ((v : Nat) : Int) = Y ((v : Nat) : Int)) : bl n X = bl n Y := by
 unfold bl
 refine List.map_congr_left fun v hv => h v (List.mem_range.1 hv)
theorem bl_set {n : Nat} {X : Int → Bool} {b : Nat} : (bl n X).set b true = bl n (fun v => X v || decide (v = ((b : Nat) : Int))) := by
 apply List.ext_getElem
 ·simp [bl]
 ·intro i h1 h2
  rw [List.getElem_set]
  simp only [bl, List.getElem_map, List.getElem_range]
  by_cases e : b = i
  ·subst e; simp
  ·rw [if_neg e]
   have : ¬ ((i : Nat) : Int) = ((b : Nat) : Int) := by omega
   simp [this]
theorem bl_none {n : Nat} : List.replicate n false = bl n none4 := by
 unfold bl none4
 apply List.ext_getElem
 ·simp
 ·intro i h1 h2; simp
end
section
section
variable {l : List Relation} {q : Query}
structure VQy (l : List Relation) (q : Query) : Prop where
 big : Big l.length
 fits : FitsQ q
 rels : vRels l = true
 n1 : 1 ≤ q.Atoms.length
 n3 : q.Atoms.length ≤ 3
 terms : ∀ a ∈ q.Atoms, a.Terms.length ≤ 3
 free : In4 q.Free.contains
 free4 : q.Free.length ≤ 4
theorem asc_len4 {n : Int} {f : List Int} (h : asc n f = true) (hn : n ≤ 4) : In4 f.contains ∧ f.length ≤ 4 := by
 have hg := h
 unfold asc at hg
 have e : ∀ i (hi : i < f.length), (i : Int) ≤ f[i] ∧ f[i] ≤ n - 1 := by
  intro i
  induction i with
  | zero =>
   intro hi
   have := (good_of hg hi).1
   unfold btw at this; simp only [Bool.and_eq_true, decide_eq_true_eq] at this
   omega
  | succ i ih =>
   intro hi
   have := good_of hg hi
   have g1 := this.1
   have g2 := this.2 (by omega)
   unfold btw at g1; simp only [Bool.and_eq_true, decide_eq_true_eq, Nat.add_sub_cancel] at g1 g2
   have := ih (by omega)
   omega
 refine ⟨fun v hv => ?_, ?_⟩
 ·rw [List.contains_iff_mem] at hv
  obtain ⟨i, hi, rfl⟩ := List.mem_iff_getElem.1 hv
  have := e i hi
  unfold btw; simp; omega
 ·apply Classical.byContradiction
  intro hc
  have := e (f.length - 1) (by omega)
  omega
theorem vq_of (hl : Big l.length) (hq : FitsQ q) (h : vQuery l q = true) : VQy l q := by
 unfold vQuery at h
 simp only [Bool.and_eq_true] at h
 obtain ⟨h1, h2, h3, h4, _, h5⟩ := h
 unfold btw at h2 h3; simp only [Bool.and_eq_true, decide_eq_true_eq] at h2 h3
 obtain ⟨f1, f2⟩ := asc_len4 h5 (by omega)
 refine ⟨hl, hq, h1, by omega, by omega, fun a ha => ?_, f1, f2⟩
 obtain ⟨i, hi, rfl⟩ := List.mem_iff_getElem.1 ha
 have := List.all_eq_true.1 h4 i (List.mem_range.2 hi)
 rw [vAtom_get hi] at this
 unfold vAt at this
 simp only [Bool.and_eq_true, decide_eq_true_eq] at this
 have := vRels_arity h1 this.1
 omega
theorem avars_in {t : List Int} : In4 (avars t).contains := nfl_in
def atomAt (q : Query) (i : Nat) : Atom := q.Atoms.getD i default
theorem atom_get {i : Nat} (h : i < q.Atoms.length) : atomAt q i = q.Atoms[i] := by
 unfold atomAt; rw [zD, zE h]; rfl
def ruleA (l : List Relation) (q : Query) (skip : Int) (i : Nat) : Rule := ⟨fun X => decide (((i : Nat) : Int) ≠ skip) && (kvars l (atomAt q i)).all X, (avars (atomAt q i).Terms).contains⟩
def rulesA (l : List Relation) (q : Query) (skip : Int) : List Rule := (List.range q.Atoms.length).map (ruleA l q skip)
theorem rulesA_len {skip : Int} : (rulesA l q skip).length = q.Atoms.length := by simp [rulesA]
theorem rulesA_get {skip : Int} {i : Nat} (h : i < (rulesA l q skip).length) : (rulesA l q skip)[i] = ruleA l q skip i := by simp [rulesA]
theorem rulesA_in {skip : Int} : ∀ r ∈ rulesA l q skip, In4 r.a := by
 intro r hr
 unfold rulesA at hr
 obtain ⟨i, _, rfl⟩ := List.mem_map.1 hr
 exact avars_in
def closX (l : List Relation) (q : Query) (skip : Int) (X : Int → Bool) : Int → Bool := cl (rulesA l q skip) X
theorem closX_in {skip : Int} {X : Int → Bool} (h : In4 X) : In4 (closX l q skip X) := passes_in h rulesA_in
def setOf (q : Query) (vars : List Int) : Int → Bool := (nfl (cupX vars.contains q.Free.contains)).contains
theorem setOf_in {vars : List Int} : In4 (setOf q vars) := nfl_in
theorem nfl_setOf {vars : List Int} : nfl (setOf q vars) = nfl (cupX vars.contains q.Free.contains) := nfl_idem
variable (V : VQy l q)
include V
theorem small {i : Nat} (hi : i < q.Atoms.length) : q.Atoms[i].Terms.length ≤ 3 := V.terms _ (List.getElem_mem hi)
theorem roundSpec {skip : Int} {X : Int → Bool} (hX : In4 X) : iter (f188_1 l q skip) (nfl X, 0) = some (nfl (pass (rulesA l q skip) X)) := by
 have := iter_steps (f := f188_1 l q skip) (fun i => (nfl (pass ((rulesA l q skip).take i) X), (i : Int))) q.Atoms.length (nfl (pass (rulesA l q skip) X)) (fun i hi => by
  have hl := rulesA_len (l := l) (q := q) (skip := skip)
  have n3 := V.n3
  rw [pass_take (by omega), rulesA_get]
  have hin : In4 (pass ((rulesA l q skip).take i) X) := pass_in hX fun r hr => rulesA_in r (List.mem_of_mem_take hr)
  generalize pass ((rulesA l q skip).take i) X = Y at hin
  have hs := small V hi
  have k4 := kvars_len (l := l) (a := q.Atoms[i])
  have a4 := avars_len (t := q.Atoms[i].Terms)
  have y4 := nfl_len (X := Y)
  simp only [f188_1]
  rw [if_pos (by omega), ix_nat hi, w64_succ (by omega)]
  unfold fire ruleA
  rw [atom_get hi]
  by_cases c : ((i : Nat) : Int) ≠ skip
  ·rw [if_pos c]
   simp only [c, decide_true, Bool.true_and, bS]
   rw [specKV V.big (by omega), bS, has14 (by omega) (by omega), bS, nfl_has hin, specVars (by omega)]
   cases (kvars l q.Atoms[i]).all Y
   ·simp
   ·simp only [if_true, bS]
    rw [bothS (by omega) (by omega), nfl_has hin]; simp [c]
  ·rw [if_neg c]
   simp [c]) (by
  simp only [f188_1]
  rw [if_neg (by omega), List.take_of_length_le (by rw [rulesA_len]; omega)])
 simp only [List.take_zero, pass, List.foldl_nil, Int.natCast_zero, Int.ofNat_zero] at this
 exact this
theorem closSpec {skip : Int} {vars : List Int} (hv : vQuery l q = true) (hb : Big vars.length) : f188 l q skip vars = some (nfl (closX l q skip (setOf q vars))) := by
 unfold f188
 have f4 := V.free4
 rw [specQ V.big V.fits, hv, bS, if_neg (by simp), bothS hb (by omega), bS, ← nfl_setOf]
 have := iter_steps (f := f188_0 l q skip) (fun i => (nfl (passes (rulesA l q skip) i (setOf q vars)), (i : Int))) q.Atoms.length (nfl (closX l q skip (setOf q vars))) (fun i hi => by
  have n3 := V.n3
  simp only [f188_0]
  rw [if_pos (by omega), roundSpec V (passes_in setOf_in rulesA_in), bS, w64_succ (by omega)]; rfl) (by
  simp only [f188_0]
  rw [if_neg (by omega)]
  unfold closX cl
  rw [rulesA_len])
 simp only [passes, Int.natCast_zero, Int.ofNat_zero] at this
 erw [this]; rfl
end
end
section
section
variable {l : List Relation} {q : Query}
def plus (l : List Relation) (q : Query) (k : Nat) : Int → Bool := closX l q (k : Int) (setOf q (kvars l (atomAt q k)))
theorem plus_in {k : Nat} : In4 (plus l q k) := closX_in setOf_in
def outer (l : List Relation) (q : Query) (k i : Nat) : Int → Bool := fun v => (avars (atomAt q i).Terms).contains v && !plus l q k v
theorem outer_in {k i : Nat} : In4 (outer l q k i) := fun v hv => by
 unfold outer at hv; simp only [Bool.and_eq_true] at hv
 exact avars_in v hv.1
def ruleS (l : List Relation) (q : Query) (k i : Nat) : Rule := ⟨fun X => decide (i = k) || (avars (atomAt q i).Terms).any X, outer l q k i⟩
def rulesS (l : List Relation) (q : Query) (k : Nat) : List Rule := (List.range q.Atoms.length).map (ruleS l q k)
theorem rulesS_len {k : Nat} : (rulesS l q k).length = q.Atoms.length := by simp [rulesS]
theorem rulesS_get {k i : Nat} (h : i < (rulesS l q k).length) : (rulesS l q k)[i] = ruleS l q k i := by simp [rulesS]
theorem any_le {t : List Int} {X Y : Int → Bool} (h : Le4 X Y) (ha : t.any X = true) : t.any Y = true := by
 obtain ⟨v, hv, hx⟩ := List.any_eq_true.1 ha
 exact List.any_eq_true.2 ⟨v, hv, h v hx⟩
theorem rulesS_mono {k : Nat} : ∀ r ∈ rulesS l q k, r.mono := by
 intro r hr
 obtain ⟨i, _, rfl⟩ := List.mem_map.1 hr
 intro X Y h hc
 simp only [ruleS, Bool.or_eq_true] at hc ⊢
 exact hc.imp id (any_le h)
theorem rulesS_in {k : Nat} : ∀ r ∈ rulesS l q k, In4 r.a := by
 intro r hr
 obtain ⟨i, _, rfl⟩ := List.mem_map.1 hr
 exact outer_in
theorem none4_in : In4 none4 := fun v hv => by cases hv
def reach (l : List Relation) (q : Query) (k : Nat) : Int → Bool := cl (rulesS l q k) none4
theorem reach_in {k : Nat} : In4 (reach l q k) := passes_in none4_in rulesS_in
theorem fireS {k i : Nat} {Y : Int → Bool} : fire Y (ruleS l q k i) = if (decide (i = k) || (avars (atomAt q i).Terms).any Y) = true then cupX Y (outer l q k i) else Y := rfl
theorem keyClos {k : Nat} (V : VQy l q) (hv : vQuery l q = true) (hk : k < q.Atoms.length) : f187 l q (k : Int) = some (nfl (plus l q k)) := by
 unfold f187
 have n3 := V.n3
 have hb : btw (k : Int) 0 (w64 ((q.Atoms.length : Int) - 1)) = true := by rw [w64_of (by omega)]; unfold btw; simp; omega
 rw [specQ V.big V.fits, hv, bS, if_neg (by simp), specIn, hb]
 simp only [bS, not_true_eq_false, decide_false, Bool.false_eq_true, if_false]
 have hs := V.terms _ (List.getElem_mem hk)
 have k4 := kvars_len (l := l) (a := q.Atoms[k])
 rw [ix_nat hk, bS, specKV V.big (by omega), bS, closSpec V hv (by omega)]
 unfold plus; rw [atom_get hk]; rfl
theorem attRound {k : Nat} {X : Int → Bool} (V : VQy l q) (hk : k < q.Atoms.length) (hX : In4 X) : iter (f176_1 q (k : Int) (nfl (plus l q k))) (nfl X, 0) = some (nfl (pass (rulesS l q k) X)) := by
 have := iter_steps (f := f176_1 q (k : Int) (nfl (plus l q k))) (fun i => (nfl (pass ((rulesS l q k).take i) X), (i : Int))) q.Atoms.length (nfl (pass (rulesS l q k) X)) (fun i hi => by
  have hl := rulesS_len (l := l) (q := q) (k := k)
  have n3 := V.n3
  rw [pass_take (by omega), rulesS_get]
  have hin : In4 (pass ((rulesS l q k).take i) X) := pass_in hX fun r hr => rulesS_in r (List.mem_of_mem_take hr)
  generalize pass ((rulesS l q k).take i) X = Y at hin
  have hs := V.terms _ (List.getElem_mem hi)
  have a4 := avars_len (t := q.Atoms[i].Terms)
  have y4 := nfl_len (X := Y)
  have p4 := nfl_len (X := plus l q k)
  simp only [f176_1]
  rw [if_pos (by omega), ix_nat hi, w64_succ (by omega), bS, specVars (by omega), bS]
  rw [fireS]
  unfold outer
  rw [atom_get hi]
  generalize hA : avars q.Atoms[i].Terms = A at a4
  have inA : In4 A.contains := by rw [← hA]; exact avars_in
  rw [iter_foldl A (fun b v => b || Y v) id (fun j hj b => by
   simp only [f176_2]
   rw [if_pos (by omega), ix_nat hj, w64_succ (by omega), bS, hasI (by omega), nfl_has hin]
   cases b <;> simp) (fun b => by
   simp only [f176_2]
   rw [if_neg (by omega)]; rfl), foldl_any, bS]
  dsimp only [id]
  have ek : decide (((i : Nat) : Int) = (k : Int)) = decide (i = k) := decide_eq_decide.2 ⟨fun h => by omega, fun h => by omega⟩
  rw [ek]
  cases hc : (decide (i = k) || A.any Y)
  ·have : iter (f176_3 (nfl (plus l q k)) A false) (nfl Y, 0) = some (nfl Y) := iter_steps (fun _ => (nfl Y, 0)) 0 _ (fun i hi => by omega) (by
    simp only [f176_3]
    by_cases c : (0 : Int) < A.length
    ·rw [if_pos c]; rfl
    ·rw [if_neg c]; rfl)
   rw [this]; simp
  ·have := iter_steps (f := f176_3 (nfl (plus l q k)) A true) (fun j => (nfl (fun v => Y v || ((A.take j).contains v && !plus l q k v)), (j : Int))) A.length (nfl (cupX Y fun v => A.contains v && !plus l q k v)) (fun j hj => by
    have z4 := nfl_len (X := fun v => Y v || ((A.take j).contains v && !plus l q k v))
    have zin : In4 (fun v => Y v || ((A.take j).contains v && !plus l q k v)) := fun v hv => by
     simp only [Bool.or_eq_true, Bool.and_eq_true] at hv
     rcases hv with hv | hv
     ·exact hin v hv
     ·exact inA v (by rw [List.contains_iff_mem] at hv ⊢; exact List.mem_of_mem_take hv.1)
    simp only [f176_3]
    rw [if_pos (by omega), bS, if_pos rfl, ix_nat hj, bS, hasI (by omega), nfl_has plus_in, bS, w64_succ (by omega)]
    cases hp : plus l q k A[j]
    ·simp only [Bool.false_eq_true, not_false_eq_true, if_true]
     rw [bothS (by omega) (by simp), nfl_has zin]
     simp only [bS]
     congr 3
     refine nfl_congr fun v _ => ?_
     unfold cupX
     rw [has_succ hj]
     by_cases e : v = A[j]
     ·subst e; simp [hp]
     ·simp [e]
    ·simp only [not_true_eq_false, if_false, bS]
     congr 3
     refine nfl_congr fun v _ => ?_
     rw [has_succ hj]
     by_cases e : v = A[j]
     ·subst e; simp [hp]
     ·simp [e]) (by
    simp only [f176_3]
    rw [if_neg (by omega), List.take_of_length_le (Nat.le_refl _)]; rfl)
   have e0 : nfl (fun v => Y v || ((A.take 0).contains v && !plus l q k v)) = nfl Y := nfl_congr fun v _ => by simp
   simp only [e0, Int.natCast_zero, Int.ofNat_zero] at this
   rw [this]; simp) (by
  simp only [f176_1]
  rw [if_neg (by omega), List.take_of_length_le (by rw [rulesS_len]; omega)])
 simp only [List.take_zero, pass, List.foldl_nil, Int.natCast_zero, Int.ofNat_zero] at this
 exact this
theorem attSpec {k : Nat} (V : VQy l q) (hv : vQuery l q = true) (hk : k < q.Atoms.length) : f176 l q (k : Int) = some (nfl (reach l q k)) := by
 unfold f176
 have n3 := V.n3
 have hb : btw (k : Int) 0 (w64 ((q.Atoms.length : Int) - 1)) = true := by rw [w64_of (by omega)]; unfold btw; simp; omega
 rw [specQ V.big V.fits, hv, bS, if_neg (by simp), specIn, hb]
 simp only [bS, not_true_eq_false, decide_false, Bool.false_eq_true, if_false]
 rw [keyClos V hv hk, bS]
 have := iter_steps (f := f176_0 q (k : Int) (nfl (plus l q k))) (fun i => (nfl (passes (rulesS l q k) i none4), (i : Int))) (q.Atoms.length + 1) (nfl (reach l q k)) (fun i hi => by
  simp only [f176_0]
  rw [if_pos (by omega), attRound V hk (passes_in none4_in rulesS_in), bS, w64_succ (by omega)]; rfl) (by
  simp only [f176_0]
  rw [if_neg (by omega), passes_cl rulesS_mono (by rw [rulesS_len]; omega)]; rfl)
 simp only [passes, Int.natCast_zero, Int.ofNat_zero] at this
 have e0 : nfl none4 = [] := nfl_nil
 rw [e0] at this
 rw [this]; rfl
def att (l : List Relation) (q : Query) (i k : Nat) : Bool := decide (i ≠ k) && (avars (atomAt q k).Terms).any (reach l q i)
def hAtt (l : List Relation) (q : Query) (i k : Int) : Bool := vQuery l q && (btw i 0 (q.Atoms.length - 1) && (btw k 0 (q.Atoms.length - 1) && att l q i.toNat k.toNat))
theorem btw_nat {i : Int} {n : Nat} (h : btw i 0 ((n : Int) - 1) = true) : ∃ k : Nat, i = k ∧ k < n := by
 unfold btw at h; simp only [Bool.and_eq_true, decide_eq_true_eq] at h
 exact ⟨i.toNat, by omega, by omega⟩
theorem hasSpec {i k : Int} (hl : Big l.length) (hq : FitsQ q) : f145 l q i k = some (hAtt l q i k) := by
 unfold f145 hAtt
 rw [specQ hl hq, bS]
 have hn := hq.1
 cases hv : vQuery l q
 ·simp
 have V := vq_of hl hq hv
 rw [w64_of (by omega)]
 simp only [specIn, not_true_eq_false, if_false, bS, Bool.true_and]
 cases hi : btw i 0 ((q.Atoms.length : Int) - 1)
 ·simp
 cases hk : btw k 0 ((q.Atoms.length : Int) - 1)
 ·simp
 obtain ⟨i, rfl, hi'⟩ := btw_nat hi
 obtain ⟨k, rfl, hk'⟩ := btw_nat hk
 simp only [not_true_eq_false, if_false, bS, Int.toNat_natCast, Bool.true_and]
 unfold att
 have ek : decide (((i : Nat) : Int) = (k : Int)) = decide (i = k) := decide_eq_decide.2 ⟨fun h => by omega, fun h => by omega⟩
 rw [ek]
 by_cases c : i = k
 ·simp [c]
 have hs := V.terms _ (List.getElem_mem hk')
 have a4 := avars_len (t := q.Atoms[k].Terms)
 have r4 := nfl_len (X := reach l q i)
 simp only [c, decide_false, Bool.false_eq_true, if_false]
 rw [attSpec V hv hi', bS, ix_nat hk', bS, specVars (by omega), bS, atom_get hk']
 rw [iter_ex (avars q.Atoms[k].Terms) (reach l q i) true (fun j hj => by
  simp only [f145_0]
  rw [if_pos (by omega), ix_nat hj, bS, hasI (by omega), nfl_has reach_in, w64_succ (by omega)]
  cases reach l q i (avars q.Atoms[k].Terms)[j] <;> simp) (by
  simp only [f145_0]
  rw [if_neg (by omega)])]
 cases (avars q.Atoms[k].Terms).any (reach l q i) <;> simp [c]
end
end
section
section
variable {l : List Relation} {q : Query}
def ruleP (l : List Relation) (q : Query) (i a : Nat) : Rule := ⟨fun X => decide (a = i) || X ((a : Nat) : Int), fun b => hAtt l q ((a : Nat) : Int) b⟩
def rulesP (l : List Relation) (q : Query) (i : Nat) : List Rule := (List.range q.Atoms.length).map (ruleP l q i)
theorem rulesP_len {i : Nat} : (rulesP l q i).length = q.Atoms.length := by simp [rulesP]
theorem rulesP_get {i k : Nat} (h : k < (rulesP l q i).length) : (rulesP l q i)[k] = ruleP l q i k := by simp [rulesP]
theorem rulesP_mono {i : Nat} : ∀ r ∈ rulesP l q i, r.mono := by
 intro r hr
 obtain ⟨a, _, rfl⟩ := List.mem_map.1 hr
 intro X Y h hc
 simp only [ruleP, Bool.or_eq_true] at hc ⊢
 exact hc.imp id (h _)
theorem fireP {i a : Nat} {Y : Int → Bool} : fire Y (ruleP l q i a) = if (decide (a = i) || Y ((a : Nat) : Int)) = true then cupX Y (fun b => hAtt l q ((a : Nat) : Int) b) else Y := rfl
def pathTo (l : List Relation) (q : Query) (i : Nat) : Int → Bool := cl (rulesP l q i) none4
def hPath (l : List Relation) (q : Query) (i k : Int) : Bool := vQuery l q && (btw i 0 (q.Atoms.length - 1) && (btw k 0 (q.Atoms.length - 1) && pathTo l q i.toNat k))
theorem hAtt_self {a : Int} : hAtt l q a a = false := by unfold hAtt att; simp
theorem pathInner {i a : Nat} {X : Int → Bool} (V : VQy l q) (ha : a < q.Atoms.length) : iter (f147_2 l q (i : Int) (a : Int)) (bl q.Atoms.length X, 0) = some (bl q.Atoms.length (fire X (ruleP l q i a))) := by
 have n3 := V.n3
 have := iter_steps (f := f147_2 l q (i : Int) (a : Int)) (fun b => (bl q.Atoms.length (fun v => X v || (decide (v < ((b : Nat) : Int)) && ((decide (a = i) || X ((a : Nat) : Int)) && hAtt l q ((a : Nat) : Int) v))), (b : Int))) q.Atoms.length (bl q.Atoms.length (fire X (ruleP l q i a))) (fun b hb => by
  simp only [f147_2]
  rw [if_pos (by omega), bl_get ha, w64_succ (by omega)]
  simp only [hasSpec V.big V.fits, bS]
  rw [hAtt_self]
  have e1 : (if ((a : Nat) : Int) = (i : Int) then some (hAtt l q ((a : Nat) : Int) ((b : Nat) : Int)) else (if (X ((a : Nat) : Int) || (decide (((a : Nat) : Int) < ((b : Nat) : Int)) && ((decide (a = i) || X ((a : Nat) : Int)) && false))) = true then some (hAtt l q ((a : Nat) : Int) ((b : Nat) : Int)) else some false).bind fun x => some x) = some ((decide (a = i) || X ((a : Nat) : Int)) && hAtt l q ((a : Nat) : Int) ((b : Nat) : Int)) := by
   by_cases c : a = i
   ·rw [if_pos (by omega)]; simp [c]
   ·rw [if_neg (by omega)]
    cases X ((a : Nat) : Int) <;> simp [c]
  rw [e1, bS]
  cases hc : ((decide (a = i) || X ((a : Nat) : Int)) && hAtt l q ((a : Nat) : Int) ((b : Nat) : Int))
  ·simp only [Bool.false_eq_true, if_false, bS]
   congr 3
   refine bl_congr fun v hv => ?_
   by_cases e : v = b
   ·subst e
    rw [hc]; simp
   ·have : decide (((v : Nat) : Int) < ((b : Nat) : Int)) = decide (((v : Nat) : Int) < ((b + 1 : Nat) : Int)) := decide_eq_decide.2 ⟨fun h => by omega, fun h => by omega⟩
    rw [this]
  ·simp only [if_true]
   rw [bl_get hb, bS, bS, Int.toNat_natCast, bl_set]
   congr 3
   refine bl_congr fun v hv => ?_
   by_cases e : v = b
   ·subst e
    rw [hc]
    have h1 : decide (((v : Nat) : Int) < ((v + 1 : Nat) : Int)) = true := decide_eq_true (by omega)
    have h2 : decide (((v : Nat) : Int) = ((v : Nat) : Int)) = true := decide_eq_true rfl
    rw [h1, h2]; simp
   ·have h1 : decide (((v : Nat) : Int) < ((b : Nat) : Int)) = decide (((v : Nat) : Int) < ((b + 1 : Nat) : Int)) := decide_eq_decide.2 ⟨fun h => by omega, fun h => by omega⟩
    have h2 : decide (((v : Nat) : Int) = ((b : Nat) : Int)) = false := decide_eq_false (by omega)
    rw [h1, h2, Bool.or_false]) (by
  simp only [f147_2]
  rw [if_neg (by omega)]
  congr 2
  refine bl_congr fun v hv => ?_
  rw [fireP]
  have : ((v : Nat) : Int) < ((q.Atoms.length : Nat) : Int) := by omega
  cases decide (a = i) || X ((a : Nat) : Int)
  ·simp
  ·simp [this, cupX])
 have e0 : bl q.Atoms.length (fun v => X v || (decide (v < ((0 : Nat) : Int)) && ((decide (a = i) || X ((a : Nat) : Int)) && hAtt l q ((a : Nat) : Int) v))) = bl q.Atoms.length X := bl_congr fun v _ => by
  have : decide (((v : Nat) : Int) < ((0 : Nat) : Int)) = false := decide_eq_false (by omega)
  rw [this]; simp
 rw [e0] at this
 exact this
theorem pathRound {i : Nat} {X : Int → Bool} (V : VQy l q) : iter (f147_1 l q (i : Int)) (bl q.Atoms.length X, 0) = some (bl q.Atoms.length (pass (rulesP l q i) X)) := by
 have n3 := V.n3
 have := iter_steps (f := f147_1 l q (i : Int)) (fun a => (bl q.Atoms.length (pass ((rulesP l q i).take a) X), (a : Int))) q.Atoms.length (bl q.Atoms.length (pass (rulesP l q i) X)) (fun a ha => by
  simp only [f147_1]
  rw [if_pos (by omega), pathInner V ha, bS, w64_succ (by omega), pass_take (by rw [rulesP_len]; exact ha), rulesP_get]) (by
  simp only [f147_1]
  rw [if_neg (by omega), List.take_of_length_le (by rw [rulesP_len]; omega)])
 simp only [List.take_zero, pass, List.foldl_nil, Int.natCast_zero, Int.ofNat_zero] at this
 exact this
theorem pathSpec {i k : Int} (hl : Big l.length) (hq : FitsQ q) : f147 l q i k = some (hPath l q i k) := by
 unfold f147 hPath
 rw [specQ hl hq, bS]
 have hn := hq.1
 cases hv : vQuery l q
 ·simp
 have V := vq_of hl hq hv
 rw [w64_of (by omega)]
 simp only [specIn, not_true_eq_false, if_false, bS, Bool.true_and]
 cases hi : btw i 0 ((q.Atoms.length : Int) - 1)
 ·simp
 cases hk : btw k 0 ((q.Atoms.length : Int) - 1)
 ·simp
 obtain ⟨i, rfl, hi'⟩ := btw_nat hi
 obtain ⟨k, rfl, hk'⟩ := btw_nat hk
 simp only [not_true_eq_false, if_false, bS, Int.toNat_natCast, Bool.true_and, decide_false, Bool.false_eq_true]
 rw [mkl_ok (by omega) (by omega) (by omega), bS, Int.toNat_natCast, bl_none]
 have := iter_steps (f := f147_0 l q (i : Int)) (fun j => (bl q.Atoms.length (passes (rulesP l q i) j none4), (j : Int))) (q.Atoms.length + 1) (bl q.Atoms.length (pathTo l q i)) (fun j hj => by
  simp only [f147_0]
  rw [if_pos (by omega), pathRound V, bS, w64_succ (by omega)]; rfl) (by
  simp only [f147_0]
  rw [if_neg (by omega), passes_cl rulesP_mono (by rw [rulesP_len]; omega)]; rfl)
 simp only [passes, Int.natCast_zero, Int.ofNat_zero] at this
 erw [this]
 rw [bS, bl_get hk']; rfl
end
end
section
section
variable {l : List Relation} {q : Query}
def hCyc (l : List Relation) (q : Query) : Bool := (List.range q.Atoms.length).any fun i => hPath l q ((i : Nat) : Int) ((i : Nat) : Int)
theorem cycSpec (hl : Big l.length) (hq : FitsQ q) : f148 l q = some (hCyc l q) := by
 unfold f148
 have hn := hq.1
 rw [iter_ex (List.range q.Atoms.length) (fun i => hPath l q ((i : Nat) : Int) ((i : Nat) : Int)) true (fun i hi => by
  simp only [List.length_range] at hi
  simp only [List.getElem_range]
  simp only [f148_0]
  rw [if_pos (by omega), pathSpec hl hq, bS, w64_succ (by omega)]
  split <;> rfl) (by
  simp only [f148_0]
  rw [if_neg (by simp)])]
 unfold hCyc
 cases (List.range q.Atoms.length).any fun i => hPath l q ((i : Nat) : Int) ((i : Nat) : Int) <;> simp
end
end
section
section
variable {l : List Relation} {q : Query}
def deter (l : List Relation) (q : Query) (a b : List Int) : Bool := vQuery l q && b.all (closX l q (-1) (setOf q a))
theorem detSpec {a b : List Int} (hl : Big l.length) (hq : FitsQ q) (ha : Big a.length) (hb : Big b.length) : f177 l q a b = some (deter l q a b) := by
 unfold f177 deter
 rw [specQ hl hq, bS]
 cases hv : vQuery l q
 ·simp
 have V := vq_of hl hq hv
 have c4 := nfl_len (X := closX l q (-1) (setOf q a))
 simp only [if_true]
 rw [closSpec V hv ha, bS, has14 (by omega) hb, nfl_has (closX_in setOf_in)]
 simp
def hWeak (l : List Relation) (q : Query) (i k : Int) : Bool := hAtt l q i k && deter l q (kvars l (atomAt q i.toNat)) (kvars l (atomAt q k.toNat))
theorem weakSpec {i k : Int} (hl : Big l.length) (hq : FitsQ q) : f146 l q i k = some (hWeak l q i k) := by
 unfold f146 hWeak
 rw [hasSpec hl hq, bS]
 cases h : hAtt l q i k
 ·simp
 unfold hAtt at h; simp only [Bool.and_eq_true] at h
 obtain ⟨i, rfl, hi⟩ := btw_nat h.2.1
 obtain ⟨k, rfl, hk⟩ := btw_nat h.2.2.1
 have h1 := hq.2.1 _ (List.getElem_mem hi)
 have h2 := hq.2.1 _ (List.getElem_mem hk)
 have k1 := kvars_len (l := l) (a := q.Atoms[i])
 have k2 := kvars_len (l := l) (a := q.Atoms[k])
 simp only [if_true, Int.toNat_natCast, Bool.true_and]
 rw [ix_nat hi, ix_nat hk, atom_get hi, atom_get hk]
 simp only [bS]
 rw [specKV hl (by omega), bS, specKV hl (by omega), bS, detSpec hl hq (by omega) (by omega)]
 rfl
def hard (l : List Relation) (q : Query) (i k : Nat) : Bool := hAtt l q ((i : Nat) : Int) ((k : Nat) : Int) && (!hWeak l q ((i : Nat) : Int) ((k : Nat) : Int) && hPath l q ((k : Nat) : Int) ((i : Nat) : Int))
def cls (l : List Relation) (q : Query) : Int :=
 if vQuery l q = true then (if ((List.range q.Atoms.length).any fun i => (List.range q.Atoms.length).any fun k => hard l q i k) = true then 3 else if hCyc l q = true then 2 else 1) else 0
theorem iter_ex2 {ρ : Type} {f : Int → Option (Int ⊕ (Unit ⊕ ρ))} {n : Nat} {p : Nat → Bool} {c : ρ}
  (hs : ∀ (i : Nat) (h : i < n), f (i : Int) = some (if p i = true then .inr (.inr c) else .inl ((i + 1 : Nat) : Int))) (he : f (n : Int) = some (.inr (.inl ()))) :
  iter f 0 = some (if (List.range n).any p = true then .inr c else .inl ()) :=
 iter_ex (List.range n) p c (fun i hi => by simp only [List.length_range] at hi; simp only [List.getElem_range]; exact hs i hi) (by simpa using he)
theorem clsSpec (hl : Big l.length) (hq : FitsQ q) : f104 l q = some (cls l q) := by
 unfold f104 cls
 rw [specQ hl hq, bS]
 have hn := hq.1
 cases hv : vQuery l q
 ·simp
 rw [if_neg (by simp), if_pos rfl]
 rw [iter_ex2 (n := q.Atoms.length) (p := fun i => (List.range q.Atoms.length).any fun k => hard l q i k) (c := 3) (fun i hi => by
  simp only [f104_0]
  rw [if_pos (by omega), iter_ex2 (n := q.Atoms.length) (p := fun k => hard l q i k) (c := 3) (fun k hk => by
   simp only [f104_1]
   rw [if_pos (by omega), hasSpec hl hq, weakSpec hl hq, pathSpec hl hq, w64_succ (by omega)]
   unfold hard
   cases hAtt l q ((i : Nat) : Int) ((k : Nat) : Int)
   ·simp
   ·cases hWeak l q ((i : Nat) : Int) ((k : Nat) : Int)
    ·cases hPath l q ((k : Nat) : Int) ((i : Nat) : Int) <;> simp
    ·simp) (by
   simp only [f104_1]
   rw [if_neg (by omega)]), w64_succ (by omega)]
  cases (List.range q.Atoms.length).any fun k => hard l q i k <;> simp) (by
  simp only [f104_0]
  rw [if_neg (by omega)])]
 cases (List.range q.Atoms.length).any fun i => (List.range q.Atoms.length).any fun k => hard l q i k
 ·simp only [Bool.false_eq_true, if_false, bS]
  rw [cycSpec hl hq, bS]
  split <;> rfl
 ·simp
end
end
section
def FitsS (a : RewritingStep) : Prop := a.Atom.Terms.length ≤ 1048576 ∧ a.Existential.length ≤ 1048576 ∧ a.Universal.length ≤ 1048576
def vStep (l : List Relation) (s : RewritingStep) : Bool :=
 vRels l && (btw s.Atom.Relation 0 (l.length - 1) && (decide ((s.Atom.Terms.length : Int) = arity l s.Atom.Relation) && ((s.Atom.Terms.all fun v => btw v (-10) 3) && (s.Existential.all (kvars l s.Atom).contains && s.Universal.all (avars s.Atom.Terms).contains))))
def vRw (l : List Relation) (f : List RewritingStep) : Bool := f.all (vStep l) && decide (f.length ≤ 3)
theorem specRw {l : List Relation} {f : List RewritingStep} (hl : Big l.length) (hf : Big f.length) (h : ∀ x ∈ f, FitsS x) : f10 l f = some (vRw l f) := by
 unfold f10
 rw [iter_ex f (fun s => !vStep l s) false (fun i hi => by
  have hs := h _ (List.getElem_mem hi)
  simp only [f10_0]
  rw [if_pos (by omega), ix_nat hi, w64_succ (by omega)]
  generalize f[i] = s at hs
  obtain ⟨s1, s2, s3⟩ := hs
  unfold vStep
  rw [bS, specRels hl, bS, w64_of (by omega)]
  cases vRels l
  ·simp
  simp only [specIn]
  cases hb : btw s.Atom.Relation 0 (l.length - 1)
  ·simp
  obtain ⟨x, h1, _, h2, _⟩ := ix_rel hb
  rw [h1]
  by_cases ha : (s.Atom.Terms.length : Int) = arity l s.Atom.Relation
  ·rw [iter_ex s.Atom.Terms (fun v => !btw v (-10) 3) false (fun i hi => by
    simp only [f10_1]
    rw [if_pos (by omega), ix_nat hi, w64_succ (by omega)]
    simp only [bS, specIn]
    cases btw s.Atom.Terms[i] (-10) 3 <;> simp) (by
    simp only [f10_1]
    rw [if_neg (by omega)]), any_not]
   have k1 := kvars_len (l := l) (a := s.Atom)
   have k2 := avars_len (t := s.Atom.Terms)
   cases s.Atom.Terms.all (fun v => btw v (-10) 3)
   ·simp [h2, ha]
   ·simp only [h2, ha, not_true_eq_false, if_false, bS, ne_eq, decide_false, Bool.false_eq_true, Bool.not_true, specKV hl (show Big s.Atom.Terms.length by omega), has14 (l := kvars l s.Atom) (w := s.Existential) (by omega) (by omega),
     specVars (a := s.Atom) (by omega), has14 (l := avars s.Atom.Terms) (w := s.Universal) (by omega) (by omega)]
    cases s.Existential.all (kvars l s.Atom).contains
    ·simp
    ·cases s.Universal.all (avars s.Atom.Terms).contains <;> simp
  ·simp [h2, ha]) (by
  simp only [f10_0]
  rw [if_neg (by omega)]), any_not]
 unfold vRw
 cases f.all (vStep l)
 ·simp
 ·simp; omega
theorem impRw {l : List Relation} {f : List RewritingStep} (hl : Big l.length) (hf : Big f.length) (h : ∀ x ∈ f, FitsS x) : f9 l f = some (vRw l f) := by
 unfold f9
 rw [iter_ex (List.range f.length) (fun i => decide (3 ≤ i) || !(match f[i]? with | some s => vStep l s | none => true)) false (fun i hi => by
  simp only [List.length_range] at hi
  simp only [List.getElem_range]
  rw [zE hi]
  dsimp only
  have hs := h _ (List.getElem_mem hi)
  simp only [f9_0]
  rw [if_pos (by omega), ix_nat hi, w64_succ (by omega)]
  generalize f[i] = s at hs
  obtain ⟨s1, s2, s3⟩ := hs
  by_cases c3 : 3 ≤ i
  ·rw [bS, if_pos (by omega)]; simp [c3]
  rw [bS, if_neg (by omega)]
  simp only [c3, decide_false, Bool.false_or]
  unfold vStep
  rw [impRels hl, bS, w64_of (by omega)]
  cases hv : vRels l
  ·simp
  simp only [impIn]
  cases hb : btw s.Atom.Relation 0 (l.length - 1)
  ·simp
  obtain ⟨x, h1, _, h2, _⟩ := ix_rel hb
  rw [h1]
  by_cases ha : (s.Atom.Terms.length : Int) = arity l s.Atom.Relation
  ·have h3 := vRels_arity hv hb
   have i1 : f32 s.Atom.Terms (fun x0 => f33 x0) = some (s.Atom.Terms.any fun v => !btw v (-10) 3) := indexI (by omega) (fun v _ => by
    unfold f33
    rw [impIn]; cases btw v (-10) 3 <;> simp)
   rw [i1, any_not]
   have k1 := kvars_len (l := l) (a := s.Atom)
   have k2 := avars_len (t := s.Atom.Terms)
   cases s.Atom.Terms.all (fun v => btw v (-10) 3)
   ·simp [h2, ha]
   ·simp only [h2, ha, not_true_eq_false, if_false, bS, ne_eq, decide_false, Bool.false_eq_true, Bool.not_true, impKV hl (show s.Atom.Terms.length ≤ 12 by omega), subset (a := s.Existential) (b := kvars l s.Atom) (by omega) (by omega),
     impVars (a := s.Atom) (by omega), subset (a := s.Universal) (b := avars s.Atom.Terms) (by omega) (by omega)]
    cases s.Existential.all (kvars l s.Atom).contains
    ·simp
    ·cases s.Universal.all (avars s.Atom.Terms).contains <;> simp
  ·simp [h2, ha]) (by
  simp only [f9_0]
  rw [if_neg (by simp)])]
 have e : ((List.range f.length).any fun i => decide (3 ≤ i) || !(match f[i]? with | some s => vStep l s | none => true)) = !vRw l f := by
  unfold vRw
  by_cases hn : f.length ≤ 3
  ·have e1 : ((List.range f.length).any fun i => decide (3 ≤ i) || !(match f[i]? with | some s => vStep l s | none => true)) = f.any fun s => !vStep l s := by
    rw [Bool.eq_iff_iff]
    simp only [List.any_eq_true, List.mem_range]
    constructor
    ·rintro ⟨i, hi, hp⟩
     rw [zE hi] at hp
     simp only [show ¬ 3 ≤ i by omega, decide_false, Bool.false_or] at hp
     exact ⟨f[i], List.getElem_mem hi, hp⟩
    ·rintro ⟨s, hs, hp⟩
     obtain ⟨i, hi, rfl⟩ := List.mem_iff_getElem.1 hs
     refine ⟨i, hi, ?_⟩
     rw [zE hi]
     dsimp only
     rw [hp]; simp
   rw [e1, any_not]; simp [hn]
  ·simp only [hn, decide_false, Bool.and_false, Bool.not_false]
   rw [List.any_eq_true]
   exact ⟨3, by simp; omega, by simp⟩
 rw [e]
 cases vRw l f <;> simp
end
section
def G3 (q : Query) : Prop := q.Atoms.length ≤ 3 ∧ (∀ a ∈ q.Atoms, 1 ≤ a.Terms.length ∧ a.Terms.length ≤ 40) ∧ q.Free.length ≤ 40
theorem shareOk {a b c : List Int} (ha : a.length ≤ 1048576) (hb : b.length ≤ 1048576) (hc : c.length ≤ 1048576) : Ens (f178 a b c) fun _ => True := by
 unfold f178
 refine Ens.bind (Q := fun _ => True) ?_ fun o _ => by cases o <;> exact Ens.of trivial
 refine iter_up (f := f178_0 a b c) a.length (fun i s => s = (i : Int)) _ (fun i s hi h => ?_) (fun s h => ?_) 0 rfl
 ·subst h
  simp only [f178_0]
  rw [if_pos (by omega), ix_nat hi, bS, hasI (by omega), bS, w64_succ (by omega)]
  cases b.contains a[i]
  ·exact ⟨_, rfl, rfl⟩
  ·rw [if_pos rfl, hasI (by omega), bS]
   cases c.contains a[i]
   ·exact ⟨_, rfl, trivial⟩
   ·exact ⟨_, rfl, rfl⟩
 ·subst h
  simp only [f178_0]
  rw [if_neg (by omega)]
  exact ⟨_, rfl, trivial⟩
section
variable {l : List Relation} {q : Query}
theorem attOk {i k : Int} (hl : Big l.length) (hq : G3 q) (h0 : 0 ≤ i) (hi : i < q.Atoms.length) : Ens (f149 l q i k) fun _ => True := by
 obtain ⟨g1, g2, g3⟩ := hq
 have at' : ∀ j : Nat, j < q.Atoms.length → ∃ a, ix q.Atoms (j : Int) = some a ∧ a.Terms.length ≤ 40 := fun j hj => ⟨_, ix_nat hj, (g2 _ (List.getElem_mem hj)).2⟩
 unfold f149
 refine Ens.ite (fun _ => Ens.of trivial) fun _ => ?_
 obtain ⟨n, rfl⟩ : ∃ n : Nat, i = n := ⟨i.toNat, by omega⟩
 obtain ⟨a, ea, ta⟩ := at' n (by omega)
 have kl := kvars_len (l := l) (a := a)
 rw [ea, bS, specKV hl (by omega), bS, bothS (by omega) (by omega), bS]
 have n0 := nfl_len (X := cupX q.Free.contains (kvars l a).contains)
 refine Ens.bind (Q := fun p => p.length ≤ 4) ?_ fun p hp => ?_
 ·refine iter_up (f := f149_0 l q (n : Int)) q.Atoms.length (fun x s => s.1.length ≤ 4 ∧ s.2 = (x : Int)) _ (fun x s hx ⟨s1, s2⟩ => ?_) (fun s ⟨s1, s2⟩ => ?_) _ ⟨n0, rfl⟩
  ·obtain ⟨p, y⟩ := s
   simp only at s1 s2
   subst s2
   simp only [f149_0]
   rw [if_pos (by omega)]
   obtain ⟨p2, e2, h2⟩ : Ens (iter (f149_2 l q (n : Int)) (p, 0)) fun p => p.length ≤ 4 := by
    refine iter_up (f := f149_2 l q (n : Int)) q.Atoms.length (fun x s => s.1.length ≤ 4 ∧ s.2 = (x : Int)) _ (fun x s hx ⟨s1, s2⟩ => ?_) (fun s ⟨s1, s2⟩ => ?_) _ ⟨s1, rfl⟩
    ·obtain ⟨p, y⟩ := s
     simp only at s1 s2
     subst s2
     obtain ⟨c, ec, tc⟩ := at' x hx
     have kc := kvars_len (l := l) (a := c)
     have vc := avars_len (t := c.Terms)
     simp only [f149_2]
     rw [if_pos (by omega)]
     obtain ⟨z, ez, _⟩ : Ens ((if (x : Int) ≠ n then (ix q.Atoms (x : Int)).bind fun v_17 => (f40 l v_17).bind fun o19 => (f39 p o19).bind fun o21 => some o21 else some false : Option Bool)) fun _ => True := by
      refine Ens.ite (fun _ => ?_) fun _ => Ens.of trivial
      rw [ec, bS, specKV hl (by omega), bS, has14 (by omega) (by omega), bS]
      exact Ens.of trivial
     rw [ez, bS, ec, bS, specVars (by omega), bS, bothS (by omega) (by omega), bS, w64_succ (by omega)]
     cases z
     ·exact ⟨_, rfl, s1, rfl⟩
     ·exact ⟨_, rfl, nfl_len, rfl⟩
    ·obtain ⟨p, y⟩ := s
     simp only at s1 s2
     subst s2
     simp only [f149_2]
     rw [if_neg (by omega)]
     exact ⟨_, rfl, s1⟩
   rw [e2, bS, w64_succ (by omega)]
   exact ⟨_, rfl, h2, rfl⟩
  ·obtain ⟨p, y⟩ := s
   simp only at s1 s2
   subst s2
   simp only [f149_0]
   rw [if_neg (by omega)]
   exact ⟨_, rfl, s1⟩
 refine Ens.bind (Q := fun m => m.length ≤ 1000) ?_ fun m hm => ?_
 ·refine iter_up (f := f149_1 q p) q.Atoms.length (fun x s => s.1.length ≤ 1 + 9 * x ∧ s.2 = (x : Int)) _ (fun x s hx ⟨s1, s2⟩ => ?_) (fun s ⟨s1, s2⟩ => ?_) _ ⟨by simp, rfl⟩
  ·obtain ⟨m, y⟩ := s
   simp only at s1 s2
   subst s2
   simp only [f149_1]
   rw [if_pos (by omega)]
   obtain ⟨m2, e2, h2⟩ : Ens (iter (f149_3 q p) (m, 0)) fun m' => m'.length ≤ 1 + 9 * x + 9 := by
    refine iter_up (f := f149_3 q p) q.Atoms.length (fun y s => s.1.length ≤ 1 + 9 * x + 3 * y ∧ s.2 = (y : Int)) _ (fun y s hy ⟨s1, s2⟩ => ?_) (fun s ⟨s1, s2⟩ => ?_) _ ⟨by simpa using s1, rfl⟩
    ·obtain ⟨m, z⟩ := s
     simp only at s1 s2
     subst s2
     simp only [f149_3]
     rw [if_pos (by omega)]
     obtain ⟨m3, e3, h3⟩ : Ens (iter (f149_4 q p (y : Int)) (m, 0)) fun m' => m'.length ≤ 1 + 9 * x + 3 * y + 3 := by
      refine iter_up (f := f149_4 q p (y : Int)) q.Atoms.length (fun z s => s.1.length ≤ 1 + 9 * x + 3 * y + z ∧ s.2 = (z : Int)) _ (fun z s hz ⟨s1, s2⟩ => ?_) (fun s ⟨s1, s2⟩ => ?_) _ ⟨by simpa using s1, rfl⟩
      ·obtain ⟨m, u⟩ := s
       simp only at s1 s2
       subst s2
       obtain ⟨b1, eb, tb⟩ := at' y hy
       obtain ⟨b2, ec, tc⟩ := at' z hz
       have v1 := avars_len (t := b1.Terms)
       have v2 := avars_len (t := b2.Terms)
       obtain ⟨w, ew, _⟩ := shareOk (a := avars b1.Terms) (b := avars b2.Terms) (c := p) (by omega) (by omega) (by omega)
       simp only [f149_4]
       rw [if_pos (by omega), hasI (by omega), bS, hasI (by omega), bS, eb, bS, ec, bS, specVars (by omega), bS, specVars (by omega), bS, ew, bS, w64_succ (by omega), app_fits (by simp; omega), bS]
       cases m.contains (y : Int)
       ·exact ⟨_, rfl, by simp only; omega, rfl⟩
       ·cases m.contains (z : Int)
        ·cases w
         ·exact ⟨_, rfl, by simp only; omega, rfl⟩
         ·exact ⟨_, rfl, by simp only [List.length_append, List.length_singleton]; omega, rfl⟩
        ·exact ⟨_, rfl, by simp only; omega, rfl⟩
      ·obtain ⟨m, u⟩ := s
       simp only at s1 s2
       subst s2
       simp only [f149_4]
       rw [if_neg (by omega)]
       exact ⟨_, rfl, by omega⟩
     rw [e3, bS, w64_succ (by omega)]
     exact ⟨_, rfl, by simp only; omega, rfl⟩
    ·obtain ⟨m, z⟩ := s
     simp only at s1 s2
     subst s2
     simp only [f149_3]
     rw [if_neg (by omega)]
     exact ⟨_, rfl, by omega⟩
   rw [e2, bS, w64_succ (by omega)]
   exact ⟨_, rfl, by simp only; omega, rfl⟩
  ·obtain ⟨m, y⟩ := s
   simp only at s1 s2
   subst s2
   simp only [f149_1]
   rw [if_neg (by omega)]
   exact ⟨_, rfl, by omega⟩
 rw [hasI (by omega), bS]
 exact Ens.of trivial
theorem firstOk (hl : Big l.length) (hq : G3 q) : Ens (f106 l q) fun r => r < q.Atoms.length := by
 have g1 := hq.1
 unfold f106
 refine Ens.bind (Q := fun o => match o with | .inl _ => True | .inr x => x < q.Atoms.length) ?_ fun o ho => by
  match o, ho with
  | .inl _, _ => exact Ens.of (by omega)
  | .inr x, h => exact Ens.of h
 refine iter_up (f := f106_0 l q) q.Atoms.length (fun i s => s = (i : Int)) _ (fun i s hi h => ?_) (fun s h => ?_) 0 rfl
 ·subst h
  simp only [f106_0]
  rw [if_pos (by omega)]
  obtain ⟨b, eb, _⟩ : Ens (iter (f106_1 l q (i : Int)) (false, 0)) fun _ => True := by
   refine iter_up (f := f106_1 l q (i : Int)) q.Atoms.length (fun j s => s.2 = (j : Int)) _ (fun j s hj h => ?_) (fun s h => ?_) _ rfl
   ·obtain ⟨b, y⟩ := s
    simp only at h
    subst h
    obtain ⟨z, ez, _⟩ := attOk (i := (j : Int)) (k := (i : Int)) hl hq (by omega) (by omega)
    simp only [f106_1]
    rw [if_pos (by omega), ez, bS, w64_succ (by omega)]
    cases b <;> exact ⟨_, rfl, rfl⟩
   ·obtain ⟨b, y⟩ := s
    simp only at h
    subst h
    simp only [f106_1]
    rw [if_neg (by omega)]
    exact ⟨_, rfl, trivial⟩
  rw [eb, bS, w64_succ (by omega)]
  cases b
  ·exact ⟨_, rfl, by simp only; omega⟩
  ·exact ⟨_, rfl, rfl⟩
 ·subst h
  simp only [f106_0]
  rw [if_neg (by omega)]
  exact ⟨_, rfl, trivial⟩
theorem askedOk {k : Nat} (hq : G3 q) (hk : k < q.Atoms.length) : Ens (f107 q (k : Int)) fun r => G3 r ∧ r.Atoms.length + 1 = q.Atoms.length := by
 obtain ⟨g1, g2, g3⟩ := hq
 unfold f107 f150
 have hm : QM q := ⟨by omega, fun a ha => (g2 a ha).2, g3⟩
 have ha := g2 _ (List.getElem_mem hk)
 have vl := avars_len (t := q.Atoms[k].Terms)
 rw [copyQ hm, bS, specIn, w64_of (by omega), bS, show btw (k : Int) 0 ((q.Atoms.length : Int) - 1) = true by unfold btw; simp; omega, if_pos rfl, w64_of (by omega), cutL_ok (by omega) (by omega) (by omega), bS, cutL_ok (by omega) (by omega) (by omega), bS, app_fits (by simp; omega), bS, app_fits (by simp; omega), bS, bS, bS, ix_nat hk, bS, specVars (by omega), bS, bothS (by omega) (by omega), bS]
 refine Ens.of ⟨⟨?_, fun a h => ?_, ?_⟩, ?_⟩
 ·simp; omega
 ·simp only [List.nil_append, List.mem_append] at h
  rcases h with h | h
  ·exact g2 a (List.mem_of_mem_take (List.mem_of_mem_drop h))
  ·exact g2 a (List.mem_of_mem_take (List.mem_of_mem_drop h))
 ·have := nfl_len (X := cupX q.Free.contains (avars q.Atoms[k].Terms).contains)
  simp only; omega
 ·simp; omega
def RW (r : List RewritingStep) : Prop := r.length ≤ 3 ∧ ∀ s ∈ r, (1 ≤ s.Atom.Terms.length ∧ s.Atom.Terms.length ≤ 40) ∧ s.Existential.length ≤ 40 ∧ s.Universal.length ≤ 40
theorem rewOk (hl : Big l.length) (hq : QM q) (h1 : ∀ a ∈ q.Atoms, 1 ≤ a.Terms.length) : Ens (f65 l q) fun r => RW r.1 := by
 unfold f65
 rw [clsSpec hl hq.fits, bS]
 refine Ens.ite (fun _ => Ens.of ⟨by simp, by simp⟩) fun hc => ?_
 have hv : vQuery l q = true := by
  unfold cls at hc
  split at hc
  ·assumption
  ·simp at hc
 have hn := (vq_len hv).1
 rw [copyQ hq, bS]
 refine Ens.bind (Q := fun o => match o with | .inl r => RW r | .inr r => RW r.1) ?_ fun o ho => by
  match o, ho with
  | .inl r, h => exact Ens.of h
  | .inr r, h => exact Ens.of h
 have hg : G3 q := ⟨hn, fun a ha => ⟨h1 a ha, hq.2.1 a ha⟩, hq.2.2⟩
 refine iter_up (f := f65_0 l) q.Atoms.length (fun i s => (s.1.length = i ∧ ∀ r ∈ s.1, (1 ≤ r.Atom.Terms.length ∧ r.Atom.Terms.length ≤ 40) ∧ r.Existential.length ≤ 40 ∧ r.Universal.length ≤ 40) ∧ G3 ⟨s.2.1, s.2.2.1, s.2.2.2⟩ ∧ s.2.2.1.length + i = q.Atoms.length) _ (fun i s hi ⟨⟨s1, s2⟩, s3, s4⟩ => ?_) (fun s ⟨⟨s1, s2⟩, s3, s4⟩ => ?_) _ ⟨⟨rfl, by simp⟩, hg, rfl⟩
 ·obtain ⟨out, v, az, fr⟩ := s
  simp only at s1 s2 s3 s4
  obtain ⟨k, ek, hk⟩ := firstOk hl s3
  simp only at hk
  simp only [f65_0]
  rw [if_pos (by omega), ek, bS]
  by_cases hneg : k < 0
  ·rw [if_pos hneg]
   exact ⟨_, rfl, by simp, by simp⟩
  ·obtain ⟨n, rfl⟩ : ∃ n : Nat, k = n := ⟨k.toNat, by omega⟩
   have hn' : n < az.length := by omega
   have ht := s3.2.1 _ (List.getElem_mem hn')
   have ht : 1 ≤ az[n].Terms.length ∧ az[n].Terms.length ≤ 40 := ht
   obtain ⟨w, ew, w1, w2⟩ := askedOk (q := ⟨v, az, fr⟩) (k := n) s3 hn'
   have kl := kvars_len (l := l) (a := az[n])
   obtain ⟨t, et, t1, t2, t3⟩ : Ens (iter (f65_1 l fr az[n]) (az[n].Relation, [] ++ az[n].Terms, [], [], 0)) fun r => r.2.1 = az[n].Terms ∧ r.2.2.1.length ≤ 4 ∧ r.2.2.2.length ≤ 4 := by
    refine iter_up (f := f65_1 l fr az[n]) 4 (fun j s => s.2.1 = az[n].Terms ∧ (s.2.2.1.length ≤ j ∧ s.2.2.2.1.length ≤ j) ∧ s.2.2.2.2 = (j : Int)) _ (fun j s hj ⟨g1, ⟨g2, g3⟩, g4⟩ => ?_) (fun s ⟨g1, ⟨g2, g3⟩, g4⟩ => ?_) _ ⟨by simp, ⟨by simp, by simp⟩, rfl⟩
    ·obtain ⟨a, b, c, e, j'⟩ := s
     simp only at g1 g2 g3 g4
     subst g4
     have hfr := s3.2.2
     simp only at hfr
     simp only [f65_1]
     rw [if_pos (by omega), hasI (by omega), bS, hasI (by omega), bS, specKV hl (by omega), bS, hasI (by omega), bS, app_fits (by simp; omega), bS, app_fits (by simp; omega), bS, w64_succ (by omega)]
     obtain ⟨u, eu, u1, u2⟩ : Ens (((if fr.contains (j : Int) = true then some true else some (decide ¬(az[n].Terms.contains (j : Int) = true)) : Option Bool).bind fun x_28 => if x_28 = true then some (c, e) else ((if (kvars l az[n]).contains (j : Int) = true then some (c ++ [(j : Int)], e) else some (c, e ++ [(j : Int)])) : Option (List Int × List Int)).bind fun (x : List Int × List Int) => some (x.1, x.2))) fun r => r.1.length ≤ j + 1 ∧ r.2.length ≤ j + 1 := by
      refine Ens.bind (Q := fun _ => True) (Ens.ite (fun _ => Ens.of trivial) fun _ => Ens.of trivial) fun z _ => ?_
      refine Ens.ite (fun _ => Ens.of ⟨by simp only; omega, by simp only; omega⟩) fun _ => ?_
      refine Ens.bind (Q := fun r : List Int × List Int => r.1.length ≤ j + 1 ∧ r.2.length ≤ j + 1) (Ens.ite (fun _ => Ens.of ⟨by simp; omega, by simp only; omega⟩) fun _ => Ens.of ⟨by simp only; omega, by simp; omega⟩) fun r hr => Ens.of hr
     refine ⟨.inl (a, b, u.1, u.2, ((j + 1 : Nat) : Int)), ?_, g1, ⟨u1, u2⟩, rfl⟩
     exact (congrArg (fun o => o.bind fun (x : List Int × List Int) => (some (Sum.inl (a, b, x.1, x.2, ((j + 1 : Nat) : Int))) : Option ((Int × List Int × List Int × List Int × Int) ⊕ (Int × List Int × List Int × List Int)))) eu).trans rfl
    ·obtain ⟨a, b, c, e, j'⟩ := s
     simp only at g1 g2 g3 g4
     subst g4
     simp only [f65_1]
     rw [if_neg (by omega)]
     exact ⟨_, rfl, g1, by simp only; omega, by simp only; omega⟩
   rw [if_neg hneg, ix_nat hn', bS, app_fits (by simp; omega), bS, et, bS]
   rw [app_fits (by simp; omega), bS, ew, bS]
   refine ⟨_, rfl, ⟨by simp; omega, fun r hr => ?_⟩, w1, by simp only at w2 ⊢; omega⟩
   rcases List.mem_append.1 hr with hr | hr
   ·exact s2 r hr
   ·rw [List.mem_singleton] at hr
    subst hr
    refine ⟨?_, ?_, ?_⟩
    ·show 1 ≤ t.2.1.length ∧ t.2.1.length ≤ 40
     rw [t1]; exact ht
    ·show t.2.2.1.length ≤ 40
     omega
    ·show t.2.2.2.length ≤ 40
     omega
 ·obtain ⟨out, v, az, fr⟩ := s
  simp only at s1 s2 s3 s4
  simp only [f65_0]
  rw [if_neg (by omega)]
  exact ⟨_, rfl, by omega, s2⟩
end
theorem formOk {c : L1Cur} {l : List Relation} (h : Cur c) (hl : SigsG l) : Ens (f22 c l) fun r => (r.1.length ≤ 3 ∧ ∀ s ∈ r.1, FitsS s) ∧ Cur r.2 := by
 have hs := hl.small
 unfold f22
 refine Ens.bind (drawQ h hl) fun o1 ⟨⟨q1, q2, q3, q4⟩, hc⟩ => ?_
 refine Ens.bind (rewOk (l := l) (q := o1.1) (by omega) ⟨q2, fun a ha => (q3 a ha).2, q4⟩ fun a ha => (q3 a ha).1) fun o3 h3 => ?_
 refine Ens.bind (Q := RW) (Ens.ite (fun _ => ?_) fun _ => Ens.of h3) fun f hf => ?_
 ·obtain ⟨a, b, rfl, ha, hb⟩ := hl
  have := parseQ0 (a := a) (b := b) ha hb
  unfold s0 at this
  rw [this, bS]
  obtain ⟨_, z2, z3, z4, _⟩ := q0_qs
  exact Ens.bind (rewOk (by omega) ⟨z2, fun a ha => (z3 a ha).2, show q0.Free.length ≤ 40 by omega⟩ fun a ha => (z3 a ha).1) fun o ho => Ens.of ho
 obtain ⟨f1, f2⟩ := hf
 have f3 : ∀ s ∈ f, FitsS s := fun s hs => by
  have := f2 s hs
  exact ⟨by omega, by omega, by omega⟩
 refine Ens.bind (Q := fun s : List Int × Int × Int × Bool => Cur ⟨s.1, s.2.1, s.2.2.1⟩ ∧ (s.2.2.2 = true → 0 < f.length)) (Ens.ite (fun hpos => ?_) fun _ => Ens.of ⟨hc, by simp⟩) fun s ⟨hc1, hp⟩ => ?_
 ·exact Ens.bind (onceB hc) fun o ho => Ens.of ⟨ho, fun _ => by omega⟩
 refine Ens.bind (Q := fun s : List Int × Int × Int × List RewritingStep => (s.2.2.2.length ≤ 3 ∧ ∀ x ∈ s.2.2.2, FitsS x) ∧ Cur ⟨s.1, s.2.1, s.2.2.1⟩) (Ens.ite (fun ht => ?_) fun _ => Ens.of ⟨⟨f1, f3⟩, hc1⟩) fun s hs => Ens.of hs
 have hp := hp ht
 refine Ens.bind (belowOk hc1) fun o24 ⟨k1, _, k2, hc2⟩ => ?_
 have k3 := k2 (by omega)
 have hk : o24.1.toNat < f.length := by omega
 have fk := f2 _ (List.getElem_mem hk)
 have eix : ix f o24.1 = some f[o24.1.toNat] := by rw [ix_of k1, zE hk]
 have put : ∀ z : RewritingStep, FitsS z → ((f.set o24.1.toNat z).length ≤ 3 ∧ ∀ x ∈ f.set o24.1.toNat z, FitsS x) := fun z hz => ⟨by rw [List.length_set]; exact f1, fun x hx => by
  rcases List.mem_or_eq_of_mem_set hx with hx | rfl
  ·exact f3 x hx
  ·exact hz⟩
 refine Ens.bind (belowOk hc2) fun o26 ⟨_, _, _, hc3⟩ => ?_
 refine Ens.bind (Q := fun s : List Int × Int × Int × List RewritingStep => (s.2.2.2.length ≤ 3 ∧ ∀ x ∈ s.2.2.2, FitsS x) ∧ Cur ⟨s.1, s.2.1, s.2.2.1⟩) (Ens.ite (fun _ => ?_) fun _ => ?_) fun s hs => Ens.of hs
 ·refine Ens.bind (belowOk hc3) fun o31 h31 => ?_
  rw [eix, bS]
  exact Ens.of ⟨put _ ⟨by simp only; omega, by simp only; omega, by simp only; omega⟩, h31.2.2.2⟩
 refine Ens.bind (Q := fun s : List Int × Int × Int × List RewritingStep => (s.2.2.2.length ≤ 3 ∧ ∀ x ∈ s.2.2.2, FitsS x) ∧ Cur ⟨s.1, s.2.1, s.2.2.1⟩) (Ens.ite (fun _ => ?_) fun _ => ?_) fun s hs => Ens.of hs
 ·rw [eix, bS]
  refine Ens.bind (pickOk hc3 (by simp)) fun o41 h41 => ?_
  have e0 : ix f[o24.1.toNat].Atom.Terms 0 = some f[o24.1.toNat].Atom.Terms[0] := ix_nat (i := 0) (by omega)
  rw [e0, bS]
  exact Ens.of ⟨put _ ⟨by simp only [List.length_set]; omega, by simp only; omega, by simp only; omega⟩, h41.2⟩
 refine Ens.bind (Q := fun s : List Int × Int × Int × List RewritingStep => (s.2.2.2.length ≤ 3 ∧ ∀ x ∈ s.2.2.2, FitsS x) ∧ Cur ⟨s.1, s.2.1, s.2.2.1⟩) (Ens.ite (fun _ => ?_) fun _ => ?_) fun s hs => Ens.of hs
 ·rw [eix, bS]
  refine Ens.bind (belowOk hc3) fun o52 h52 => ?_
  rw [app_fits (by simp; omega), bS]
  exact Ens.of ⟨put _ ⟨by simp only; omega, by simp; omega, by simp only; omega⟩, h52.2.2.2⟩
 ·rw [eix, bS]
  refine Ens.bind (belowOk hc3) fun o59 h59 => ?_
  rw [app_fits (by simp; omega), bS]
  exact Ens.of ⟨put _ ⟨by simp only; omega, by simp only; omega, by simp; omega⟩, h59.2.2.2⟩
theorem drawRw {code : List Int} (h : code.length ≤ 1048576) : Ens (f6 code) fun r => Fits r.1 ∧ (r.2.1.length ≤ 3 ∧ ∀ s ∈ r.2.1, FitsS s) ∧ r.2.2.length ≤ 6 := by
 unfold f6
 refine Ens.bind (newOk h) fun c hc => ?_
 refine Ens.bind (anyDb hc) fun o3 ⟨hd, hc3⟩ => ?_
 refine Ens.bind (belowOk hc3) fun o5 ⟨n1, _, n2, hc5⟩ => ?_
 have n3 := n2 (by decide)
 obtain ⟨n, hn⟩ : ∃ n : Nat, o5.1 = n := ⟨o5.1.toNat, by omega⟩
 refine Ens.bind (Q := fun s : List Int × Int × Int × List Int => Cur ⟨s.1, s.2.1, s.2.2.1⟩ ∧ s.2.2.2.length ≤ 6) ?_ fun s ⟨hc6, hv⟩ => ?_
 ·rw [hn]
  refine iter_up (f := f6_0) n (fun i s => Cur ⟨s.1, s.2.1, s.2.2.1⟩ ∧ s.2.2.2.1.length ≤ i ∧ s.2.2.2.2 = (n : Int) - i) _ (fun i s hi ⟨g1, g2, g3⟩ => ?_) (fun s ⟨g1, g2, g3⟩ => ?_) _ ⟨hc5, by simp, by simp⟩
  ·obtain ⟨b, x, y, v, m⟩ := s
   simp only at g1 g2 g3
   subst g3
   obtain ⟨z, ez, _, _, _, hz⟩ := belowOk (n := 4) g1
   simp only [f6_0]
   rw [if_pos (by omega), ez, bS, app_fits (by simp; omega), bS, w64_of (n := (n : Int) - i - 1) (by omega)]
   exact ⟨_, rfl, hz, by simp; omega, by simp only; omega⟩
  ·obtain ⟨b, x, y, v, m⟩ := s
   simp only at g1 g2 g3
   subst g3
   simp only [f6_0]
   rw [if_neg (by omega)]
   exact ⟨_, rfl, g1, by simp only; omega⟩
 refine Ens.bind (onceB hc6) fun o23 h23 => ?_
 refine Ens.bind (Q := fun v : List Int => v.length ≤ 6) (Ens.ite (fun _ => Ens.of (by simp)) fun _ => Ens.of hv) fun v hv => ?_
 refine Ens.bind (sigsG h23) fun o29 ⟨hg, hc7⟩ => ?_
 exact Ens.bind (formOk hc7 hg) fun o31 h31 => Ens.of ⟨hd.fits, h31.1, hv⟩
end
section
theorem cloneI {a : List Int} (h : a.length ≤ 1048576) : f116 a = some a := by
 unfold f116
 rw [app_fits (by simp; omega), bS, List.nil_append]
theorem uni_nil {ts vs x : List Int} (h : ts = []) : uni ts vs x = some x := by subst h; rfl
theorem set_same {x : List Int} {i : Nat} {v : Int} (h : i < x.length) (e : x[i] = v) : x.set i v = x := by subst e; exact List.set_getElem_self h
def FitT (n : Nat) (ts vs : List Int) : Prop := ts.length = vs.length ∧ ts.length ≤ 1048576 ∧ ∀ t ∈ ts, -10 ≤ t ∧ t < n
theorem impUni {x ts vs : List Int} (hx : x.length ≤ 8) (h : FitT x.length ts vs) : f71 x ts vs = some (match uni ts vs x with | some y => (y, true) | none => ([], false)) := by
 obtain ⟨h1, h2, h3⟩ := h
 unfold f71
 rw [cloneI (by omega), bS]
 obtain ⟨o, e, rfl⟩ := iter_up (f := f71_0 ts vs) ts.length (fun i s => ∃ y, s = (y, (i : Int)) ∧ uni (ts.drop i) (vs.drop i) y = uni ts vs x ∧ y.length = x.length)
  (fun o => o = (match uni ts vs x with | some y => .inl y | none => .inr ([], false))) (fun i s hi ⟨y, hs, hu, hl⟩ => by
   subst hs
   have hv : i < vs.length := by omega
   have ht := h3 _ (List.getElem_mem hi)
   rw [List.drop_eq_getElem_cons hi, List.drop_eq_getElem_cons hv, uni] at hu
   simp only [f71_0]
   rw [if_pos (by omega), ix_nat hi, bS, w64_succ (by omega)]
   unfold f117 f118
   simp only [bS, ix_nat hv]
   by_cases c1 : ts[i] < 0
   ·rw [if_pos c1] at hu
    rw [if_pos (by simpa using c1), w64_of (by omega)]
    by_cases c2 : -1 - ts[i] = vs[i]
    ·rw [if_pos c2] at hu
     rw [if_neg (by simpa using c2)]
     exact ⟨_, rfl, y, rfl, hu, hl⟩
    ·rw [if_neg c2] at hu
     rw [if_pos (by simpa using c2)]
     refine ⟨_, rfl, ?_⟩
     rw [← hu]
   ·rw [if_neg c1] at hu
    have hb : ts[i].toNat < y.length := by omega
    rw [if_neg (by simpa using c1), ix_of (by omega), zE hb, bS]
    have ed : y.getD ts[i].toNat 0 = y[ts[i].toNat] := by rw [zD, zE hb]; rfl
    rw [ed] at hu
    by_cases c2 : y[ts[i].toNat] < 0
    ·rw [if_pos c2] at hu
     rw [if_pos c2]
     exact ⟨_, rfl, _, rfl, hu, by rw [List.length_set]; exact hl⟩
    ·rw [if_neg c2] at hu
     rw [if_neg c2]
     by_cases c3 : y[ts[i].toNat] = vs[i]
     ·rw [if_pos c3] at hu
      rw [if_neg (by simpa using c3)]
      exact ⟨_, rfl, y, rfl, hu, hl⟩
     ·rw [if_neg c3] at hu
      rw [if_pos (by simpa using c3)]
      refine ⟨_, rfl, ?_⟩
      rw [← hu]) (fun s ⟨y, hs, hu, hl⟩ => by
   subst hs
   simp only [f71_0]
   rw [if_neg (by omega)]
   rw [uni_nil (List.drop_of_length_le (Nat.le_refl _))] at hu
   exact ⟨_, rfl, by rw [← hu]⟩) (x, 0) ⟨x, rfl, by simp, rfl⟩
 rw [e, bS]
 cases uni ts vs x <;> rfl
theorem specMeet {x : List Int} {a : Atom} {f : Fact} (hx : x.length ≤ 8) (h : f.Relation = a.Relation → FitT x.length a.Terms f.Values) :
  Ens (f73 a f x) fun r => match (if f.Relation = a.Relation then uni a.Terms f.Values x else none) with | some y => r = (y, true) | none => r.2 = false := by
 unfold f73
 rw [app_fits (by simp; omega), bS, List.nil_append]
 by_cases hr : f.Relation = a.Relation
 ·obtain ⟨h1, h2, h3⟩ := h hr
  rw [if_pos hr, if_neg (by simpa using hr), bS, if_neg (by simp [h1])]
  refine Ens.bind (Q := fun o => match uni a.Terms f.Values x with | some y => o = .inl y | none => ∃ z, o = .inr (z, false)) ?_ fun o ho => ?_
  ·refine iter_up (f := f73_0 a f) a.Terms.length (fun i s => ∃ y, s = (y, (i : Int)) ∧ uni (a.Terms.drop i) (f.Values.drop i) y = uni a.Terms f.Values x ∧ y.length = x.length) _ (fun i s hi ⟨y, hs, hu, hl⟩ => ?_) (fun s ⟨y, hs, hu, hl⟩ => ?_) (x, 0) ⟨x, rfl, by simp, rfl⟩
   ·subst hs
    have hv : i < f.Values.length := by omega
    have ht := h3 _ (List.getElem_mem hi)
    rw [List.drop_eq_getElem_cons hi, List.drop_eq_getElem_cons hv, uni] at hu
    simp only [f73_0]
    rw [if_pos (by omega), ix_nat hi, bS, w64_succ (by omega)]
    simp only [bS, ix_nat hv]
    by_cases c1 : a.Terms[i] < 0
    ·rw [if_pos c1] at hu
     rw [if_pos c1, w64_of (by omega)]
     by_cases c2 : -1 - a.Terms[i] = f.Values[i]
     ·rw [if_pos c2] at hu
      rw [if_neg (by simpa using c2)]
      exact ⟨_, rfl, y, rfl, hu, hl⟩
     ·rw [if_neg c2] at hu
      rw [if_pos (by simpa using c2)]
      refine ⟨_, rfl, ?_⟩
      dsimp only
      rw [← hu]; exact ⟨_, rfl⟩
    ·rw [if_neg c1] at hu
     have hb : a.Terms[i].toNat < y.length := by omega
     rw [if_neg c1, ix_of (by omega), zE hb, bS]
     have ed : y.getD a.Terms[i].toNat 0 = y[a.Terms[i].toNat] := by rw [zD, zE hb]; rfl
     rw [ed] at hu
     by_cases c2 : y[a.Terms[i].toNat] < 0
     ·rw [if_pos c2] at hu
      rw [if_neg (by omega), bS, if_neg (by simp)]
      exact ⟨_, rfl, _, rfl, hu, by rw [List.length_set]; exact hl⟩
     ·rw [if_neg c2] at hu
      rw [if_pos (by omega), bS]
      by_cases c3 : y[a.Terms[i].toNat] = f.Values[i]
      ·rw [if_pos c3] at hu
       rw [if_neg (by simpa using c3)]
       exact ⟨_, rfl, _, rfl, by rw [set_same hb c3]; exact hu, by rw [List.length_set]; exact hl⟩
      ·rw [if_neg c3] at hu
       rw [if_pos (by simpa using c3)]
       refine ⟨_, rfl, ?_⟩
       dsimp only
       rw [← hu]; exact ⟨_, rfl⟩
   ·subst hs
    simp only [f73_0]
    rw [if_neg (by omega)]
    rw [uni_nil (List.drop_of_length_le (Nat.le_refl _))] at hu
    exact ⟨_, rfl, by rw [← hu]⟩
  ·revert ho
   cases uni a.Terms f.Values x with
   | some y => intro ho; dsimp only at ho; subst ho; exact Ens.of rfl
   | none => rintro ⟨z, rfl⟩; exact Ens.of rfl
 ·rw [if_neg hr, if_pos (by simpa using hr), bS, if_pos rfl]
  exact Ens.of rfl
theorem noneOk {n : Int} (h0 : 0 ≤ n) (h4 : n ≤ 4) : f28 n = some (List.replicate n.toNat (-1)) := by
 unfold f28
 have := iter_steps (f := f28_0 n) (fun i => List.replicate i (-1)) n.toNat (List.replicate n.toNat (-1)) (fun i hi => by
  simp only [f28_0]
  rw [if_pos (by simp; omega), app_fits (by simp; omega), bS, List.replicate_succ']) (by
  simp only [f28_0]
  rw [if_neg (by simp <;> omega)])
 simp only [List.replicate_zero] at this
 rw [this]; rfl
theorem unknownOk {n : Int} (h0 : 0 ≤ n) (h4 : n ≤ 4) : f25 n = some (List.replicate n.toNat (-1)) := by
 have : n = 0 ∨ n = 1 ∨ n = 2 ∨ n = 3 ∨ n = 4 := by omega
 unfold f25 f70
 rcases this with rfl | rfl | rfl | rfl | rfl
 ·have e : f115 (IntKind.u64.wrap (([-1] : List Int).length : Int)) (IntKind.u64.wrap 0) = some (0, 0) := by decide
  rw [e]
  rw [if_neg (by decide), bS, bS, if_neg (by decide), bS, if_neg (by decide), bS, w64_of (by decide), mkl_ok (by decide) (by decide) (by decide), bS]
  exact (congrArg (fun o => (Option.bind o fun o => some o).bind fun o => some o) (iter_of (f := f70_0) (n := 5) (s := ([], 0)) (r := []) (by decide)))
 ·have e : f115 (IntKind.u64.wrap (([-1] : List Int).length : Int)) (IntKind.u64.wrap 1) = some (0, 1) := by decide
  rw [e]
  rw [if_neg (by decide), bS, bS, if_neg (by decide), bS, if_neg (by decide), bS, w64_of (by decide), mkl_ok (by decide) (by decide) (by decide), bS]
  exact (congrArg (fun o => (Option.bind o fun o => some o).bind fun o => some o) (iter_of (f := f70_0) (n := 5) (s := ([-1], 1)) (r := [-1]) (by decide)))
 ·have e : f115 (IntKind.u64.wrap (([-1] : List Int).length : Int)) (IntKind.u64.wrap 2) = some (0, 2) := by decide
  rw [e]
  rw [if_neg (by decide), bS, bS, if_neg (by decide), bS, if_neg (by decide), bS, w64_of (by decide), mkl_ok (by decide) (by decide) (by decide), bS]
  exact (congrArg (fun o => (Option.bind o fun o => some o).bind fun o => some o) (iter_of (f := f70_0) (n := 5) (s := ([-1, 0], 1)) (r := [-1, -1]) (by decide)))
 ·have e : f115 (IntKind.u64.wrap (([-1] : List Int).length : Int)) (IntKind.u64.wrap 3) = some (0, 3) := by decide
  rw [e]
  rw [if_neg (by decide), bS, bS, if_neg (by decide), bS, if_neg (by decide), bS, w64_of (by decide), mkl_ok (by decide) (by decide) (by decide), bS]
  exact (congrArg (fun o => (Option.bind o fun o => some o).bind fun o => some o) (iter_of (f := f70_0) (n := 5) (s := ([-1, 0, 0], 1)) (r := [-1, -1, -1]) (by decide)))
 ·have e : f115 (IntKind.u64.wrap (([-1] : List Int).length : Int)) (IntKind.u64.wrap 4) = some (0, 4) := by decide
  rw [e]
  rw [if_neg (by decide), bS, bS, if_neg (by decide), bS, if_neg (by decide), bS, w64_of (by decide), mkl_ok (by decide) (by decide) (by decide), bS]
  exact (congrArg (fun o => (Option.bind o fun o => some o).bind fun o => some o) (iter_of (f := f70_0) (n := 5) (s := ([-1, 0, 0, 0], 1)) (r := [-1, -1, -1, -1]) (by decide)))
end
section
end
section
variable {d : Database} {q : Query}
end
section
variable {d : Database} {q : Query}
end
section
variable {d : Database} {q : Query}
def nums (l : List Int) : Prop := l.length ≤ 1048576 ∧ ∀ v ∈ l, 0 ≤ v ∧ v ≤ 1048576
theorem blks_nums {B : List Int} (h14 : d.Facts.length ≤ 14) (h : B ∈ blks (skOf d) d.Facts.length d.Facts.length) : nums B ∧ B.length ≤ 14 := by
 obtain ⟨s, _, _, rfl⟩ := mem_blks.1 h
 have hl := blk_len (sk := skOf d) (i := s) (x := d.Facts.length)
 refine ⟨⟨by omega, fun v hv => ?_⟩, by omega⟩
 obtain ⟨k, k1, rfl, _⟩ := blk_mem.1 hv
 omega
def bks (d : Database) : List (List Int) := blks (skOf d) d.Facts.length d.Facts.length
theorem bks_few (h : d.Facts.length ≤ 14) : (bks d).length ≤ 14 ∧ ∀ x ∈ bks d, x.length ≤ 14 := by
 have := blks_len (sk := skOf d) (y := d.Facts.length) (x := d.Facts.length)
 exact ⟨by unfold bks; omega, fun x hx => (blks_nums h hx).2⟩
end
section
variable {d : Database}
def nrm (x : List Int) : List Int := x.map fun v => if v > -1 then v else -1
theorem nrm_len {x : List Int} : (nrm x).length = x.length := by simp [nrm]
theorem nrm_get {x : List Int} {i : Nat} (h : i < x.length) : (nrm x).getD i 0 = if x.getD i 0 > -1 then x.getD i 0 else -1 := by
 rw [zD, zD, zE (by rw [nrm_len]; exact h), zE h]
 simp [nrm]
theorem uni_nrm : ∀ {ts vs x : List Int}, (∀ t ∈ ts, t < x.length) → (∀ v ∈ vs, 0 ≤ v) → uni ts vs (nrm x) = (uni ts vs x).map nrm
 | [], vs, x, _, _ => by simp [uni]
 | t :: ts, [], x, _, _ => by simp [uni]
 | t :: ts, v :: vs, x, h1, h2 => by
  have ht := h1 t (by simp)
  have hv := h2 v (by simp)
  have h1' : ∀ t ∈ ts, t < x.length := fun s hs => h1 s (by simp [hs])
  have h2' : ∀ v ∈ vs, 0 ≤ v := fun s hs => h2 s (by simp [hs])
  rw [uni, uni]
  by_cases c1 : t < 0
  ·rw [if_pos c1, if_pos c1]
   split
   ·exact uni_nrm h1' h2'
   ·rfl
  ·rw [if_neg c1, if_neg c1, nrm_get (by omega)]
   by_cases c2 : x.getD t.toNat 0 < 0
   ·rw [if_pos c2, if_pos (by split <;> omega)]
    have e : (nrm x).set t.toNat v = nrm (x.set t.toNat v) := by
     unfold nrm
     rw [List.map_set, if_pos (by omega)]
    rw [e]
    exact uni_nrm (fun s hs => by rw [List.length_set]; exact h1' s hs) h2'
   ·have e2 : (if x.getD t.toNat 0 > -1 then x.getD t.toNat 0 else -1) = x.getD t.toNat 0 := if_pos (by omega)
    rw [e2, if_neg c2, if_neg c2]
    split
    ·exact uni_nrm h1' h2'
    ·rfl
def ev (d : Database) : List RewritingStep → List Int → Bool
 | [], _ => true
 | r :: rs, x => (bks d).any fun b => decide ((fat d (b.getD 0 0)).Relation = r.Atom.Relation) && match uni (r.Atom.Terms.take (keyLen d.Relations r.Atom.Relation).toNat) ((fat d (b.getD 0 0)).Values.take (keyLen d.Relations r.Atom.Relation).toNat) x with
  | none => false
  | some y => b.all fun i => match uni r.Atom.Terms (fat d i).Values y with
   | none => false
   | some z => ev d rs z
structure OkS (d : Database) (r : RewritingStep) : Prop where
 rel : btw r.Atom.Relation 0 (d.Relations.length - 1) = true
 len : (r.Atom.Terms.length : Int) = arity d.Relations r.Atom.Relation
 rng : ∀ t ∈ r.Atom.Terms, -10 ≤ t ∧ t < 4
structure OkB (d : Database) (b : List Int) : Prop where
 ne : 0 < b.length
 ln : b.length ≤ 14
 rng : ∀ v ∈ b, 0 ≤ v ∧ v < d.Facts.length
 rel : ∀ v ∈ b, (fat d v).Relation = (fat d (b.getD 0 0)).Relation
theorem okb (hv : vDb d = true) {b : List Int} (h : b ∈ bks d) : OkB d b := by
 have h14 := (vDb_of hv).2.1
 have hn := blks_nums h14 h
 have K := kin hv
 obtain ⟨s, s1, s2, rfl⟩ := mem_blks.1 h
 have hm : ((s : Nat) : Int) ∈ blk (skOf d) s d.Facts.length := blk_mem.2 ⟨s, s1, rfl, K.refl s s1⟩
 have hne : 0 < (blk (skOf d) s d.Facts.length).length := List.length_pos_of_mem hm
 have hrel : ∀ v ∈ blk (skOf d) s d.Facts.length, (0 ≤ v ∧ v < d.Facts.length) ∧ (fat d v).Relation = (fat d ((s : Nat) : Int)).Relation := fun v hv' => by
  obtain ⟨k, k1, rfl, k3⟩ := blk_mem.1 hv'
  refine ⟨by omega, ?_⟩
  rw [sk_get s1 k1] at k3
  unfold same at k3
  simp only [Bool.and_eq_true, decide_eq_true_eq] at k3
  rw [fat_get k1, fat_get s1]
  exact k3.1.symm
 have h0 : (blk (skOf d) s d.Facts.length).getD 0 0 ∈ blk (skOf d) s d.Facts.length := by
  rw [zD, zE hne]
  exact List.getElem_mem hne
 exact ⟨hne, hn.2, fun v hv' => (hrel v hv').1, fun v hv' => by rw [(hrel v hv').2, (hrel _ h0).2]⟩
theorem getD0 {b : List Int} (h : 0 < b.length) : b.getD 0 0 = b[0] := by rw [zD, zE h]; rfl
theorem fact_at (hv : vDb d = true) {v : Int} (h : 0 ≤ v ∧ v < d.Facts.length) : vFact d.Relations (fat d v) = true := by
 obtain ⟨k, hk, e⟩ := List.getElem_of_mem (fat_mem h)
 rw [← e]; exact fact_ok hv hk
theorem fact_vals (hv : vDb d = true) {v : Int} (h : 0 ≤ v ∧ v < d.Facts.length) : ((fat d v).Values.length : Int) = arity d.Relations (fat d v).Relation ∧ (fat d v).Values.length ≤ 3 ∧ ∀ w ∈ (fat d v).Values, 0 ≤ w := by
 have hf := fact_at hv h
 unfold vFact at hf
 simp only [Bool.and_eq_true, decide_eq_true_eq] at hf
 have ha := vRels_arity (vDb_of hv).1 hf.1
 refine ⟨hf.2.1, by omega, fun w hw => ?_⟩
 have := List.all_eq_true.1 hf.2.2 w hw
 simp only [btw, Bool.and_eq_true, decide_eq_true_eq] at this
 omega
theorem ix_fat {v : Int} (h : 0 ≤ v ∧ v < d.Facts.length) : ix d.Facts v = some (fat d v) := by
 rw [ix_of h.1, zE (by omega)]
 congr 1
 have e : v = ((v.toNat : Nat) : Int) := by omega
 conv => rhs; rw [e]
 exact (fat_get (by omega)).symm
theorem fit_full (hv : vDb d = true) {r : RewritingStep} (hr : OkS d r) {x : List Int} (hx : x.length = 4) {v : Int} (h : 0 ≤ v ∧ v < d.Facts.length) (e : (fat d v).Relation = r.Atom.Relation) : FitT x.length r.Atom.Terms (fat d v).Values := by
 obtain ⟨a1, a2, a3⟩ := fact_vals hv h
 have := hr.len
 rw [e] at a1
 refine ⟨by omega, by omega, fun t ht => ?_⟩
 have := hr.rng t ht
 omega
theorem fit_key (hv : vDb d = true) {r : RewritingStep} (hr : OkS d r) {x : List Int} (hx : x.length = 4) {v : Int} (h : 0 ≤ v ∧ v < d.Facts.length) (e : (fat d v).Relation = r.Atom.Relation) (n : Nat) : FitT x.length (r.Atom.Terms.take n) ((fat d v).Values.take n) := by
 obtain ⟨f1, f2, f3⟩ := fit_full hv hr hx h e
 refine ⟨by rw [List.length_take, List.length_take, f1], by rw [List.length_take]; omega, fun t ht => f3 t (List.mem_of_mem_take ht)⟩
theorem key_of (hv : vDb d = true) {r : RewritingStep} (hr : OkS d r) : ∃ x, ix d.Relations r.Atom.Relation = some x ∧ x.KeyLength = keyLen d.Relations r.Atom.Relation ∧ 0 ≤ x.KeyLength ∧ x.KeyLength ≤ r.Atom.Terms.length := by
 obtain ⟨x, h1, h2, h3, h4⟩ := ix_rel hr.rel
 have hx := vRel_mem (vDb_of hv).1 h2
 unfold vRel at hx
 simp only [btw, Bool.and_eq_true, decide_eq_true_eq] at hx
 have := hr.len
 exact ⟨x, h1, h4, by omega, by omega⟩
theorem ev_nrm (hv : vDb d = true) : ∀ {rs : List RewritingStep} {x : List Int}, (∀ r ∈ rs, OkS d r) → x.length = 4 → ev d rs (nrm x) = ev d rs x
 | [], x, _, _ => rfl
 | r :: rs, x, hr, hx => by
  rw [ev, ev]
  have hr0 := hr r (by simp)
  refine any_mem_congr fun b hb => ?_
  have ob := okb hv hb
  by_cases e : (fat d (b.getD 0 0)).Relation = r.Atom.Relation
  ·rw [decide_eq_true e, Bool.true_and, Bool.true_and]
   have h0 : b.getD 0 0 ∈ b := by rw [getD0 ob.ne]; exact List.getElem_mem _
   have hk := fit_key hv hr0 hx (ob.rng _ h0) e (keyLen d.Relations r.Atom.Relation).toNat
   rw [uni_nrm (fun t ht => (hk.2.2 t ht).2) (fun w hw => (fact_vals hv (ob.rng _ h0)).2.2 w (List.mem_of_mem_take hw))]
   cases hu : uni (r.Atom.Terms.take (keyLen d.Relations r.Atom.Relation).toNat) ((fat d (b.getD 0 0)).Values.take (keyLen d.Relations r.Atom.Relation).toNat) x with
   | none => rfl
   | some y =>
    have hy := uni_len hu
    dsimp only [Option.map_some]
    refine all_mem_congr fun i hi => ?_
    have hf := fit_full hv hr0 (x := y) (by omega) (ob.rng i hi) (by rw [ob.rel i hi, e])
    rw [uni_nrm (fun t ht => (hf.2.2 t ht).2) (fun w hw => (fact_vals hv (ob.rng i hi)).2.2 w hw)]
    cases hz : uni r.Atom.Terms (fat d i).Values y with
    | none => rfl
    | some z =>
     have hzl := uni_len hz
     dsimp only [Option.map_some]
     exact ev_nrm hv (fun s hs => hr s (by simp [hs])) (by omega)
  ·rw [decide_eq_false e, Bool.false_and, Bool.false_and]
end
section
variable {d : Database}
theorem iter_while {α : Type} {f : Bool × Int → Option ((Bool × Int) ⊕ Bool)} (L : List α) (c : α → Bool) (x : Bool)
  (hs : ∀ (i : Nat) (h : i < L.length), f (true, (i : Int)) = some (.inl (c L[i], ((i + 1 : Nat) : Int)))) (hf : ∀ (i : Nat), i ≤ L.length → f (false, (i : Int)) = some (.inr false)) (he : f (true, (L.length : Int)) = some (.inr true)) :
  iter f (x, 0) = some (x && L.all c) := by
 obtain ⟨o, h1, h2⟩ := iter_up (f := f) L.length (fun k t => t = (x && (L.take k).all c, (k : Int))) (fun o => o = (x && L.all c)) (fun k t hk h => by
  subst h
  cases hc : x && (L.take k).all c
  ·refine ⟨_, hf k (by omega), ?_⟩
   dsimp only
   symm
   rw [Bool.and_eq_false_iff] at hc ⊢
   rcases hc with hc | hc
   ·exact .inl hc
   ·refine .inr ?_
    rw [Bool.eq_false_iff]
    intro ha
    rw [Bool.eq_false_iff] at hc
    exact hc (List.all_eq_true.2 fun v hv => List.all_eq_true.1 ha v (List.mem_of_mem_take hv))
  ·refine ⟨_, hs k hk, ?_⟩
   dsimp only
   rw [take_succ' hk, List.all_append, ← Bool.and_assoc, hc]
   simp) (fun t h => by
  subst h
  rw [List.take_of_length_le (Nat.le_refl _)]
  cases x && L.all c
  ·exact ⟨_, hf _ (Nat.le_refl _), rfl⟩
  ·exact ⟨_, he, rfl⟩) (x, 0) (by simp)
 rw [h1, h2]
theorem cut0 {l : List Int} {n : Int} (h0 : 0 ≤ n) (h : n ≤ l.length) : cutL l 0 n = some (l.take n.toNat) := by
 rw [cutL_ok (by omega) h0 h]; simp
theorem evImp (hv : vDb d = true) (hf : Fits d) : ∀ (n : Nat) {rs : List RewritingStep} {x : List Int}, rs.length < n → (∀ r ∈ rs, OkS d r) → x.length = 4 → rs.length ≤ 3 → f26 n d (bks d) rs x = some (ev d rs x)
  | 0, rs, x, h, _, _, _ => by omega
  | n + 1, [], x, _, _, _, _ => by
    rw [f26]
    dsimp only
    rw [if_pos (by simp)]; rfl
  | n + 1, r :: rs, x, hn, hr, hx, h3 => by
    have hr0 := hr r (by simp)
    have h14 := (vDb_of hv).2.1
    have hB := bks_few h14
    obtain ⟨rl, k1, k2, k3, k4⟩ := key_of hv hr0
    simp only [List.length_cons] at hn h3
    rw [f26]
    dsimp only
    rw [if_neg (by simp only [List.length_cons]; omega), ix_of (by omega)]
    simp only [Int.toNat_zero, List.getElem?_cons_zero, bS, k1]
    rw [iter_ex (f := f26_0 d (bks d) (r :: rs) x (f26 n) r rl) (bks d) (fun b => decide ((fat d (b.getD 0 0)).Relation = r.Atom.Relation) && match uni (r.Atom.Terms.take (keyLen d.Relations r.Atom.Relation).toNat) ((fat d (b.getD 0 0)).Values.take (keyLen d.Relations r.Atom.Relation).toNat) x with
      | none => false
      | some y => b.all fun i => match uni r.Atom.Terms (fat d i).Values y with
        | none => false
        | some z => ev d rs z) true (fun i hi => by
      have ob := okb hv (List.getElem_mem hi)
      have h0 : (bks d)[i].getD 0 0 ∈ (bks d)[i] := by rw [getD0 ob.ne]; exact List.getElem_mem _
      have hr1 := ob.rng _ h0
      simp only [f26_0]
      rw [if_pos (by omega), ix_nat hi, bS, ix_of (l := (bks d)[i]) (by omega), zE (by simpa using ob.ne), bS]
      simp only [Int.toNat_zero]
      rw [← getD0 ob.ne, ix_fat hr1, bS, w64_succ (by omega)]
      by_cases e : (fat d ((bks d)[i].getD 0 0)).Relation = r.Atom.Relation
      · have hfv := fact_vals hv hr1
        have hl := hr0.len
        rw [e] at hfv
        rw [if_neg (by simpa using e), cut0 k3 k4, bS, cut0 k3 (by omega), bS, k2, impUni (by omega) (fit_key hv hr0 hx hr1 e _), bS, decide_eq_true e, Bool.true_and]
        have it : ∀ (y : List Int) (b0 : Bool), y.length = 4 ∨ b0 = false → iter (f26_1 d (bks d) (r :: rs) (f26 n) r (bks d)[i] (y, b0)) (b0, 0) = some (b0 && (bks d)[i].all fun i => match uni r.Atom.Terms (fat d i).Values y with
            | none => false
            | some z => ev d rs z) := fun y b0 hy => by
          by_cases hb : b0 = false
          · subst hb
            rw [iter_eq]
            simp only [f26_1]
            by_cases hlt : (0 : Int) < (bks d)[i].length
            · rw [if_pos hlt]; simp
            · rw [if_neg hlt]; simp
          · have hy4 := hy.resolve_right hb
            simp only [Bool.not_eq_false] at hb
            subst hb
            refine iter_while (bks d)[i] _ true (fun j hj => ?_) (fun j hj => ?_) ?_
            · have hjr := ob.rng _ (List.getElem_mem hj)
              have hje := ob.rel _ (List.getElem_mem hj)
              simp only [f26_1]
              rw [if_pos (by omega), bS, if_pos rfl, ix_nat hj, bS, ix_fat hjr, bS, impUni (by omega) (fit_full hv hr0 hy4 hjr (by rw [hje, e])), bS, w64_succ (by have := ob.ln; omega)]
              cases hu : uni r.Atom.Terms (fat d (bks d)[i][j]).Values y with
              | none => simp
              | some z =>
                have hz := uni_len hu
                dsimp only
                rw [if_pos rfl, cutL_ok (by omega) (by simp only [List.length_cons]; omega) (by omega), bS]
                have ed : ((r :: rs).take (((r :: rs).length : Nat) : Int).toNat).drop (1 : Int).toNat = rs := by simp
                rw [ed, evImp hv hf n (by omega) (fun s hs => hr s (by simp [hs])) (by omega) (by omega)]
                rfl
            · simp only [f26_1]
              by_cases hlt : (j : Int) < (bks d)[i].length
              · rw [if_pos hlt]; simp
              · rw [if_neg hlt]; simp
            · simp only [f26_1]
              rw [if_neg (by omega)]; simp
        cases hu : uni (r.Atom.Terms.take (keyLen d.Relations r.Atom.Relation).toNat) ((fat d ((bks d)[i].getD 0 0)).Values.take (keyLen d.Relations r.Atom.Relation).toNat) x with
        | none =>
          dsimp only
          rw [it [] false (.inr rfl)]
          simp
        | some y =>
          have hy := uni_len hu
          dsimp only
          rw [it y true (.inl (by omega)), bS, Bool.true_and]
          split <;> simp
      · rw [if_pos (by simpa using e), decide_eq_false e, Bool.false_and]
        simp) (by
      simp only [f26_0]
      rw [if_neg (by omega)])]
    rw [ev]
    cases hcase : (bks d).any fun b => decide ((fat d (b.getD 0 0)).Relation = r.Atom.Relation) && match uni (r.Atom.Terms.take (keyLen d.Relations r.Atom.Relation).toNat) ((fat d (b.getD 0 0)).Values.take (keyLen d.Relations r.Atom.Relation).toNat) x with
      | none => false
      | some y => b.all fun i => match uni r.Atom.Terms (fat d i).Values y with
        | none => false
        | some z => ev d rs z
    · rfl
    · rfl
theorem evSpec (hv : vDb d = true) (hf : Fits d) {f : List RewritingStep} (hr : ∀ r ∈ f, OkS d r) (h3 : f.length ≤ 3) : ∀ (n : Nat) {k : Nat} {x : List Int}, f.length < n + k → k ≤ f.length → x.length = 4 → f29 n d f (k : Int) x = some (ev d (f.drop k) x)
  | 0, k, x, h, hk, _ => by omega
  | n + 1, k, x, hn, hk, hx => by
    rw [f29]
    dsimp only
    by_cases hke : k = f.length
    · rw [if_pos (by omega), List.drop_of_length_le (by omega)]; rfl
    have hkl : k < f.length := by omega
    have hr0 := hr _ (List.getElem_mem hkl)
    have h14 := (vDb_of hv).2.1
    have hB := bks_few h14
    obtain ⟨rl, k1, k2, k3, k4⟩ := key_of hv hr0
    have hblk : f58 d = some (bks d) := blocksSpec hv hf
    rw [if_neg (by omega), ix_nat hkl, bS, k1, bS, hblk, bS, List.drop_eq_getElem_cons hkl]
    rw [iter_ex (f := f29_0 d f (k : Int) x (f29 n) f[k] rl (bks d)) (bks d) (fun b => decide ((fat d (b.getD 0 0)).Relation = f[k].Atom.Relation) && match uni (f[k].Atom.Terms.take (keyLen d.Relations f[k].Atom.Relation).toNat) ((fat d (b.getD 0 0)).Values.take (keyLen d.Relations f[k].Atom.Relation).toNat) x with
      | none => false
      | some y => b.all fun i => match uni f[k].Atom.Terms (fat d i).Values y with
        | none => false
        | some z => ev d (f.drop (k + 1)) z) true (fun i hi => by
      have ob := okb hv (List.getElem_mem hi)
      have h0 : (bks d)[i].getD 0 0 ∈ (bks d)[i] := by rw [getD0 ob.ne]; exact List.getElem_mem _
      have hr1 := ob.rng _ h0
      simp only [f29_0]
      rw [if_pos (by omega), ix_nat hi, bS, ix_of (l := (bks d)[i]) (by omega), zE (by simpa using ob.ne), bS]
      simp only [Int.toNat_zero]
      rw [← getD0 ob.ne, ix_fat hr1, bS, w64_succ (i := i) (by omega)]
      by_cases e : (fat d ((bks d)[i].getD 0 0)).Relation = f[k].Atom.Relation
      · have hfv := fact_vals hv hr1
        have hl := hr0.len
        rw [e] at hfv
        obtain ⟨o, ho, hoq⟩ := specMeet (x := x) (a := ⟨f[k].Atom.Relation, f[k].Atom.Terms.take rl.KeyLength.toNat⟩) (f := ⟨f[k].Atom.Relation, (fat d ((bks d)[i].getD 0 0)).Values.take rl.KeyLength.toNat⟩) (by omega) (fun _ => fit_key hv hr0 hx hr1 e _)
        rw [if_neg (by simpa using e), cut0 k3 k4, bS, cut0 k3 (by omega), bS, ho, bS, decide_eq_true e, Bool.true_and, ← k2]
        rw [if_pos rfl] at hoq
        have it : ∀ (y : List Int) (b0 : Bool), y.length = 4 ∨ b0 = false → iter (f29_1 d f (k : Int) (f29 n) f[k] (bks d) (i : Int) (y, b0)) (b0, 0) = some (b0 && (bks d)[i].all fun i => match uni f[k].Atom.Terms (fat d i).Values y with
            | none => false
            | some z => ev d (f.drop (k + 1)) z) := fun y b0 hy => by
          by_cases hb : b0 = false
          · subst hb
            rw [iter_eq]
            simp only [f29_1]
            rw [ix_nat hi, bS]
            by_cases hlt : (0 : Int) < (bks d)[i].length
            · rw [if_pos hlt]; simp
            · rw [if_neg hlt]; simp
          · have hy4 := hy.resolve_right hb
            simp only [Bool.not_eq_false] at hb
            subst hb
            refine iter_while (bks d)[i] _ true (fun j hj => ?_) (fun j hj => ?_) ?_
            · have hjr := ob.rng _ (List.getElem_mem hj)
              have hje := ob.rel _ (List.getElem_mem hj)
              obtain ⟨o2, ho2, hq2⟩ := specMeet (x := y) (a := f[k].Atom) (f := fat d (bks d)[i][j]) (by omega) (fun h => fit_full hv hr0 hy4 hjr h)
              rw [if_pos (by rw [hje, e])] at hq2
              simp only [f29_1]
              rw [ix_nat hi, bS, if_pos (by omega), bS, if_pos rfl, ix_nat hj, bS, ix_fat hjr, bS, ho2, bS, w64_succ (i := j) (by have := ob.ln; omega)]
              cases hu : uni f[k].Atom.Terms (fat d (bks d)[i][j]).Values y with
              | none =>
                rw [hu] at hq2
                dsimp only at hq2
                rw [hq2]; simp
              | some z =>
                rw [hu] at hq2
                dsimp only at hq2
                subst hq2
                have hz := uni_len hu
                dsimp only
                rw [if_pos rfl, w64_succ (i := k) (by omega), evSpec hv hf hr h3 n (by omega) (by omega) (by omega)]
                rfl
            · simp only [f29_1]
              rw [ix_nat hi, bS]
              by_cases hlt : (j : Int) < (bks d)[i].length
              · rw [if_pos hlt]; simp
              · rw [if_neg hlt]; simp
            · simp only [f29_1]
              rw [ix_nat hi, bS, if_neg (by omega)]; simp
        cases hu : uni (f[k].Atom.Terms.take rl.KeyLength.toNat) ((fat d ((bks d)[i].getD 0 0)).Values.take rl.KeyLength.toNat) x with
        | none =>
          rw [hu] at hoq
          dsimp only at hoq ⊢
          obtain ⟨o1, o2⟩ := o
          simp only at hoq
          subst hoq
          rw [it o1 false (.inr rfl)]
          simp
        | some y =>
          rw [hu] at hoq
          dsimp only at hoq ⊢
          subst hoq
          have hy := uni_len hu
          rw [it y true (.inl (by omega)), bS, Bool.true_and]
          split <;> simp
      · rw [if_pos (by simpa using e), decide_eq_false e, Bool.false_and]
        simp) (by
      simp only [f29_0]
      rw [if_neg (by omega)])]
    rw [ev]
    cases hcase : (bks d).any fun b => decide ((fat d (b.getD 0 0)).Relation = f[k].Atom.Relation) && match uni (f[k].Atom.Terms.take (keyLen d.Relations f[k].Atom.Relation).toNat) ((fat d (b.getD 0 0)).Values.take (keyLen d.Relations f[k].Atom.Relation).toNat) x with
      | none => false
      | some y => b.all fun i => match uni f[k].Atom.Terms (fat d i).Values y with
        | none => false
        | some z => ev d (f.drop (k + 1)) z
    · rfl
    · rfl
def pad (x : List Int) : List Int := x ++ List.replicate (4 - x.length) (-1)
def evalR (d : Database) (f : List RewritingStep) (x : List Int) : Bool := vDb d && (vRw d.Relations f && (decide (x.length ≤ 4) && ev d f (pad x)))
theorem rw_ok {f : List RewritingStep} (hv : vRw d.Relations f = true) : (∀ r ∈ f, OkS d r) ∧ f.length ≤ 3 := by
 unfold vRw at hv
 simp only [Bool.and_eq_true, decide_eq_true_eq] at hv
 refine ⟨fun r hr => ?_, hv.2⟩
 have := List.all_eq_true.1 hv.1 r hr
 unfold vStep at this
 simp only [Bool.and_eq_true, decide_eq_true_eq] at this
 refine ⟨this.2.1, this.2.2.1, fun t ht => ?_⟩
 have h2 := List.all_eq_true.1 this.2.2.2.1 t ht
 simp only [btw, Bool.and_eq_true, decide_eq_true_eq] at h2
 omega
theorem pad_len {x : List Int} (h : x.length ≤ 4) : (pad x).length = 4 := by
 unfold pad
 rw [List.length_append, List.length_replicate]; omega
theorem evalImp {f : List RewritingStep} {x : List Int} (hf : Fits d) (hff : f.length ≤ 1048576 ∧ ∀ r ∈ f, FitsS r) (hx : x.length ≤ 1048576) : f7 d f x = some (evalR d f x) := by
 unfold f7 evalR
 have hr := fits_room hf
 rw [impDb hr, bS]
 cases hv : vDb d
 ·simp
 ·rw [if_neg (by simp), impRw hr.1 (by omega) hff.2, bS]
  cases hw : vRw d.Relations f
  ·simp
  ·obtain ⟨o1, o2⟩ := rw_ok hw
   by_cases h4 : x.length ≤ 4
   ·rw [if_neg (by simp), bS, bS, if_neg (by simp; omega), unknownOk (by omega) (by omega), bS]
    have hb : f27 d = some (bks d) := blocksImp hv hf
    have hn : nel (List.replicate (4 : Int).toNat (-1 : Int)) = some () := by decide
    have hc : cpL (List.replicate (4 : Int).toNat (-1)) x = pad x := by
     unfold cpL pad
     rw [List.length_replicate, List.take_of_length_le (by omega), List.drop_replicate]; rfl
    rw [hn, bS, hc, hb, bS, evImp hv hf 64 (by omega) o1 (pad_len h4) o2, decide_eq_true h4]
    simp
   ·rw [if_neg (by simp), bS, bS, if_pos (by simp; omega), decide_eq_false h4]
    simp
theorem evalSpec {f : List RewritingStep} {x : List Int} (hf : Fits d) (hff : f.length ≤ 1048576 ∧ ∀ r ∈ f, FitsS r) (hx : x.length ≤ 1048576) : f8 d f x = some (evalR d f x) := by
 unfold f8 evalR
 have hr := fits_room hf
 rw [specDb hr, bS]
 cases hv : vDb d
 ·simp
 ·rw [if_neg (by simp), specRw hr.1 (by omega) hff.2, bS]
  cases hw : vRw d.Relations f
  ·simp
  ·obtain ⟨o1, o2⟩ := rw_ok hw
   by_cases h4 : x.length ≤ 4
   ·rw [if_neg (by simp), bS, bS, if_neg (by simp; omega), noneOk (by omega) (by omega), bS]
    have it := iter_steps (f := f8_0 x) (fun i => (nrm (x.take i) ++ List.replicate (4 - i) (-1), (i : Int))) x.length (nrm (pad x)) (fun i hi => by
     have hl : (nrm (x.take i)).length = i := by rw [nrm_len, List.length_take]; omega
     simp only [f8_0]
     rw [if_pos (by omega), ix_nat hi, bS, ix_nat (by rw [List.length_append, hl, List.length_replicate]; omega), bS, w64_succ (by omega), Int.toNat_natCast, List.set_append_right _ _ (by omega), hl, Nat.sub_self, show 4 - i = (4 - (i + 1)) + 1 by omega, List.replicate_succ, List.set_cons_zero, take_succ' hi]
     unfold nrm
     rw [List.map_append]
     simp) (by
     simp only [f8_0]
     rw [if_neg (by omega), List.take_of_length_le (Nat.le_refl _)]
     unfold nrm pad
     rw [List.map_append, List.map_replicate]; rfl)
    simp only [List.take_zero, nrm, List.map_nil, List.nil_append, Nat.sub_zero, Int.natCast_zero, Int.ofNat_zero] at it
    have e4 : (4 : Int).toNat = 4 := rfl
    rw [e4]
    erw [it]
    rw [bS]
    have := evSpec hv hf o1 o2 64 (k := 0) (x := nrm (pad x)) (by omega) (by omega) (by rw [nrm_len]; exact pad_len h4)
    have e0 : ((0 : Nat) : Int) = 0 := rfl
    rw [e0] at this
    unfold nrm at this
    rw [this, bS, List.drop_zero]
    have hn := ev_nrm hv o1 (pad_len h4)
    unfold nrm at hn
    rw [hn, decide_eq_true h4]
    simp
   ·rw [if_neg (by simp), bS, bS, if_pos (by simp; omega), decide_eq_false h4]
    simp
end
section
theorem lawFnRewritingEvaluation (code : List Int) (hcode : ok code) : f3 code = some true := by
 unfold f3 f5
 rw [bS]
 by_cases hb : (code.length : Int) > 1048576
 ·rw [if_pos (by simpa using hb)]
 rw [if_neg (by simpa using hb)]
 obtain ⟨⟨d, f, x⟩, e, hd, ⟨f1, f2⟩, hx⟩ := drawRw (code := code) (by omega)
 simp only at hd f1 f2 hx
 rw [e, bS]
 simp only
 have hr := hd.1
 have e0 : evalR d [] [] = vDb d := by
  unfold evalR
  have : vRw d.Relations [] = true := rfl
  rw [this]
  have : ev d [] (pad []) = true := by unfold ev; rfl
  rw [this]; simp
 have e1 : evalR d f x = true → vDb d = true := fun h => by
  unfold evalR at h
  rw [Bool.and_eq_true] at h
  exact h.1
 simp only [evalImp hd ⟨by omega, f2⟩ (by omega : x.length ≤ 1048576), evalSpec hd ⟨by omega, f2⟩ (by omega : x.length ≤ 1048576), impRw (l := d.Relations) (by omega) (show Big f.length by omega) f2, specRw (l := d.Relations) (by omega) (show Big f.length by omega) f2, evalImp hd (f := []) (x := []) ⟨by simp, by simp⟩ (by simp), specDb (fits_room hd), bS, e0]
 rw [if_neg (by simp), bS, if_neg (by simp), if_pos (by simp)]
 cases hv : evalR d f x
 ·rfl
 ·rw [e1 hv]; rfl
end
end Go.Proofs.YtamibblcpccjlaaGreatH
