import Derived.Test.YtamibblcpccjlaaGreatTd1
import Derived.Test.YtamibblcpccjlaaGreatX4
import Derived.Test.YtamibblcpccjlaaGreatRd1
set_option linter.unusedVariables false
set_option linter.unusedSimpArgs false
set_option linter.defProp false
set_option linter.unusedSectionVars false
namespace Go.Proofs.YtamibblcpccjlaaGreatH
open Go
section
theorem bS {α β : Type} {a : α} {f : α -> Option β} : (some a).bind f = f a := rfl
end
section
end
section
abbrev Big (n : Nat) : Prop := n <= 9223372036854775806
theorem hasI {l : List Int} {x : Int} (h : Big l.length) : f80 l x = some (l.contains x) := by
 unfold f80
 rw [iter_ex l (fun a => x == a) true (fun i hi => by
  simp only [f80_0]
  rw [if_pos (by omega), ix_nat hi, w64_succ (by omega)]
  simp only [bS]
  by_cases hc : l[i] = x
  ·rw [if_pos hc, if_pos (by simp [hc])]
  ·rw [if_neg hc, if_neg (by simp; exact fun h => hc h.symm)]) (by
  simp only [f80_0]
  rw [if_neg (by omega)])]
 rw [show l.contains x = l.any (fun a => x == a) from List.any_beq.symm]
 by_cases hc : l.any (fun a => x == a) = true
 ·rw [if_pos hc, hc]; rfl
 ·rw [if_neg hc]; simp only [Bool.not_eq_true] at hc; rw [hc]; rfl
theorem indexII {s : List (List Int)} {f : List Int -> Option Bool} {p : List Int -> Bool} (h : Big s.length) (hf : ∀ a ∈ s, f a = some (p a)) : f90 s f = some (s.any p) := by
 unfold f90 f136
 obtain ⟨o, h1, h2⟩ := iter_idx (f := f136_0 s f) s p (fun i hi => by
  simp only [f136_0]
  rw [if_pos (by omega), ix_nat hi, w64_succ (by omega)]
  simp only [bS, hf _ (List.getElem_mem hi)]
  split <;> rfl) (by
  simp only [f136_0]
  rw [if_neg (by omega)])
 rw [h1]
 cases o with
 | inl _ => dsimp only at h2; rw [h2]; rfl
 | inr x => dsimp only at h2; rw [h2.2]; simp; omega
theorem indexI {s : List Int} {f : Int -> Option Bool} {p : Int -> Bool} (h : Big s.length) (hf : ∀ a ∈ s, f a = some (p a)) : f32 s f = some (s.any p) := by
 unfold f32 f75
 obtain ⟨o, h1, h2⟩ := iter_idx (f := f75_0 s f) s p (fun i hi => by
  simp only [f75_0]
  rw [if_pos (by omega), ix_nat hi, w64_succ (by omega)]
  simp only [bS, hf _ (List.getElem_mem hi)]
  split <;> rfl) (by
  simp only [f75_0]
  rw [if_neg (by omega)])
 rw [h1]
 cases o with
 | inl _ => dsimp only at h2; rw [h2]; rfl
 | inr x => dsimp only at h2; rw [h2.2]; simp; omega
theorem containsI {s : List Int} {v : Int} (h : Big s.length) : f77 s v = some (s.contains v) := by
 unfold f77 f120
 obtain ⟨o, h1, h2⟩ := iter_idx (f := f120_0 s v) s (fun a => v == a) (fun i hi => by
  simp only [f120_0]
  rw [if_pos (by omega), ix_nat hi, w64_succ (by omega)]
  simp only [bS, beq_iff_eq]
  split <;> rfl) (by
  simp only [f120_0]
  rw [if_neg (by omega)])
 rw [h1]
 rw [show s.contains v = s.any (fun a => v == a) from List.any_beq.symm]
 cases o with
 | inl _ => dsimp only at h2; rw [h2]; rfl
 | inr x => dsimp only at h2; rw [h2.2]; simp; omega
theorem subset {a b : List Int} (ha : Big a.length) (hb : Big b.length) : f34 a b = some (a.all b.contains) := by
 unfold f34
 rw [indexI (p := fun x => !b.contains x) ha (fun x _ => by
  unfold f76
  rw [containsI hb]
  simp)]
 rw [any_not]
 simp
def cov (l : List (List Int)) (s : List Int) : Bool := l.any fun v => v.all s.contains
theorem impCov {l : List (List Int)} {s : List Int} (h : Big l.length) (h' : ∀ x ∈ l, Big x.length) (hs : Big s.length) : f53 l s = some (cov l s) := by
 unfold f53
 rw [indexII (p := fun v => v.all s.contains) h (fun x hx => by
  unfold f91
  rw [subset (h' _ hx) hs]
  rfl)]
 rfl
theorem met {l : List (List Int)} {s : List Int} (h : Big l.length) (h' : ∀ x ∈ l, Big x.length) (hs : Big s.length) : f141 l s = some (cov l s) := by
 unfold f141
 rw [iter_ex l (fun v => v.all s.contains) true (fun i hi => by
  simp only [f141_0]
  rw [if_pos (by omega), w64_succ (by omega)]
  rw [iter_foldl l[i] (fun b a => b && s.contains a) id (fun k hk b => by
   simp only [f141_1]
   have hk' := h' _ (List.getElem_mem hi)
   rw [ix_nat hi, bS, if_pos (by omega), ix_nat hk, w64_succ (by omega)]
   simp only [bS, hasI hs]
   cases b <;> rfl) (fun b => by
   simp only [f141_1]
   rw [ix_nat hi, bS, if_neg (by omega)]; rfl)]
  simp only [bS, foldl_all, Bool.true_and, id]
  split <;> rfl) (by
  simp only [f141_0]
  rw [if_neg (by omega)])]
 unfold cov
 by_cases hc : (l.any fun v => v.all s.contains) = true
 ·rw [if_pos hc, hc]; rfl
 ·rw [if_neg hc]; simp only [Bool.not_eq_true] at hc; rw [hc]; rfl
theorem specCov {l : List (List Int)} {s : List Int} (h : Big l.length) (h' : ∀ x ∈ l, Big x.length) (hs : Big s.length) : f98 l s = some (cov l s) := by
 unfold f98
 rw [met h h' hs]; rfl
end
section
end
section
def Fits (d : Database) : Prop := d.Relations.length <= 1048576 /\ d.Facts.length <= 1048576 /\ ∀ x ∈ d.Facts, x.Values.length <= 1048576
end
section
variable {α ρ : Type}
def good (q : α -> Bool) (r : α -> α -> Bool) (l : List α) : Bool := decide (∀ i (h : i < l.length), (q l[i] && (decide (i = 0) || r (l[i - 1]'(by omega)) l[i])) = true)
theorem good_of {q : α -> Bool} {r : α -> α -> Bool} {l : List α} (h : good q r l = true) {i : Nat} (hi : i < l.length) : q l[i] = true /\ (0 < i -> r (l[i - 1]'(by omega)) l[i] = true) := by
 have := of_decide_eq_true h i hi
 simp only [Bool.and_eq_true, Bool.or_eq_true, decide_eq_true_eq] at this
 exact ⟨this.1, fun hp => this.2.resolve_left (by omega)⟩
theorem iter_adj {f : Int -> Option (Int ⊕ (Unit ⊕ ρ))} (q : α -> Bool) (r : α -> α -> Bool) (L : List α) (c : ρ)
  (hs : ∀ (i : Nat) (h : i < L.length), f (i : Int) = some (if (q L[i] && (decide (i = 0) || r (L[i - 1]'(by omega)) L[i])) = true then .inl ((i + 1 : Nat) : Int) else .inr (.inr c)))
  (he : f (L.length : Int) = some (.inr (.inl ()))) : iter f 0 = some (if good q r L = true then .inl () else .inr c) := by
 obtain ⟨o, h1, h2⟩ := iter_up (f := f) L.length (fun i s => s = (i : Int) /\ ∀ j (h : j < L.length), j < i -> (q L[j] && (decide (j = 0) || r (L[j - 1]'(by omega)) L[j])) = true)
  (fun o => o = if good q r L = true then .inl () else .inr c) (fun i s hi ⟨h, hp⟩ => by
   subst h
   refine ⟨_, hs i hi, ?_⟩
   by_cases hc : (q L[i] && (decide (i = 0) || r (L[i - 1]'(by omega)) L[i])) = true
   ·rw [if_pos hc]
    refine ⟨rfl, fun j hj hlt => ?_⟩
    by_cases e : j = i
    ·subst e; exact hc
    ·exact hp j hj (by omega)
   ·rw [if_neg hc]
    dsimp only
    rw [if_neg]
    intro hg
    exact hc (of_decide_eq_true hg i hi)) (fun s ⟨h, hp⟩ => by
   subst h
   refine ⟨_, he, ?_⟩
   rw [if_pos]
   exact decide_eq_true fun i hi => hp i hi hi) 0 ⟨rfl, fun j _ h => by omega⟩
 rw [h1, h2]
def btw (x low high : Int) : Bool := decide (low <= x) && decide (x <= high)
theorem specIn {x a b : Int} : f38 x a b = some (btw x a b) := by
 unfold f38 btw
 by_cases h : a <= x
 ·rw [if_pos (show x >= a from h)]; simp [h]
 ·rw [if_neg (show ¬ x >= a from h)]; simp [h]
theorem impIn {x a b : Int} : f31 x a b = some (btw x a b) := by
 unfold f31 btw
 by_cases h : a <= x
 ·rw [if_pos h]; simp [h]
 ·rw [if_neg h]; simp [h]
def vRel (r : Relation) : Bool := decide (r.Name.length = 1) && (decide (97 <= (r.Name.getD 0 0).toNat) && (decide ((r.Name.getD 0 0).toNat <= 122) && (btw r.Arity 1 3 && btw r.KeyLength 0 r.Arity)))
theorem specRel {r : Relation} : f79 r = some (vRel r) := by
 unfold f79 vRel
 by_cases h1 : r.Name.length = 1
 ·rw [if_pos (by omega)]
  have e : ix r.Name 0 = some (r.Name.getD 0 0) := by rw [ix_of (by omega)]; simp [zE (show 0 < r.Name.length by omega)]
  rw [e, bS]
  generalize r.Name.getD 0 0 = c
  by_cases h2 : 97 <= c.toNat
  ·rw [if_pos (by omega)]
   by_cases h3 : c.toNat <= 122
   ·rw [if_pos (by omega), specIn, bS]
    cases hb : btw r.Arity 1 3
    ·simp
    ·simp [specIn, h1, h2, h3]
   ·rw [if_neg (by omega)]; simp [h3]
  ·rw [if_neg (by omega)]; simp [h2]
 ·rw [if_neg (by omega)]; simp [h1]
theorem impRel {r : Relation} : f74 r = some (vRel r) := by
 unfold f74 vRel
 by_cases h1 : r.Name.length = 1
 ·rw [if_pos (by omega)]
  have e : ix r.Name 0 = some (r.Name.getD 0 0) := by rw [ix_of (by omega)]; simp [zE (show 0 < r.Name.length by omega)]
  rw [e, bS]
  generalize r.Name.getD 0 0 = c
  by_cases h2 : 97 <= c.toNat
  ·rw [if_pos (by omega)]
   by_cases h3 : c.toNat <= 122
   ·rw [if_pos (by omega), impIn, bS]
    cases hb : btw r.Arity 1 3
    ·simp
    ·simp [impIn, h1, h2, h3]
   ·rw [if_neg (by omega)]; simp [h3]
  ·rw [if_neg (by omega)]; simp [h2]
 ·rw [if_neg (by omega)]; simp [h1]
def vRels (l : List Relation) : Bool := good vRel (fun a b => Op.bytesLess a.Name b.Name) l && decide (l.length <= 4)
theorem specRels {l : List Relation} (h : Big l.length) : f37 l = some (vRels l) := by
 unfold f37 vRels
 rw [iter_adj vRel (fun a b => Op.bytesLess a.Name b.Name) l false (fun i hi => by
  simp only [f37_0]
  rw [if_pos (by omega), ix_nat hi, w64_succ (by omega)]
  simp only [bS, specRel]
  cases vRel l[i]
  ·simp
  ·by_cases h0 : i = 0
   ·subst h0; simp
   ·have e : ix l (w64 ((i : Int) - 1)) = some (l[i - 1]'(by omega)) := by rw [w64_of (by omega), show (i : Int) - 1 = ((i - 1 : Nat) : Int) by omega, ix_nat (by omega)]
    simp only [e]
    have : 0 < i := by omega
    cases hb : Op.bytesLess (l[i - 1]'(by omega)).Name l[i].Name <;> simp [h0, this, hb]) (by
  simp only [f37_0]
  rw [if_neg (by omega)])]
 cases good vRel (fun a b => Op.bytesLess a.Name b.Name) l
 ·simp
 ·simp; omega
theorem impRels {l : List Relation} (h : Big l.length) : f30 l = some (vRels l) := by
 unfold f30 vRels
 rw [iter_adj vRel (fun a b => Op.bytesLess a.Name b.Name) l false (fun i hi => by
  simp only [f30_0]
  rw [if_pos (by omega), ix_nat hi, w64_succ (by omega)]
  simp only [bS, impRel]
  cases vRel l[i]
  ·simp
  ·by_cases h0 : i = 0
   ·subst h0; simp
   ·have e : ix l (w64 ((i : Int) - 1)) = some (l[i - 1]'(by omega)) := by rw [w64_of (by omega), show (i : Int) - 1 = ((i - 1 : Nat) : Int) by omega, ix_nat (by omega)]
    simp only [e]
    have : 0 < i := by omega
    cases hb : Op.bytesLess (l[i - 1]'(by omega)).Name l[i].Name <;> simp [h0, this, hb]) (by
  simp only [f30_0]
  rw [if_neg (by omega)])]
 cases good vRel (fun a b => Op.bytesLess a.Name b.Name) l
 ·simp
 ·simp; omega
theorem vRels_len {l : List Relation} (h : vRels l = true) : l.length <= 4 := by
 unfold vRels at h; simp only [Bool.and_eq_true, decide_eq_true_eq] at h; exact h.2
def arity (l : List Relation) (r : Int) : Int := (l[r.toNat]?.map (·.Arity)).getD 0
def keyLen (l : List Relation) (r : Int) : Int := (l[r.toNat]?.map (·.KeyLength)).getD 0
def vVals (l : List Int) : Bool := l.all fun v => btw v 0 9
def vFact (l : List Relation) (f : Fact) : Bool := btw f.Relation 0 (l.length - 1) && (decide ((f.Values.length : Int) = arity l f.Relation) && vVals f.Values)
theorem ix_rel {l : List Relation} {r : Int} (h : btw r 0 (l.length - 1) = true) : ∃ x, ix l r = some x /\ x ∈ l /\ x.Arity = arity l r /\ x.KeyLength = keyLen l r := by
 unfold btw at h; simp only [Bool.and_eq_true, decide_eq_true_eq] at h
 have e : l[r.toNat]? = some (l[r.toNat]'(by omega)) := zE _
 refine ⟨l[r.toNat]'(by omega), ?_, List.getElem_mem _, ?_, ?_⟩
 ·rw [ix_of h.1, e]
 ·unfold arity; rw [e]; rfl
 ·unfold keyLen; rw [e]; rfl
theorem specFact {l : List Relation} {f : Fact} (h : Big l.length) (hf : Big f.Values.length) : f42 l f = some (vRels l && vFact l f) := by
 unfold f42 vFact
 rw [specRels h, bS]
 cases vRels l
 ·simp
 ·rw [w64_of (by omega), specIn]
  cases hb : btw f.Relation 0 (l.length - 1)
  ·simp
  ·obtain ⟨x, h1, _, h2, _⟩ := ix_rel hb
   rw [h1]
   by_cases ha : (f.Values.length : Int) = arity l f.Relation
   ·rw [iter_ex f.Values (fun v => !btw v 0 9) false (fun i hi => by
     simp only [f42_0]
     rw [if_pos (by omega), ix_nat hi, w64_succ (by omega)]
     simp only [bS, specIn]
     cases btw f.Values[i] 0 9 <;> simp) (by
     simp only [f42_0]
     rw [if_neg (by omega)])]
    unfold vVals
    rw [any_not]
    cases f.Values.all (fun v => btw v 0 9) <;> simp [h2, ha]
   ·simp [h2, ha]
theorem impVals {l : List Int} (h : Big l.length) : f112 l = some (vVals l) := by
 unfold f112
 rw [indexI (p := fun v => !btw v 0 9) h (fun v _ => by
  unfold f154
  rw [impIn]; cases btw v 0 9 <;> simp)]
 unfold vVals
 rw [any_not]
 cases l.all (fun v => btw v 0 9) <;> simp
theorem impFact {l : List Relation} {f : Fact} (h : Big l.length) (hf : Big f.Values.length) : f68 l f = some (vFact l f) := by
 unfold f68 vFact
 rw [w64_of (by omega), impIn]
 cases hb : btw f.Relation 0 (l.length - 1)
 ·simp
 ·obtain ⟨x, h1, _, h2, _⟩ := ix_rel hb
  rw [h1]
  by_cases ha : (f.Values.length : Int) = arity l f.Relation
  ·simp [h2, ha, impVals hf]
  ·simp [h2, ha]
def cmpL : List Int -> List Int -> Int
 | [], [] => 0
 | [], _ :: _ => -1
 | _ :: _, [] => 1
 | a :: s, b :: t => if a < b then -1 else if a > b then 1 else cmpL s t
theorem cmpL_step {a b : List Int} {i : Nat} (ha : i < a.length) (hb : i < b.length) : cmpL (a.drop i) (b.drop i) = if a[i] < b[i] then -1 else if a[i] > b[i] then 1 else cmpL (a.drop (i + 1)) (b.drop (i + 1)) := by
 rw [List.drop_eq_getElem_cons ha, List.drop_eq_getElem_cons hb, cmpL]
theorem cmpL_end {a b : List Int} {i : Nat} (h : a.length <= i \/ b.length <= i) (hi : i <= a.length /\ i <= b.length) : cmpL (a.drop i) (b.drop i) = if a.length < b.length then -1 else if a.length > b.length then 1 else 0 := by
 rcases h with h | h
 ·rw [List.drop_of_length_le h]
  by_cases e : b.length <= i
  ·rw [List.drop_of_length_le e, cmpL, if_neg (by omega), if_neg (by omega)]
  ·rw [List.drop_eq_getElem_cons (by omega : i < b.length), cmpL, if_pos (by omega)]
 ·rw [List.drop_of_length_le h]
  by_cases e : a.length <= i
  ·rw [List.drop_of_length_le e, cmpL, if_neg (by omega), if_neg (by omega)]
  ·rw [List.drop_eq_getElem_cons (by omega : i < a.length), cmpL, if_neg (by omega), if_pos (by omega)]
theorem specInts {a b : List Int} (ha : Big a.length) (hb : Big b.length) : f81 a b = some (cmpL a b) := by
 unfold f81
 refine Ens.eq (Q := fun r => r = cmpL a b) (Ens.bind (Q := fun o => match o with | .inl _ => (if a.length < b.length then -1 else if a.length > b.length then 1 else 0) = cmpL a b | .inr x => x = cmpL a b) ?_ fun o ho => ?_) _ (fun _ h => h)
 ·refine iter_up (f := f81_0 a b) (min a.length b.length) (fun i s => s = (i : Int) /\ cmpL (a.drop i) (b.drop i) = cmpL a b) _ (fun i s hi ⟨h, hp⟩ => ?_) (fun s ⟨h, hp⟩ => ?_) 0 ⟨rfl, rfl⟩
  ·subst h
   have h1 : i < a.length := by omega
   have h2 : i < b.length := by omega
   simp only [f81_0]
   rw [if_pos (by omega), ix_nat h1, ix_nat h2, w64_succ (by omega)]
   rw [cmpL_step h1 h2] at hp
   simp only [bS, show (i : Int) < b.length by omega, decide_true, if_true]
   by_cases c1 : a[i] < b[i]
   ·rw [if_pos c1] at hp ⊢
    exact ⟨_, rfl, hp⟩
   ·rw [if_neg c1] at hp ⊢
    by_cases c2 : a[i] > b[i]
    ·rw [if_pos c2] at hp ⊢; exact ⟨_, rfl, hp⟩
    ·rw [if_neg c2] at hp ⊢; exact ⟨_, rfl, rfl, hp⟩
  ·subst h
   rw [cmpL_end (by omega) (by omega)] at hp
   simp only [f81_0]
   by_cases c : ((min a.length b.length : Nat) : Int) < a.length
   ·rw [if_pos c]
    simp only [bS, show ¬ ((min a.length b.length : Nat) : Int) < b.length by omega, decide_false]
    exact ⟨_, rfl, hp⟩
   ·rw [if_neg c]; exact ⟨_, rfl, hp⟩
 ·cases o with
  | inl _ =>
   dsimp only at ho ⊢
   by_cases c1 : a.length < b.length
   ·rw [if_pos c1] at ho; rw [if_pos (by omega)]; exact Ens.of ho
   ·rw [if_neg c1] at ho; rw [if_neg (by omega)]
    by_cases c2 : a.length > b.length
    ·rw [if_pos c2] at ho; rw [if_pos (by omega)]; exact Ens.of ho
    ·rw [if_neg c2] at ho; rw [if_neg (by omega)]; exact Ens.of ho
  | inr x => exact Ens.of ho
theorem cmpInt {a b : Int} : f155 a b = some (if a < b then -1 else if a > b then 1 else 0) := by
 unfold f155 f181
 simp only [ne_eq, not_true_eq_false, decide_false, bS, Bool.false_eq_true, if_false]
 split
 ·rfl
 ·split <;> rfl
theorem impInts {a b : List Int} (ha : Big a.length) (hb : Big b.length) : f114 a b = some (cmpL a b) := by
 unfold f114
 refine Ens.eq (Q := fun r => r = cmpL a b) (Ens.bind (Q := fun o => match o with | .inl _ => (if a.length < b.length then -1 else 0) = cmpL a b | .inr x => x = cmpL a b) ?_ fun o ho => ?_) _ (fun _ h => h)
 ·refine iter_up (f := f114_0 a b) a.length (fun i s => s = (i : Int) /\ i <= b.length /\ cmpL (a.drop i) (b.drop i) = cmpL a b) _ (fun i s hi ⟨h, hl, hp⟩ => ?_) (fun s ⟨h, hl, hp⟩ => ?_) 0 ⟨rfl, by omega, rfl⟩
  ·subst h
   simp only [f114_0]
   rw [if_pos (by omega), ix_nat hi, w64_succ (by omega)]
   by_cases h2 : i < b.length
   ·rw [bS, if_neg (by omega), ix_nat h2]
    rw [cmpL_step hi h2] at hp
    simp only [bS, cmpInt]
    by_cases c1 : a[i] < b[i]
    ·rw [if_pos c1] at hp ⊢
     rw [if_pos (by omega)]; exact ⟨_, rfl, hp⟩
    ·rw [if_neg c1] at hp ⊢
     by_cases c2 : a[i] > b[i]
     ·rw [if_pos c2] at hp ⊢; rw [if_pos (by omega)]; exact ⟨_, rfl, hp⟩
     ·rw [if_neg c2] at hp ⊢; rw [if_neg (by omega)]; exact ⟨_, rfl, rfl, by omega, hp⟩
   ·rw [bS, if_pos (by omega)]
    rw [cmpL_end (by omega) (by omega), if_neg (by omega), if_pos (by omega)] at hp
    exact ⟨_, rfl, hp⟩
  ·subst h
   simp only [f114_0]
   rw [if_neg (by omega)]
   rw [cmpL_end (by omega) (by omega)] at hp
   refine ⟨_, rfl, ?_⟩
   dsimp only
   rw [<- hp]
   by_cases c1 : a.length < b.length
   ·rw [if_pos c1, if_pos c1]
   ·rw [if_neg c1, if_neg c1, if_neg (by omega)]
 ·cases o with
  | inl _ =>
   dsimp only at ho ⊢
   by_cases c1 : a.length < b.length
   ·rw [if_pos c1] at ho; rw [if_pos (by omega)]; exact Ens.of ho
   ·rw [if_neg c1] at ho; rw [if_neg (by omega)]; exact Ens.of ho
  | inr x => exact Ens.of ho
def cmpF (a b : Fact) : Int := if a.Relation < b.Relation then -1 else if a.Relation > b.Relation then 1 else cmpL a.Values b.Values
theorem specCmp {a b : Fact} (ha : Big a.Values.length) (hb : Big b.Values.length) : f43 a b = some (cmpF a b) := by
 unfold f43 cmpF
 rw [specInts ha hb]
 split
 ·rfl
 ·split <;> rfl
theorem impCmp {a b : Fact} (ha : Big a.Values.length) (hb : Big b.Values.length) : f69 a b = some (cmpF a b) := by
 unfold f69 f113 cmpF
 rw [impInts ha hb]
 by_cases c1 : a.Relation < b.Relation
 ·rw [if_pos (by omega), if_pos c1, if_pos c1]; rfl
 ·rw [if_neg c1, if_neg c1]
  by_cases c2 : a.Relation > b.Relation
  ·rw [if_pos (by omega), if_pos c2, if_pos c2]; rfl
  ·rw [if_neg (by omega), if_neg c2]; rfl
def Room (d : Database) : Prop := Big d.Relations.length /\ Big d.Facts.length /\ ∀ x ∈ d.Facts, Big x.Values.length
theorem fits_room {d : Database} (h : Fits d) : Room d := ⟨by have := h.1; omega, by have := h.2.1; omega, fun x hx => by have := h.2.2 x hx; omega⟩
def gFacts (d : Database) : Bool := good (vFact d.Relations) (fun a b => decide (cmpF a b < 0)) d.Facts
def vDb (d : Database) : Bool := vRels d.Relations && (decide (d.Facts.length <= 14) && gFacts d)
theorem good_congr {q q' : α -> Bool} {r : α -> α -> Bool} {l : List α} (h : ∀ a ∈ l, q a = q' a) : good q r l = good q' r l := by
 unfold good
 congr 1
 apply propext
 constructor
 ·intro g i hi; rw [<- h _ (List.getElem_mem hi)]; exact g i hi
 ·intro g i hi; rw [h _ (List.getElem_mem hi)]; exact g i hi
theorem specDb {d : Database} (h : Room d) : f11 d = some (vDb d) := by
 obtain ⟨h1, h2, h3⟩ := h
 unfold f11
 rw [iter_adj (fun f => vRels d.Relations && vFact d.Relations f) (fun a b => decide (cmpF a b < 0)) d.Facts false (fun i hi => by
  simp only [f11_0]
  rw [if_pos (by omega), ix_nat hi, w64_succ (by omega)]
  simp only [bS, specFact h1 (h3 _ (List.getElem_mem hi))]
  cases (vRels d.Relations && vFact d.Relations d.Facts[i])
  ·simp
  ·by_cases h0 : i = 0
   ·subst h0; simp
   ·have e : ix d.Facts (w64 ((i : Int) - 1)) = some (d.Facts[i - 1]'(by omega)) := by rw [w64_of (by omega), show (i : Int) - 1 = ((i - 1 : Nat) : Int) by omega, ix_nat (by omega)]
    simp only [e, bS, specCmp (h3 _ (List.getElem_mem (show i - 1 < d.Facts.length by omega))) (h3 _ (List.getElem_mem hi))]
    have : 0 < i := by omega
    by_cases hb : cmpF (d.Facts[i - 1]'(by omega)) d.Facts[i] < 0
    ·simp [h0, this, hb, Int.not_le.2 hb]
    ·simp [h0, this, hb, show 0 <= cmpF (d.Facts[i - 1]'(by omega)) d.Facts[i] by omega]) (by
  simp only [f11_0]
  rw [if_neg (by omega)])]
 unfold vDb
 rw [specRels h1]
 cases hv : vRels d.Relations
 ·split <;> simp
 ·have e : good (fun f => true && vFact d.Relations f) (fun a b => decide (cmpF a b < 0)) d.Facts = gFacts d := good_congr fun a _ => Bool.true_and _
  rw [e]
  cases gFacts d
  ·simp
  ·simp; omega
theorem impDb {d : Database} (h : Room d) : f24 d = some (vDb d) := by
 obtain ⟨h1, h2, h3⟩ := h
 unfold f24 vDb
 rw [impRels h1, bS]
 cases vRels d.Relations
 ·simp
 ·by_cases hn : d.Facts.length <= 14
  ·rw [iter_adj (vFact d.Relations) (fun a b => decide (cmpF a b < 0)) d.Facts false (fun i hi => by
    simp only [f24_0]
    rw [if_pos (by omega), ix_nat hi, w64_succ (by omega)]
    simp only [bS, impFact h1 (h3 _ (List.getElem_mem hi))]
    cases vFact d.Relations d.Facts[i]
    ·simp
    ·by_cases h0 : i = 0
     ·subst h0; simp
     ·have e : ix d.Facts (w64 ((i : Int) - 1)) = some (d.Facts[i - 1]'(by omega)) := by rw [w64_of (by omega), show (i : Int) - 1 = ((i - 1 : Nat) : Int) by omega, ix_nat (by omega)]
      simp only [e, bS, impCmp (h3 _ (List.getElem_mem (show i - 1 < d.Facts.length by omega))) (h3 _ (List.getElem_mem hi))]
      have : 0 < i := by omega
      by_cases hb : cmpF (d.Facts[i - 1]'(by omega)) d.Facts[i] < 0
      ·simp [h0, this, hb, Int.not_le.2 hb]
      ·simp [h0, this, hb, show 0 <= cmpF (d.Facts[i - 1]'(by omega)) d.Facts[i] by omega]) (by
    simp only [f24_0]
    rw [if_neg (by omega)])]
   change _ = some (true && (decide (d.Facts.length <= 14) && good (vFact d.Relations) (fun a b => decide (cmpF a b < 0)) d.Facts))
   cases good (vFact d.Relations) (fun a b => decide (cmpF a b < 0)) d.Facts
   ·simp
   ·simp [hn]; omega
  ·simp [hn]; omega
def asc (n : Int) (l : List Int) : Bool := good (fun v => btw v 0 (n - 1)) (fun a b => decide (a < b)) l
theorem specSet {d : Database} {l : List Int} (hd : Big d.Facts.length) (h : Big l.length) : f173 d l = some (asc d.Facts.length l) := by
 unfold f173
 rw [iter_adj (fun v => btw v 0 ((d.Facts.length : Int) - 1)) (fun a b => decide (a < b)) l false (fun i hi => by
  simp only [f173_0]
  rw [if_pos (by omega), ix_nat hi, w64_succ (by omega), w64_of (n := (d.Facts.length : Int) - 1) (by omega)]
  simp only [bS, specIn]
  cases btw l[i] 0 ((d.Facts.length : Int) - 1)
  ·simp
  ·by_cases h0 : i = 0
   ·subst h0; simp
   ·have e : ix l (w64 ((i : Int) - 1)) = some (l[i - 1]'(by omega)) := by rw [w64_of (by omega), show (i : Int) - 1 = ((i - 1 : Nat) : Int) by omega, ix_nat (by omega)]
    simp only [e]
    have : 0 < i := by omega
    by_cases hb : l[i - 1]'(by omega) < l[i]
    ·simp [h0, this, hb, Int.not_le.2 hb]
    ·simp [h0, this, hb, Int.not_lt.1 hb]) (by
  simp only [f173_0]
  rw [if_neg (by omega)])]
 unfold asc
 cases good (fun v => btw v 0 ((d.Facts.length : Int) - 1)) (fun a b => decide (a < b)) l <;> simp
theorem impSet {l : List Int} {n : Nat} (hd : Big n) (h : Big l.length) : f129 l n = some (asc n l) := by
 unfold f129
 rw [iter_adj (fun v => btw v 0 ((n : Int) - 1)) (fun a b => decide (a < b)) l false (fun i hi => by
  simp only [f129_0]
  rw [if_pos (by omega), ix_nat hi, w64_succ (by omega), w64_of (n := (n : Int) - 1) (by omega)]
  simp only [bS, impIn]
  cases btw l[i] 0 ((n : Int) - 1)
  ·simp
  ·by_cases h0 : i = 0
   ·subst h0; simp
   ·have e : ix l (w64 ((i : Int) - 1)) = some (l[i - 1]'(by omega)) := by rw [w64_of (by omega), show (i : Int) - 1 = ((i - 1 : Nat) : Int) by omega, ix_nat (by omega)]
    simp only [e]
    have : 0 < i := by omega
    by_cases hb : l[i - 1]'(by omega) < l[i]
    ·simp [h0, this, hb, Int.not_le.2 hb]
    ·simp [h0, this, hb, Int.not_lt.1 hb]) (by
  simp only [f129_0]
  rw [if_neg (by omega)])]
 unfold asc
 cases good (fun v => btw v 0 ((n : Int) - 1)) (fun a b => decide (a < b)) l <;> simp
end
section
variable {α ρ : Type}
theorem nodup_le : ∀ {n : Nat} {H : List Int}, H.Nodup -> (∀ v ∈ H, 0 <= v /\ v < n) -> H.length <= n
 | 0, [], _, _ => by simp
 | 0, a :: H, _, h => by have := h a (by simp); omega
 | n + 1, H, hd, h => by
  have h1 : (H.erase ((n : Nat) : Int)).length <= n := nodup_le (hd.erase _) fun v hv => by
   have h2 := h v (List.mem_of_mem_erase hv)
   have h3 := (List.Nodup.mem_erase_iff hd).1 hv
   have := h3.1
   omega
  have h2 := List.length_erase (l := H) (a := ((n : Nat) : Int))
  split at h2 <;> omega
theorem cmpL_trans : ∀ {a b c : List Int}, cmpL a b < 0 -> cmpL b c < 0 -> cmpL a c < 0
 | [], _, [], h1, h2 => by
  rename_i b
  cases b with
  | nil => simp [cmpL] at h1
  | cons y b => simp [cmpL] at h2
 | [], _, _ :: _, h1, h2 => by simp [cmpL]
 | _ :: _, [], _, h1, h2 => by simp [cmpL] at h1
 | _ :: _, _ :: _, [], h1, h2 => by simp [cmpL] at h2
 | x :: a, y :: b, z :: c, h1, h2 => by
  rw [cmpL] at h1 h2 ⊢
  by_cases c1 : x < y
  ·by_cases c2 : y < z
   ·rw [if_pos (by omega)]; omega
   ·rw [if_neg c2] at h2
    by_cases c3 : y > z
    ·rw [if_pos c3] at h2; omega
    ·rw [if_pos (by omega)]; omega
  ·rw [if_neg c1] at h1
   by_cases c3 : x > y
   ·rw [if_pos c3] at h1; omega
   ·rw [if_neg c3] at h1
    by_cases c2 : y < z
    ·rw [if_pos (by omega)]; omega
    ·rw [if_neg c2] at h2
     by_cases c4 : y > z
     ·rw [if_pos c4] at h2; omega
     ·rw [if_neg c4] at h2
      rw [if_neg (by omega), if_neg (by omega)]
      exact cmpL_trans h1 h2
theorem cmpL_conv : ∀ {m : Nat} {a b c : List Int}, cmpL a b < 0 -> cmpL b c < 0 -> m <= a.length -> m <= b.length -> m <= c.length -> a.take m = c.take m -> a.take m = b.take m
 | 0, _, _, _, _, _, _, _, _, _ => by simp
 | m + 1, [], _, _, _, _, h, _, _, _ => by simp at h
 | m + 1, _ :: _, [], _, _, _, _, h, _, _ => by simp at h
 | m + 1, _ :: _, _ :: _, [], _, _, _, _, h, _ => by simp at h
 | m + 1, x :: a, y :: b, z :: c, h1, h2, l1, l2, l3, h => by
  simp only [List.take_succ_cons, List.cons.injEq] at h ⊢
  obtain ⟨rfl, h⟩ := h
  simp only [List.length_cons] at l1 l2 l3
  rw [cmpL] at h1 h2
  have e : x = y := by
   by_cases c1 : x < y
   ·rw [if_neg (by omega), if_pos (by omega)] at h2; omega
   ·rw [if_neg c1] at h1
    by_cases c2 : x > y
    ·rw [if_pos c2] at h1; omega
    ·omega
  subst e
  rw [if_neg (by omega), if_neg (by omega)] at h1 h2
  exact ⟨rfl, cmpL_conv h1 h2 (by omega) (by omega) (by omega) h⟩
theorem cmpL_eq : ∀ {a b : List Int}, cmpL a b = 0 ↔ a = b
 | [], [] => by simp [cmpL]
 | [], _ :: _ => by simp [cmpL]
 | _ :: _, [] => by simp [cmpL]
 | x :: a, y :: b => by
  rw [cmpL]
  by_cases c1 : x < y
  ·rw [if_pos c1]; simp; intro h; omega
  ·rw [if_neg c1]
   by_cases c2 : x > y
   ·rw [if_pos c2]; simp; intro h; omega
   ·rw [if_neg c2, cmpL_eq]
    simp only [List.cons.injEq]
    exact ⟨fun h => ⟨by omega, h⟩, fun h => h.2⟩
theorem cmpF_trans {a b c : Fact} (h1 : cmpF a b < 0) (h2 : cmpF b c < 0) : cmpF a c < 0 := by
 unfold cmpF at h1 h2 ⊢
 by_cases c1 : a.Relation < b.Relation
 ·by_cases c2 : b.Relation > c.Relation
  ·rw [if_neg (by omega), if_pos c2] at h2; omega
  ·rw [if_pos (by omega)]; omega
 ·rw [if_neg c1] at h1
  by_cases c3 : a.Relation > b.Relation
  ·rw [if_pos c3] at h1; omega
  ·rw [if_neg c3] at h1
   by_cases c2 : b.Relation < c.Relation
   ·rw [if_pos (by omega)]; omega
   ·rw [if_neg c2] at h2
    by_cases c4 : b.Relation > c.Relation
    ·rw [if_pos c4] at h2; omega
    ·rw [if_neg c4] at h2
     rw [if_neg (by omega), if_neg (by omega)]
     exact cmpL_trans h1 h2
def keyOf (l : List Relation) (a : Fact) : List Int := a.Values.take (keyLen l a.Relation).toNat
def same (l : List Relation) (a b : Fact) : Bool := decide (a.Relation = b.Relation) && decide (keyOf l a = keyOf l b)
theorem vRel_mem {l : List Relation} (h : vRels l = true) {r : Relation} (hr : r ∈ l) : vRel r = true := by
 unfold vRels at h; simp only [Bool.and_eq_true] at h
 obtain ⟨i, hi, rfl⟩ := List.mem_iff_getElem.1 hr
 exact (good_of h.1 hi).1
theorem key_le {l : List Relation} {f : Fact} (h : vRels l = true) (hf : vFact l f = true) : ∃ x, ix l f.Relation = some x /\ x.KeyLength = keyLen l f.Relation /\ 0 <= keyLen l f.Relation /\ keyLen l f.Relation <= f.Values.length := by
 unfold vFact at hf; simp only [Bool.and_eq_true, decide_eq_true_eq] at hf
 obtain ⟨x, h1, h2, h3, h4⟩ := ix_rel hf.1
 have := vRel_mem h h2
 unfold vRel btw at this
 simp only [Bool.and_eq_true, decide_eq_true_eq] at this
 exact ⟨x, h1, h4, by omega, by omega⟩
theorem specKey {l : List Relation} {f : Fact} (hl : Big l.length) (hv : f.Values.length <= 1048576) (h : vRels l = true) (hf : vFact l f = true) : f174 l f = some (keyOf l f) := by
 unfold f174
 rw [specFact hl (by omega), h, hf]
 obtain ⟨x, h1, h2, h3, h4⟩ := key_le h hf
 simp only [Bool.and_self, bS, not_true_eq_false, if_false, h1]
 rw [h2, cutL_ok (by omega) h3 h4, bS, app_fits (by simp; omega)]
 simp [keyOf]
theorem specSame {l : List Relation} {a b : Fact} (hl : Big l.length) (ha : a.Values.length <= 1048576) (hb : b.Values.length <= 1048576) (h : vRels l = true) (va : vFact l a = true) (vb : vFact l b = true) : f140 l a b = some (same l a b) := by
 unfold f140 same
 rw [specFact hl (by omega), specFact hl (by omega), h, va, vb, specKey hl ha h va, specKey hl hb h vb]
 have k1 : Big (keyOf l a).length := by unfold keyOf; simp; omega
 have k2 : Big (keyOf l b).length := by unfold keyOf; simp; omega
 by_cases c : a.Relation = b.Relation
 ·simp only [Bool.and_self, bS, if_true, c, specInts k1 k2, decide_true, Bool.true_and]
  by_cases e : keyOf l a = keyOf l b
  ·rw [cmpL_eq.2 e]; simp [e]
  ·have : ¬ cmpL (keyOf l a) (keyOf l b) = 0 := fun h => e (cmpL_eq.1 h)
   simp [this, e]
 ·simp [c]
theorem eqSl {a b : List Int} (ha : Big a.length) : f119 a b = some (decide (a = b)) := by
 unfold f119
 by_cases hl : a.length = b.length
 ·rw [if_neg (by omega)]
  rw [iter_ex (List.range a.length) (fun i => decide (a[i]? ≠ b[i]?)) false (fun i hi => by
   simp only [List.length_range] at hi
   simp only [f119_0, List.getElem_range]
   rw [if_pos (by omega), ix_nat hi, ix_nat (by omega : i < b.length), w64_succ (by omega), zE hi, zE (by omega : i < b.length)]
   by_cases c : a[i] = b[i]'(by omega)
   ·simp [c]
   ·simp [c]) (by
   simp only [f119_0]
   rw [if_neg (by simp)])]
  by_cases e : a = b
  ·subst e; simp
  ·have : ((List.range a.length).any fun i => decide (a[i]? ≠ b[i]?)) = true := by
    apply Classical.byContradiction
    intro hn
    apply e
    apply List.ext_getElem hl
    intro i h1 h2
    apply Classical.byContradiction
    intro hne
    exact hn (List.any_eq_true.2 ⟨i, List.mem_range.2 h1, by simp [zE h1, zE h2, hne]⟩)
   rw [if_pos this]; simp [e]
 ·rw [if_pos (by omega)]
  have : a ≠ b := fun h => hl (by rw [h])
  simp [this]
theorem impSame {l : List Relation} {a b : Fact} (ha : a.Values.length <= 1048576) (hb : b.Values.length <= 1048576) (h : vRels l = true) (va : vFact l a = true) (vb : vFact l b = true) : f72 l a b = some (same l a b) := by
 unfold f72 same
 obtain ⟨x, h1, h2, h3, h4⟩ := key_le h va
 obtain ⟨x', h1', h2', h3', h4'⟩ := key_le h vb
 by_cases c : a.Relation = b.Relation
 ·rw [if_neg (by simp [c]), h1, bS, h2, cutL_ok (by omega) h3 h4, bS, cutL_ok (by omega) h3 (by rw [c]; exact h4'), bS, eqSl (by simp; omega)]
  simp [keyOf, c]
 ·rw [if_pos c]; simp [c]
structure Kin (n : Nat) (sk : Nat -> Nat -> Bool) : Prop where
 refl : ∀ i, i < n -> sk i i = true
 symm : ∀ i k, i < n -> k < n -> sk i k = sk k i
 trans : ∀ i j k, i < n -> j < n -> k < n -> sk i j = true -> sk j k = true -> sk i k = true
 conv : ∀ i j k, i <= j -> j <= k -> k < n -> sk i k = true -> sk i j = true
variable {n : Nat} {sk : Nat -> Nat -> Bool}
def blk (sk : Nat -> Nat -> Bool) (i x : Nat) : List Int := (List.range x).flatMap fun k => if sk i k = true then [((k : Nat) : Int)] else []
def start (sk : Nat -> Nat -> Bool) (i : Nat) : Bool := (List.range i).all fun k => !sk k i
def blks (sk : Nat -> Nat -> Bool) (y x : Nat) : List (List Int) := (List.range y).flatMap fun i => if start sk i = true then [blk sk i x] else []
theorem blk_succ {i x : Nat} : blk sk i (x + 1) = blk sk i x ++ if sk i x = true then [((x : Nat) : Int)] else [] := by simp [blk, List.range_succ]
theorem blks_succ {y x : Nat} : blks sk (y + 1) x = blks sk y x ++ if start sk y = true then [blk sk y x] else [] := by simp [blks, List.range_succ]
theorem blk_len {i x : Nat} : (blk sk i x).length <= x := by
 induction x with
 | zero => simp [blk]
 | succ x ih => rw [blk_succ, List.length_append]; split <;> simp <;> omega
theorem blks_len {y x : Nat} : (blks sk y x).length <= y := by
 induction y with
 | zero => simp [blks]
 | succ y ih => rw [blks_succ, List.length_append]; split <;> simp <;> omega
theorem blk_none {i s : Nat} (h : ∀ k, k < s -> sk i k = false) : blk sk i s = [] := by
 induction s with
 | zero => simp [blk]
 | succ s ih => rw [blk_succ, ih fun k hk => h k (by omega), h s (by omega)]; simp
theorem blk_first {i s x : Nat} (h : ∀ k, k < s -> sk i k = false) (hs : sk i s = true) (hx : s < x) : ∃ t, blk sk i x = (s : Int) :: t := by
 induction x with
 | zero => omega
 | succ x ih =>
  rw [blk_succ]
  by_cases e : s = x
  ·subst e; rw [blk_none h, if_pos hs]; exact ⟨[], rfl⟩
  ·obtain ⟨t, ht⟩ := ih (by omega)
   rw [ht]; exact ⟨_, rfl⟩
theorem start_iff {i : Nat} : start sk i = true ↔ ∀ k, k < i -> sk k i = false := by
 unfold start; rw [List.all_eq_true]
 simp only [List.mem_range, Bool.not_eq_true']
theorem not_start {i : Nat} (h : start sk i = false) : ∃ s, s < i /\ sk s i = true /\ ∀ k, k < s -> sk k i = false := by
 have : ∃ s, s < i /\ sk s i = true := by
  apply Classical.byContradiction
  intro hn
  have : start sk i = true := start_iff.2 fun k hk => by
   cases hb : sk k i
   ·rfl
   ·exact (hn ⟨k, hk, hb⟩).elim
  rw [h] at this; cases this
 obtain ⟨s, h1, h2⟩ := this
 induction s using Nat.strongRecOn with
 | _ s ih =>
  by_cases c : ∃ k, k < s /\ sk k i = true
  ·obtain ⟨k, hk, hc⟩ := c
   exact ih k hk (by omega) hc
  ·refine ⟨s, h1, h2, fun k hk => ?_⟩
   cases hb : sk k i
   ·rfl
   ·exact (c ⟨k, hk, hb⟩).elim
theorem blk_head (K : Kin n sk) {i x : Nat} (hi : i < n) (hx : x <= n) (hix : i < x) : ∃ (s : Nat) (t : List Int), blk sk i x = (s : Int) :: t /\ s <= i /\ (s = i ↔ start sk i = true) := by
 cases hs : start sk i
 ·obtain ⟨s, h1, h2, h3⟩ := not_start hs
  obtain ⟨t, ht⟩ := blk_first (sk := sk) (i := i) (s := s) (x := x) (fun k hk => by rw [K.symm i k hi (by omega)]; exact h3 k hk) (by rw [K.symm i s hi (by omega)]; exact h2) (by omega)
  refine ⟨s, t, ht, by omega, ?_⟩
  simp; omega
 ·obtain ⟨t, ht⟩ := blk_first (sk := sk) (i := i) (s := i) (x := x) (fun k hk => by rw [K.symm i k hi (by omega)]; exact start_iff.1 hs k hk) (K.refl i hi) hix
  exact ⟨i, t, ht, by omega, by simp⟩
theorem blks_bnd {y x : Nat} (h : ∀ i, i < y -> start sk i = true -> sk i x = false) : blks sk y (x + 1) = blks sk y x := by
 induction y with
 | zero => simp [blks]
 | succ y ih =>
  rw [blks_succ, blks_succ, ih fun i hi => h i (by omega)]
  by_cases c : start sk y = true
  ·rw [if_pos c, if_pos c, blk_succ, h y (by omega) c]; simp
  ·rw [if_neg c, if_neg c]
theorem blks_nost {s y x : Nat} (hs : s <= y) (h : ∀ i, s <= i -> i < y -> start sk i = false) : blks sk y x = blks sk s x := by
  induction y with
  | zero => have : s = 0 := by omega
            subst this; rfl
  | succ y ih =>
    by_cases e : s = y + 1
    · subst e; rfl
    · rw [blks_succ, h y (by omega) (by omega)]
      simp [ih (by omega) fun i h1 h2 => h i h1 (by omega)]
theorem blks_start (K : Kin n sk) {x : Nat} (hx : x < n) (h : start sk x = true) : blks sk (x + 1) (x + 1) = blks sk x x ++ [[(x : Int)]] := by
 rw [blks_succ, if_pos h, blks_bnd fun i hi _ => start_iff.1 h i hi, blk_succ, K.refl x hx, if_pos rfl, blk_none fun k hk => by rw [K.symm x k hx (by omega)]; exact start_iff.1 h k hk]
 rfl
theorem blks_more (K : Kin n sk) {x : Nat} (hx : x < n) (h : start sk x = false) : ∃ P B, blks sk x x = P ++ [B] /\ blks sk (x + 1) (x + 1) = P ++ [B ++ [(x : Int)]] /\ B.length <= x /\ ∃ s t, s < x /\ B = ((s : Nat) : Int) :: t /\ sk s x = true := by
 obtain ⟨s, h1, h2, h3⟩ := not_start h
 have hst : start sk s = true := start_iff.2 fun k hk => by
  cases hb : sk k s
  ·rfl
  ·have := K.trans k s x (by omega) (by omega) hx hb h2
   rw [h3 k hk] at this; cases this
 have hno : ∀ i, s + 1 <= i -> i < x + 1 -> start sk i = false := fun i a b => by
  cases hb : start sk i
  ·rfl
  ·have := start_iff.1 hb s (by omega)
   rw [K.conv s i x (by omega) (by omega) hx h2] at this; cases this
 refine ⟨blks sk s x, blk sk s x, ?_, ?_, blk_len, ?_⟩
 ·rw [blks_nost (s := s + 1) (by omega) fun i a b => hno i a (by omega), blks_succ, if_pos hst]
 ·rw [blks_nost (s := s + 1) (by omega) hno, blks_succ, if_pos hst, blks_bnd fun i hi _ => h3 i hi, blk_succ, if_pos h2]
 ·obtain ⟨s', t, e1, e2, e3⟩ := blk_head K (i := s) (x := x) (by omega) (by omega) h1
  have := e3.2 hst
  subst this
  exact ⟨s', t, h1, e1, h2⟩
theorem blks_mem (K : Kin n sk) {y x : Nat} (hy : y <= x) (hx : x <= n) {B : List Int} (h : B ∈ blks sk y x) : B.length <= x /\ ∃ s t, s < y /\ B = ((s : Nat) : Int) :: t := by
 unfold blks at h
 rw [List.mem_flatMap] at h
 obtain ⟨i, hi, h⟩ := h
 rw [List.mem_range] at hi
 by_cases c : start sk i = true
 ·rw [if_pos c, List.mem_singleton] at h
  subst h
  refine ⟨blk_len, ?_⟩
  obtain ⟨s', t, e1, e2, e3⟩ := blk_head K (i := i) (x := x) (by omega) (by omega) (by omega)
  exact ⟨s', t, by omega, e1⟩
 ·rw [if_neg c] at h; cases h
def pick (c : Int -> Bool) (bs : List (List Int)) : List Int := bs.filterMap fun b => b.find? c
def picks (c : Int -> Bool) (bs : List (List Int)) : List Int × Bool := if (bs.all fun b => (b.find? c).isSome) = true then (pick c bs, true) else ([], false)
end
section
variable {d : Database}
def skOf (d : Database) (i k : Nat) : Bool := same d.Relations (d.Facts.getD i default) (d.Facts.getD k default)
theorem sk_get {i k : Nat} (hi : i < d.Facts.length) (hk : k < d.Facts.length) : skOf d i k = same d.Relations d.Facts[i] d.Facts[k] := by
 unfold skOf
 rw [zD, zD, zE hi, zE hk]; rfl
theorem vDb_of (h : vDb d = true) : vRels d.Relations = true /\ d.Facts.length <= 14 /\ gFacts d = true := by
 unfold vDb at h; simp only [Bool.and_eq_true, decide_eq_true_eq] at h; exact h
theorem fact_ok (h : vDb d = true) {i : Nat} (hi : i < d.Facts.length) : vFact d.Relations d.Facts[i] = true := (good_of (vDb_of h).2.2 hi).1
theorem facts_up (h : vDb d = true) {i k : Nat} (hik : i < k) (hk : k < d.Facts.length) : cmpF (d.Facts[i]'(by omega)) d.Facts[k] < 0 := by
 induction k with
 | zero => omega
 | succ k ih =>
  have h1 := (good_of (vDb_of h).2.2 hk).2 (by omega)
  simp only [Nat.add_sub_cancel, decide_eq_true_eq] at h1
  by_cases e : i = k
  ·subst e; exact h1
  ·exact cmpF_trans (ih (by omega) (by omega)) h1
theorem kin (h : vDb d = true) : Kin d.Facts.length (skOf d) where
 refl i hi := by rw [sk_get hi hi]; simp [same]
 symm i k hi hk := by
  rw [sk_get hi hk, sk_get hk hi]; unfold same
  congr 1
  ·exact decide_eq_decide.2 ⟨fun h => h.symm, fun h => h.symm⟩
  ·exact decide_eq_decide.2 ⟨fun h => h.symm, fun h => h.symm⟩
 trans i j k hi hj hk h1 h2 := by
  rw [sk_get hi hj] at h1; rw [sk_get hj hk] at h2; rw [sk_get hi hk]
  unfold same at *
  simp only [Bool.and_eq_true, decide_eq_true_eq] at *
  exact ⟨h1.1.trans h2.1, h1.2.trans h2.2⟩
 conv i j k hij hjk hk hs := by
  by_cases e1 : i = j
  ·subst e1
   rw [sk_get (by omega) (by omega)]; simp [same]
  by_cases e2 : j = k
  ·subst e2; exact hs
  have hi : i < d.Facts.length := by omega
  have hj : j < d.Facts.length := by omega
  have c1 := facts_up h (i := i) (k := j) (by omega) hj
  have c2 := facts_up h (i := j) (k := k) (by omega) hk
  rw [sk_get hi hk] at hs; rw [sk_get hi hj]
  have b1 := key_le (vDb_of h).1 (fact_ok h hi)
  have b2 := key_le (vDb_of h).1 (fact_ok h hj)
  have b3 := key_le (vDb_of h).1 (fact_ok h hk)
  generalize d.Facts[i] = a at *
  generalize d.Facts[j] = b at *
  generalize d.Facts[k] = c at *
  obtain ⟨_, _, _, _, b1⟩ := b1
  obtain ⟨_, _, _, _, b2⟩ := b2
  obtain ⟨_, _, _, _, b3⟩ := b3
  unfold same keyOf at *
  simp only [Bool.and_eq_true, decide_eq_true_eq] at *
  obtain ⟨r, hk⟩ := hs
  unfold cmpF at c1 c2
  have r1 : a.Relation = b.Relation := by
   by_cases q1 : a.Relation < b.Relation
   ·rw [if_neg (by omega), if_pos (by omega)] at c2; omega
   ·rw [if_neg q1] at c1
    by_cases q2 : a.Relation > b.Relation
    ·rw [if_pos q2] at c1; omega
    ·omega
  rw [if_neg (by omega), if_neg (by omega)] at c1 c2
  rw [<- r] at hk b3; rw [<- r1] at b2
  refine ⟨r1, ?_⟩
  rw [<- r1]
  exact cmpL_conv c1 c2 (by omega) (by omega) (by omega) hk
variable (h : vDb d = true) (hf : Fits d)
theorem fits_val {i : Nat} (hf : Fits d) (hi : i < d.Facts.length) : d.Facts[i].Values.length <= 1048576 := hf.2.2 _ (List.getElem_mem hi)
include h hf
theorem blockSpec {i : Nat} (hi : i < d.Facts.length) : f97 d i = some (blk (skOf d) i d.Facts.length) := by
 have hn := (vDb_of h).2.1
 unfold f97
 rw [iter_flat (List.range d.Facts.length) (fun k => if skOf d i k = true then [((k : Nat) : Int)] else []) id (fun k hk => by
  simp only [List.length_range] at hk
  have el : (((List.range d.Facts.length).take k).flatMap fun k => if skOf d i k = true then [((k : Nat) : Int)] else []).length <= k := by
   have := take_flat_le (l := List.range d.Facts.length) (i := k) (g := fun k => if skOf d i k = true then [((k : Nat) : Int)] else []) (m := 1) (fun a => by split <;> simp)
   omega
  generalize ((List.range d.Facts.length).take k).flatMap (fun k => if skOf d i k = true then [((k : Nat) : Int)] else []) = out at el ⊢
  simp only [List.getElem_range]
  simp only [f97_0]
  have eb : btw (i : Int) 0 (w64 ((d.Facts.length : Int) - 1)) = true := by rw [w64_of (by omega)]; unfold btw; simp; omega
  rw [if_pos (by omega), specDb (fits_room hf), h]
  simp only [bS, if_true, specIn, eb]
  rw [ix_nat hi, ix_nat hk, w64_succ (by omega)]
  simp only [bS, specSame (fits_room hf).1 (fits_val hf hi) (fits_val hf hk) (vDb_of h).1 (fact_ok h hi) (fact_ok h hk)]
  rw [<- sk_get hi hk]
  cases skOf d i k
  ·simp
  ·simp only [if_true]
   rw [app_fits (by simp; omega)]; simp) (by
  simp only [f97_0]
  rw [if_neg (by simp)]; rfl)]
 rfl
theorem blocksSpec : f58 d = some (blks (skOf d) d.Facts.length d.Facts.length) := by
 have hn := (vDb_of h).2.1
 unfold f58
 rw [iter_flat (List.range d.Facts.length) (fun i => if start (skOf d) i = true then [blk (skOf d) i d.Facts.length] else []) id (fun i hi => by
  simp only [List.length_range] at hi
  have el : (((List.range d.Facts.length).take i).flatMap fun i => if start (skOf d) i = true then [blk (skOf d) i d.Facts.length] else []).length <= i := by
   have := take_flat_le (l := List.range d.Facts.length) (i := i) (g := fun i => if start (skOf d) i = true then [blk (skOf d) i d.Facts.length] else []) (m := 1) (fun a => by split <;> simp)
   omega
  generalize ((List.range d.Facts.length).take i).flatMap (fun i => if start (skOf d) i = true then [blk (skOf d) i d.Facts.length] else []) = out at el ⊢
  simp only [List.getElem_range]
  simp only [f58_0]
  obtain ⟨s, t, e1, e2, e3⟩ := blk_head (kin h) hi (Nat.le_refl _) hi
  have e0 : ix (blk (skOf d) i d.Facts.length) 0 = some ((s : Nat) : Int) := by rw [e1]; rfl
  rw [if_pos (by omega), specDb (fits_room hf), h]
  simp only [bS, if_true, blockSpec h hf hi, e0]
  rw [w64_succ (by omega)]
  by_cases c : start (skOf d) i = true
  ·rw [if_pos (by have := e3.2 c; omega), if_pos c, app_fits (by simp; omega)]; rfl
  ·rw [if_neg (by intro q; exact c (e3.1 (by omega))), if_neg c]; simp) (by
  simp only [f58_0]
  rw [if_neg (by simp)]; rfl)]
 rfl
theorem blocksImp : f27 d = some (blks (skOf d) d.Facts.length d.Facts.length) := by
 have hn := (vDb_of h).2.1
 unfold f27
 have := iter_steps (f := f27_0 d) (fun i => (blks (skOf d) i i, (i : Int))) d.Facts.length (blks (skOf d) d.Facts.length d.Facts.length) (fun x hx => by
  have hl := blks_len (sk := skOf d) (y := x) (x := x)
  simp only [f27_0]
  rw [if_pos (by omega), ix_nat hx, bS, w64_succ (by omega), w64_of (by omega)]
  cases hs : start (skOf d) x
  ·obtain ⟨P, B, e1, e2, e3, s, t, h1, e4, h2⟩ := blks_more (kin h) hx hs
   rw [e1] at hl ⊢
   rw [e2]
   simp only [List.length_append, List.length_singleton] at hl ⊢
   have q : ((P.length + 1 : Nat) : Int) - 1 = ((P.length : Nat) : Int) := by omega
   rw [q, if_pos (by omega), ix_nat (by simp)]
   have e0 : ix B 0 = some ((s : Nat) : Int) := by rw [e4]; rfl
   simp only [List.getElem_concat_length, bS, e0]
   rw [ix_nat (by omega : s < d.Facts.length), bS, impSame (fits_val hf _) (fits_val hf hx) (vDb_of h).1 (fact_ok h _) (fact_ok h hx)]
   rw [<- sk_get (by omega : s < d.Facts.length) hx, h2]
   simp only [bS, if_true]
   rw [app_fits (by simp; omega)]
   simp
  ·rw [blks_start (kin h) hx hs]
   by_cases c : blks (skOf d) x x = []
   ·rw [c]
    simp only [List.length_nil]
    rw [if_neg (by omega)]
    simp only [bS, Bool.false_eq_true, if_false]
    rw [app_fits (by simp)]; simp
   ·obtain ⟨P, B, e1⟩ : ∃ P B, blks (skOf d) x x = P ++ [B] := ⟨_, _, (List.dropLast_concat_getLast c).symm⟩
    obtain ⟨_, s, t, h1, e4⟩ := blks_mem (kin h) (y := x) (x := x) (Nat.le_refl _) (by omega) (B := B) (by rw [e1]; simp)
    rw [e1] at hl ⊢
    simp only [List.length_append, List.length_singleton] at hl ⊢
    have q : ((P.length + 1 : Nat) : Int) - 1 = ((P.length : Nat) : Int) := by omega
    rw [q, if_pos (by omega), ix_nat (by simp)]
    have e0 : ix B 0 = some ((s : Nat) : Int) := by rw [e4]; rfl
    simp only [List.getElem_concat_length, bS, e0]
    rw [ix_nat (by omega : s < d.Facts.length), bS, impSame (fits_val hf _) (fits_val hf hx) (vDb_of h).1 (fact_ok h _) (fact_ok h hx)]
    rw [<- sk_get (by omega : s < d.Facts.length) hx, start_iff.1 hs s h1]
    simp only [bS, Bool.false_eq_true, if_false]
    rw [app_fits (by simp; omega)]; simp) (by
  simp only [f27_0]
  rw [if_neg (by omega)])
 erw [this]
 rfl
omit h hf
end
section
variable {d : Database} {n : Nat} {sk : Nat -> Nat -> Bool}
theorem asc_of {s : List Int} (h : asc n s = true) : s.Pairwise (· < ·) /\ ∀ v ∈ s, 0 <= v /\ v < n := by
 have hg := fun i (hi : i < s.length) => good_of h hi
 refine ⟨?_, ?_⟩
 ·rw [List.pairwise_iff_getElem]
  intro i j hi hj hij
  induction j with
  | zero => omega
  | succ j ih =>
   have h1 := (hg (j + 1) hj).2 (by omega)
   simp only [Nat.add_sub_cancel, decide_eq_true_eq] at h1
   by_cases e : i = j
   ·subst e; exact h1
   ·have := ih (by omega) (by omega); omega
 ·intro v hv
  obtain ⟨i, hi, rfl⟩ := List.getElem_of_mem hv
  have h1 := (hg i hi).1
  simp only [btw, Bool.and_eq_true, decide_eq_true_eq] at h1
  omega
theorem asc_mk {s : List Int} (h : s.Pairwise (· < ·)) (hb : ∀ v ∈ s, 0 <= v /\ v < n) : asc n s = true := by
 refine decide_eq_true fun i hi => ?_
 have h1 := hb _ (List.getElem_mem hi)
 simp only [btw, Bool.and_eq_true, Bool.or_eq_true, decide_eq_true_eq]
 refine ⟨⟨h1.1, by omega⟩, ?_⟩
 by_cases e : i = 0
 ·exact .inl e
 ·exact .inr (List.pairwise_iff_getElem.1 h (i - 1) i (by omega) hi (by omega))
theorem up_nodup {s : List Int} (h : s.Pairwise (· < ·)) : s.Nodup := h.imp fun hab e => by omega
theorem asc_len {s : List Int} (h : asc n s = true) : s.length <= n := nodup_le (up_nodup (asc_of h).1) (asc_of h).2
def fat (d : Database) (v : Int) : Fact := d.Facts.getD v.toNat default
def sel (d : Database) (s : List Int) : Database := ⟨d.Relations, s.map (fat d)⟩
theorem fat_get {i : Nat} (hi : i < d.Facts.length) : fat d (i : Int) = d.Facts[i] := by
 unfold fat
 rw [Int.toNat_natCast, zD, zE hi]; rfl
theorem fat_mem {v : Int} (h : 0 <= v /\ v < d.Facts.length) : fat d v ∈ d.Facts := by
 have : v = ((v.toNat : Nat) : Int) := by omega
 rw [this, fat_get (by omega)]; exact List.getElem_mem _
theorem fat_up (h : vDb d = true) {a b : Int} (ha : 0 <= a) (hab : a < b) (hb : b < d.Facts.length) : cmpF (fat d a) (fat d b) < 0 := by
 have ea : a = ((a.toNat : Nat) : Int) := by omega
 have eb : b = ((b.toNat : Nat) : Int) := by omega
 rw [ea, eb, fat_get (by omega), fat_get (by omega)]
 exact facts_up h (by omega) (by omega)
theorem sel_len {s : List Int} : (sel d s).Facts.length = s.length := by simp [sel]
theorem sel_v (h : vDb d = true) {s : List Int} (hs : asc d.Facts.length s = true) : vDb (sel d s) = true := by
 obtain ⟨v1, v2, v3⟩ := vDb_of h
 obtain ⟨s1, s2⟩ := asc_of hs
 unfold vDb
 simp only [Bool.and_eq_true, decide_eq_true_eq]
 refine ⟨v1, by rw [sel_len]; have := asc_len hs; omega, decide_eq_true fun i hi => ?_⟩
 rw [sel_len] at hi
 simp only [Bool.and_eq_true, Bool.or_eq_true, decide_eq_true_eq]
 have hm := s2 _ (List.getElem_mem hi)
 refine ⟨?_, ?_⟩
 ·have : (sel d s).Facts[i]'(by rw [sel_len]; exact hi) = fat d s[i] := by simp [sel]
  rw [this]
  obtain ⟨k, hk, e⟩ := List.getElem_of_mem (fat_mem hm)
  rw [<- e]; exact fact_ok h hk
 ·by_cases e : i = 0
  ·exact .inl e
  ·refine .inr ?_
   have e1 : (sel d s).Facts[i]'(by rw [sel_len]; exact hi) = fat d s[i] := by simp [sel]
   have e2 : (sel d s).Facts[i - 1]'(by rw [sel_len]; omega) = fat d (s[i - 1]'(by omega)) := by simp [sel]
   rw [e1, e2]
   exact fat_up h (s2 _ (List.getElem_mem (by omega))).1 (List.pairwise_iff_getElem.1 s1 (i - 1) i (by omega) hi (by omega)) hm.2
def apart (d : Database) (s : List Int) : Prop := s.Pairwise fun a b => same d.Relations (fat d a) (fat d b) = false
instance {s : List Int} : Decidable (apart d s) := by unfold apart; infer_instance
def prt (d : Database) (s : List Int) : Bool := vDb d && (asc d.Facts.length s && decide (apart d s))
theorem blks_all {y x : Nat} : (blks sk y x).length = y ↔ ∀ i, i < y -> start sk i = true := by
 induction y with
 | zero => simp [blks]
 | succ y ih =>
  have hle := blks_len (sk := sk) (y := y) (x := x)
  rw [blks_succ, List.length_append]
  by_cases h : start sk y = true
  ·rw [if_pos h]
   simp only [List.length_cons, List.length_nil, Nat.zero_add, Nat.add_right_cancel_iff, ih]
   exact ⟨fun q i hi => by
    by_cases e : i = y
    ·subst e; exact h
    ·exact q i (by omega), fun q i hi => q i (by omega)⟩
  ·rw [if_neg h]
   simp only [List.length_nil]
   exact ⟨fun q => by omega, fun q => absurd (q y (by omega)) h⟩
theorem con_iff {s : List Int} : (blks (skOf (sel d s)) s.length s.length).length = s.length ↔ apart d s := by
 rw [blks_all]
 unfold apart
 rw [List.pairwise_iff_getElem]
 have key : ∀ i k (hi : i < s.length) (hk : k < s.length), skOf (sel d s) i k = same d.Relations (fat d s[i]) (fat d s[k]) := fun i k hi hk => by
  rw [sk_get (by rw [sel_len]; exact hi) (by rw [sel_len]; exact hk)]
  simp [sel]
 constructor
 ·intro h i j hi hj hij
  rw [<- key i j hi hj]
  exact start_iff.1 (h j hj) i hij
 ·intro h i hi
  refine start_iff.2 fun k hk => ?_
  rw [key k i (by omega) hi]
  exact h k i (by omega) hi hk
theorem sel_fits (hf : Fits d) {s : List Int} (hs : asc d.Facts.length s = true) : Fits (sel d s) := by
 refine ⟨hf.1, by rw [sel_len]; have := asc_len hs; have := hf.2.1; omega, fun x hx => ?_⟩
 simp only [sel, List.mem_map] at hx
 obtain ⟨v, hv, rfl⟩ := hx
 exact hf.2.2 _ (fat_mem ((asc_of hs).2 v hv))
end
section
theorem flat_take {L : List (List Int)} {i : Nat} : (L.take i).flatten.length <= L.flatten.length := by
 conv => rhs; rw [<- List.take_append_drop i L, List.flatten_append, List.length_append]
 omega
theorem concatN {L : List (List Int)} (hL : L.length <= 1048576) (h : L.flatten.length <= 1048576) : f121 L = some L.flatten := by
 unfold f121
 have q : ∀ i (hi : i < L.length), (L.take (i + 1)).flatten = (L.take i).flatten ++ L[i] := fun i hi => by rw [take_succ' hi, List.flatten_append]; simp
 have h1 := iter_steps (f := f121_0 L) (fun i => (((L.take i).flatten.length : Int), (i : Int))) L.length (L.flatten.length : Int) (fun i hi => by
  have e := congrArg List.length (q i hi)
  rw [List.length_append] at e
  have b := flat_take (L := L) (i := i + 1)
  simp only [f121_0]
  rw [if_pos (by omega), ix_nat hi, bS, w64_succ (by omega), w64_of (by omega), if_neg (by omega), bS, e]
  rw [Int.natCast_add (List.take i L).flatten.length]) (by
  simp only [f121_0]
  rw [if_neg (by omega), List.take_of_length_le (Nat.le_refl _)])
 simp only [List.take_zero, List.flatten_nil, List.length_nil, Int.natCast_zero, Int.ofNat_zero] at h1
 erw [h1]
 rw [bS]
 unfold f158 growN
 rw [if_pos ⟨by omega, by unfold room; omega⟩, bS]
 have h2 := iter_steps (f := f121_1 L) (fun i => (L.flatten.length - (L.take i).flatten.length, (L.take i).flatten, (i : Int))) L.length (0, L.flatten) (fun i hi => by
  have e := congrArg List.length (q i hi)
  rw [List.length_append] at e
  have b := flat_take (L := L) (i := i + 1)
  simp only [f121_1]
  rw [if_pos (by omega), ix_nat hi, bS, w64_succ (by omega)]
  unfold apps
  rw [if_pos ⟨by omega, by unfold room; omega⟩, bS, q i hi]
  simp only [List.length_append]
  rw [Nat.sub_sub]) (by
  simp only [f121_1]
  rw [if_neg (by omega), List.take_of_length_le (Nat.le_refl _), Nat.sub_self])
 simp only [List.take_zero, List.flatten_nil, List.length_nil, Nat.sub_zero, Int.natCast_zero, Int.ofNat_zero] at h2
 rw [Int.toNat_natCast]
 erw [h2]
 simp [nsk]
theorem sort12 {x : List Int} (h : x.length <= 12) : Ens (f87 x) fun r => r.Pairwise (· <= ·) /\ r.Perm x := by
 unfold f87 sortN srtL
 rw [if_pos (by omega)]
 refine Ens.of ⟨?_, List.mergeSort_perm _ _⟩
 have := List.pairwise_mergeSort (le := fun a b : Int => decide (a <= b)) (fun a b c h1 h2 => by simp at *; omega) (fun a b => by simp; omega) x
 exact this.imp fun h => by simpa using h
theorem compact_up : ∀ {l : List Int}, l.Pairwise (· <= ·) -> (compactL l).Pairwise (· < ·) /\ ∀ y, y ∈ compactL l ↔ y ∈ l
 | [], h => by simp [compactL]
 | [a], h => by simp [compactL]
 | a :: b :: r, h => by
  rw [List.pairwise_cons] at h
  obtain ⟨i1, i2⟩ := compact_up h.2
  rw [compactL]
  split
  ·rename_i e
   subst e
   exact ⟨i1, fun y => by rw [i2]; simp⟩
  ·rename_i e
   refine ⟨List.pairwise_cons.2 ⟨fun y hy => ?_, i1⟩, fun y => by simp [i2]⟩
   rw [i2] at hy
   have h1 := h.1 b (by simp)
   rcases List.mem_cons.1 hy with rfl | hy
   ·omega
   ·have := (List.pairwise_cons.1 h.2).1 y hy; omega
theorem union12 {a b : List Int} (h : a.length + b.length <= 12) : Ens (f78 a b) fun r => r.Pairwise (· < ·) /\ (∀ y, y ∈ r ↔ y ∈ a \/ y ∈ b) /\ r.length <= 12 := by
 unfold f78
 have e : [a, b].flatten = a ++ b := by simp
 rw [concatN (by simp) (by rw [e]; simp; omega), e, bS]
 refine Ens.bind (sort12 (by simp; omega)) fun r hr => ?_
 have hl := hr.2.length_eq
 simp only [List.length_append] at hl
 unfold f122 compactN
 rw [if_pos (by omega)]
 obtain ⟨c1, c2⟩ := compact_up hr.1
 exact Ens.of ⟨c1, fun y => by rw [c2, hr.2.mem_iff, List.mem_append], by have := compactL_len r; omega⟩
theorem up_ext : ∀ {a b : List Int}, a.Pairwise (· < ·) -> b.Pairwise (· < ·) -> (∀ y, y ∈ a ↔ y ∈ b) -> a = b
 | [], [], _, _, _ => rfl
 | [], y :: b, _, _, h => by have := (h y).2 (by simp); cases this
 | x :: a, [], _, _, h => by have := (h x).1 (by simp); cases this
 | x :: a, y :: b, ha, hb, h => by
  rw [List.pairwise_cons] at ha hb
  have e : x = y := by
   have h1 := (h x).1 (by simp)
   have h2 := (h y).2 (by simp)
   rcases List.mem_cons.1 h1 with e | h1
   ·exact e
   ·rcases List.mem_cons.1 h2 with e | h2
    ·exact e.symm
    ·have := ha.1 y h2; have := hb.1 x h1; omega
  subst e
  congr 1
  refine up_ext ha.2 hb.2 fun y => ?_
  have := h y
  constructor
  ·intro hy
   have q := ha.1 y hy
   rcases List.mem_cons.1 (this.1 (List.mem_cons.2 (.inr hy))) with e | e
   ·omega
   ·exact e
  ·intro hy
   have q := hb.1 y hy
   rcases List.mem_cons.1 (this.2 (List.mem_cons.2 (.inr hy))) with e | e
   ·omega
   ·exact e
end
section
def avars (t : List Int) : List Int := (List.range 4).flatMap fun v => if t.contains ((v : Nat) : Int) = true then [((v : Nat) : Int)] else []
theorem avars_up {t : List Int} : (avars t).Pairwise (· < ·) := by
 unfold avars
 simp only [List.range, List.range.loop, List.flatMap_cons, List.flatMap_nil, List.append_nil]
 generalize t.contains ((0 : Nat) : Int) = a
 generalize t.contains ((1 : Nat) : Int) = b
 generalize t.contains ((2 : Nat) : Int) = c
 generalize t.contains ((3 : Nat) : Int) = d
 cases a <;> cases b <;> cases c <;> cases d <;> simp
theorem avars_mem {t : List Int} {y : Int} : y ∈ avars t ↔ y ∈ t /\ btw y 0 3 = true := by
 unfold avars btw
 simp only [List.mem_flatMap, List.mem_range, Bool.and_eq_true, decide_eq_true_eq]
 constructor
 ·rintro ⟨v, hv, h⟩
  by_cases c : t.contains ((v : Nat) : Int) = true
  ·rw [if_pos c, List.mem_singleton] at h
   subst h
   exact ⟨by simpa using c, by omega, by omega⟩
  ·rw [if_neg c] at h; cases h
 ·rintro ⟨h, h1, h2⟩
  refine ⟨y.toNat, by omega, ?_⟩
  rw [Int.toNat_of_nonneg h1, if_pos (by simpa using h)]
  simp
theorem impVars {a : Atom} (h : a.Terms.length <= 12) : f36 a = some (avars a.Terms) := by
 unfold f36
 rw [iter_flat a.Terms (fun v => if btw v 0 3 = true then [v] else []) id (fun k hk => by
  have el : ((a.Terms.take k).flatMap fun v => if btw v 0 3 = true then [v] else []).length <= k := by
   have := take_flat_le (l := a.Terms) (i := k) (g := fun v => if btw v 0 3 = true then [v] else []) (m := 1) (fun a => by split <;> simp)
   omega
  generalize (a.Terms.take k).flatMap (fun v => if btw v 0 3 = true then [v] else []) = out at el ⊢
  simp only [f36_0]
  rw [if_pos (by omega), ix_nat hk, bS, impIn, bS, w64_succ (by omega)]
  by_cases c : btw a.Terms[k] 0 3 = true
  ·rw [if_pos c, if_pos c, app_fits (by simp; omega)]; rfl
  ·rw [if_neg c, if_neg c]; simp) (by
  simp only [f36_0]
  rw [if_neg (by omega)]; rfl)]
 rw [bS]
 dsimp only [id]
 have el : (a.Terms.flatMap fun v => if btw v 0 3 = true then [v] else []).length <= a.Terms.length := by
  have := take_flat_le (l := a.Terms) (i := a.Terms.length) (g := fun v => if btw v 0 3 = true then [v] else []) (m := 1) (fun a => by split <;> simp)
  rw [List.take_of_length_le (Nat.le_refl _)] at this
  omega
 obtain ⟨r, h1, h2, h3, _⟩ := union12 (a := a.Terms.flatMap fun v => if btw v 0 3 = true then [v] else []) (b := []) (by rw [List.length_nil]; omega)
 rw [h1, bS]
 congr 1
 refine up_ext h2 avars_up fun y => ?_
 rw [h3, avars_mem, List.mem_flatMap]
 constructor
 ·rintro (⟨v, hv, h⟩ | h)
  ·by_cases c : btw v 0 3 = true
   ·rw [if_pos c, List.mem_singleton] at h; subst h; exact ⟨hv, c⟩
   ·rw [if_neg c] at h; cases h
  ·cases h
 ·rintro ⟨h, c⟩
  exact .inl ⟨y, h, by rw [if_pos c]; simp⟩
theorem vRels_arity {l : List Relation} {r : Int} (h : vRels l = true) (hb : btw r 0 (l.length - 1) = true) : arity l r <= 3 := by
 obtain ⟨x, h1, h2, h3, _⟩ := ix_rel hb
 unfold vRels at h; simp only [Bool.and_eq_true] at h
 obtain ⟨i, hi, rfl⟩ := List.mem_iff_getElem.1 h2
 have := (good_of h.1 hi).1
 unfold vRel btw at this
 simp only [Bool.and_eq_true, decide_eq_true_eq] at this
 omega
end
section
def nfl (X : Int -> Bool) : List Int := (List.range 4).flatMap fun v => if X ((v : Nat) : Int) = true then [((v : Nat) : Int)] else []
def In4 (X : Int -> Bool) : Prop := ∀ v, X v = true -> btw v 0 3 = true
def Le4 (X Y : Int -> Bool) : Prop := ∀ v, X v = true -> Y v = true
def cupX (X Y : Int -> Bool) : Int -> Bool := fun v => X v || Y v
theorem Le4.refl {X : Int -> Bool} : Le4 X X := fun _ h => h
theorem Le4.trans {X Y Z : Int -> Bool} (h : Le4 X Y) (g : Le4 Y Z) : Le4 X Z := fun v hv => g v (h v hv)
theorem avars_nfl {t : List Int} : avars t = nfl t.contains := rfl
theorem nfl_mem {X : Int -> Bool} {y : Int} : y ∈ nfl X ↔ X y = true /\ btw y 0 3 = true := by
 unfold nfl btw
 simp only [List.mem_flatMap, List.mem_range, Bool.and_eq_true, decide_eq_true_eq]
 constructor
 ·rintro ⟨v, hv, h⟩
  by_cases c : X ((v : Nat) : Int) = true
  ·rw [if_pos c, List.mem_singleton] at h
   subst h
   exact ⟨c, by omega, by omega⟩
  ·rw [if_neg c] at h; cases h
 ·rintro ⟨h, h1, h2⟩
  refine ⟨y.toNat, by omega, ?_⟩
  rw [Int.toNat_of_nonneg h1, if_pos h]
  simp
theorem nfl_up {X : Int -> Bool} : (nfl X).Pairwise (· < ·) := by
 unfold nfl
 simp only [List.range, List.range.loop, List.flatMap_cons, List.flatMap_nil, List.append_nil]
 generalize X ((0 : Nat) : Int) = a
 generalize X ((1 : Nat) : Int) = b
 generalize X ((2 : Nat) : Int) = c
 generalize X ((3 : Nat) : Int) = d
 cases a <;> cases b <;> cases c <;> cases d <;> simp
theorem nfl_len {X : Int -> Bool} : (nfl X).length <= 4 := by
 unfold nfl
 simp only [List.range, List.range.loop, List.flatMap_cons, List.flatMap_nil, List.append_nil, List.length_append]
 split <;> split <;> split <;> split <;> simp
theorem nfl_congr {X Y : Int -> Bool} (h : ∀ v, btw v 0 3 = true -> X v = Y v) : nfl X = nfl Y := by
 refine up_ext nfl_up nfl_up fun y => ?_
 rw [nfl_mem, nfl_mem]
 constructor <;> rintro ⟨a, b⟩ <;> exact ⟨by rw [<- a, h y b], b⟩
theorem nfl_in {X : Int -> Bool} : In4 (nfl X).contains := fun v hv => by
 rw [List.contains_iff_mem, nfl_mem] at hv; exact hv.2
theorem nfl_nil : nfl (fun _ => false) = [] := by simp [nfl]
theorem unionI {a b : List Int} (h : a.length + b.length <= 12) (ha : In4 a.contains) (hb : In4 b.contains) : f78 a b = some (nfl (cupX a.contains b.contains)) := by
 obtain ⟨r, h1, h2, h3, _⟩ := union12 h
 rw [h1]
 congr 1
 refine up_ext h2 nfl_up fun y => ?_
 rw [h3, nfl_mem]
 unfold cupX
 simp only [Bool.or_eq_true, List.contains_iff_mem]
 constructor
 ·intro hy
  refine ⟨hy, ?_⟩
  rcases hy with hy | hy
  ·exact ha y (by rw [List.contains_iff_mem]; exact hy)
  ·exact hb y (by rw [List.contains_iff_mem]; exact hy)
 ·exact fun h => h.1
structure Rule where
 c : (Int -> Bool) -> Bool
 a : Int -> Bool
def fire (X : Int -> Bool) (r : Rule) : Int -> Bool := if r.c X = true then cupX X r.a else X
def pass (L : List Rule) (X : Int -> Bool) : Int -> Bool := L.foldl fire X
end
section
def FitsQ (q : Query) : Prop := q.Atoms.length <= 1048576 /\ (∀ a ∈ q.Atoms, a.Terms.length <= 1048576) /\ q.Free.length <= 1048576
def vAt (l : List Relation) (n : Int) (before : List Atom) (a : Atom) : Bool :=
 btw a.Relation 0 (l.length - 1) && (decide ((a.Terms.length : Int) = arity l a.Relation) && ((a.Terms.all fun v => btw v (-10) (n - 1)) && !(before.any fun b => decide (b.Relation = a.Relation))))
def vAtom (l : List Relation) (q : Query) (i : Nat) : Bool := match q.Atoms[i]? with
 | none => true
 | some a => vAt l q.VariableCount (q.Atoms.take i) a
def occ (az : List Atom) : Int -> Bool := fun v => az.any fun a => a.Terms.contains v
def vQuery (l : List Relation) (q : Query) : Bool :=
 vRels l && (btw q.VariableCount 0 4 && (btw q.Atoms.length 1 3 && (((List.range q.Atoms.length).all (vAtom l q)) && (((List.range 4).all fun v => decide (q.VariableCount <= ((v : Nat) : Int)) || occ q.Atoms ((v : Nat) : Int)) && asc q.VariableCount q.Free))))
theorem vAtom_get {l : List Relation} {q : Query} {i : Nat} (h : i < q.Atoms.length) : vAtom l q i = vAt l q.VariableCount (q.Atoms.take i) q.Atoms[i] := by
 unfold vAtom; rw [zE h]
theorem all_false {n i : Nat} {p : Nat -> Bool} (h : i < n) (hp : p i = false) : (List.range n).all p = false := by
 rw [Bool.eq_false_iff]
 intro ha
 have := List.all_eq_true.1 ha i (List.mem_range.2 h)
 rw [hp] at this; cases this
theorem occ_succ {az : List Atom} {i : Nat} (h : i < az.length) {v : Int} : occ (az.take (i + 1)) v = (occ (az.take i) v || az[i].Terms.contains v) := by
 unfold occ; rw [take_succ' h, List.any_append]; simp
theorem has_succ {t : List Int} {k : Nat} (h : k < t.length) {v : Int} : (t.take (k + 1)).contains v = ((t.take k).contains v || decide (v = t[k])) := by
 rw [Bool.eq_iff_iff, List.contains_iff_mem, take_succ' h, List.mem_append, List.mem_singleton, Bool.or_eq_true, List.contains_iff_mem, decide_eq_true_eq]
section
variable {l : List Relation} {q : Query}
theorem specTerms {a : Atom} {mt : List Bool} {X : Int -> Bool} (ht : a.Terms.length <= 1048576) (hn : 0 <= q.VariableCount /\ q.VariableCount <= 4) (hm : mt.length = 4) (hx : ∀ v, v < 4 -> mt[v]? = some (X ((v : Nat) : Int))) :
  Ens (iter (f93_4 q a) (mt, 0)) fun o => match o with
   | .inl m => (a.Terms.all fun v => btw v (-10) (q.VariableCount - 1)) = true /\ m.length = 4 /\ ∀ v, v < 4 -> m[v]? = some (X ((v : Nat) : Int) || a.Terms.contains ((v : Nat) : Int))
   | .inr b => b = false /\ (a.Terms.all fun v => btw v (-10) (q.VariableCount - 1)) = false := by
 refine iter_up (f := f93_4 q a) a.Terms.length (fun k s => s.2 = (k : Int) /\ ((a.Terms.take k).all fun v => btw v (-10) (q.VariableCount - 1)) = true /\ s.1.length = 4 /\ ∀ v, v < 4 -> s.1[v]? = some (X ((v : Nat) : Int) || (a.Terms.take k).contains ((v : Nat) : Int))) _ (fun k s hk hI => ?_) (fun s hI => ?_) (mt, 0) ⟨rfl, by simp, hm, fun v hv => by simp [hx v hv]⟩
 ·obtain ⟨m, x⟩ := s
  obtain ⟨e1, e2, e3, e4⟩ := hI
  dsimp only at e1 e3 e4
  subst e1
  simp only [f93_4]
  rw [if_pos (by omega), ix_nat hk, bS, w64_of (by omega), specIn, bS]
  cases hb : btw a.Terms[k] (-10) (q.VariableCount - 1)
  ·refine ⟨_, rfl, rfl, ?_⟩
   rw [Bool.eq_false_iff]
   intro ha
   have := List.all_eq_true.1 ha _ (List.getElem_mem hk)
   rw [hb] at this; cases this
  ·have hb' := hb
   unfold btw at hb'; simp only [Bool.and_eq_true, decide_eq_true_eq] at hb'
   have ha : ((a.Terms.take (k + 1)).all fun v => btw v (-10) (q.VariableCount - 1)) = true := by
    rw [take_succ' hk, List.all_append, e2]; simp [hb]
   simp only [not_true_eq_false, if_false]
   rw [w64_succ (by omega)]
   by_cases c : a.Terms[k] >= 0
   ·have hi : ix m a.Terms[k] = some (m[a.Terms[k].toNat]'(by omega)) := by rw [ix_of c, zE (by omega)]
    rw [if_pos c, hi]
    simp only [bS]
    refine ⟨_, rfl, rfl, ha, by simp [e3], fun v hv => ?_⟩
    dsimp only
    rw [List.getElem?_set]
    by_cases e : a.Terms[k].toNat = v
    ·rw [if_pos e, if_pos (by omega)]
     have : ((v : Nat) : Int) = a.Terms[k] := by omega
     rw [has_succ hk]
     simp [this]
    ·rw [if_neg e, e4 v hv, has_succ hk]
     have : ¬ ((v : Nat) : Int) = a.Terms[k] := by omega
     simp [this]
   ·rw [if_neg c]
    simp only [bS]
    refine ⟨_, rfl, rfl, ha, e3, fun v hv => ?_⟩
    dsimp only
    rw [e4 v hv, has_succ hk]
    have : ¬ ((v : Nat) : Int) = a.Terms[k] := by omega
    simp [this]
 ·obtain ⟨m, x⟩ := s
  obtain ⟨e1, e2, e3, e4⟩ := hI
  dsimp only at e1 e3 e4
  subst e1
  rw [List.take_of_length_le (Nat.le_refl _)] at e2 e4
  simp only [f93_4]
  rw [if_neg (by omega)]
  exact ⟨_, rfl, e2, e3, e4⟩
theorem specEarlier {a : Atom} {i : Nat} (hi : i <= q.Atoms.length) (hq : q.Atoms.length <= 1048576) : iter (f93_3 q (i : Int) a) 0 = some (if ((q.Atoms.take i).any fun b => decide (b.Relation = a.Relation)) = true then .inr false else .inl ()) := by
 have e : (q.Atoms.take i).length = i := by simp; omega
 refine iter_ex (q.Atoms.take i) (fun b => decide (b.Relation = a.Relation)) false (fun k hk => ?_) ?_
 ·rw [e] at hk
  simp only [f93_3]
  rw [if_pos (by omega), ix_nat (by omega : k < q.Atoms.length), bS, w64_succ (by omega), List.getElem_take]
  by_cases c : q.Atoms[k].Relation = a.Relation
  ·rw [if_pos c, if_pos (by simp [c])]
  ·rw [if_neg c, if_neg (by simp [c])]
 ·simp only [f93_3]
  rw [e, if_neg (by omega)]
theorem specAtoms (hl : Big l.length) (hq : FitsQ q) (hn : 0 <= q.VariableCount /\ q.VariableCount <= 4) :
  Ens (iter (f93_0 l q) ([false, false, false, false], 0)) fun o => match o with
   | .inl m => (List.range q.Atoms.length).all (vAtom l q) = true /\ m.length = 4 /\ ∀ v, v < 4 -> m[v]? = some (occ q.Atoms ((v : Nat) : Int))
   | .inr b => b = false /\ (List.range q.Atoms.length).all (vAtom l q) = false := by
 obtain ⟨q1, q2, q3⟩ := hq
 refine iter_up (f := f93_0 l q) q.Atoms.length (fun i s => s.2 = (i : Int) /\ (∀ j, j < i -> vAtom l q j = true) /\ s.1.length = 4 /\ ∀ v, v < 4 -> s.1[v]? = some (occ (q.Atoms.take i) ((v : Nat) : Int))) _ (fun i s hi hI => ?_) (fun s hI => ?_) _ ⟨rfl, fun j hj => by omega, rfl, fun v hv => ?_⟩
 ·obtain ⟨m, x⟩ := s
  obtain ⟨e1, e2, e3, e4⟩ := hI
  dsimp only at e1 e3 e4
  subst e1
  have hv := vAtom_get (l := l) hi
  simp only [f93_0]
  rw [if_pos (by omega), ix_nat hi, bS, w64_of (by omega), specIn, bS]
  have ht := q2 _ (List.getElem_mem hi)
  unfold vAt at hv
  cases hb : btw q.Atoms[i].Relation 0 (l.length - 1)
  ·rw [hb] at hv
   exact ⟨_, rfl, rfl, all_false hi (by rw [hv]; rfl)⟩
  ·obtain ⟨x, h1, _, h2, _⟩ := ix_rel hb
   rw [hb] at hv
   rw [h1]
   simp only [not_true_eq_false, if_false, bS]
   rw [h2]
   by_cases ha : (q.Atoms[i].Terms.length : Int) = arity l q.Atoms[i].Relation
   ·simp only [ha, not_true_eq_false, if_false, bS, ne_eq, decide_false, Bool.false_eq_true]
    rw [specEarlier (by omega) q1]
    cases hd : (q.Atoms.take i).any fun b => decide (b.Relation = q.Atoms[i].Relation)
    ·simp only [Bool.false_eq_true, if_false, bS]
     obtain ⟨o, ho, hQ⟩ := specTerms (q := q) (a := q.Atoms[i]) (mt := m) (X := occ (q.Atoms.take i)) ht hn e3 e4
     rw [ho]
     cases o with
     | inl m' =>
      obtain ⟨g1, g2, g3⟩ := hQ
      simp only [bS]
      rw [w64_succ (by omega)]
      refine ⟨_, rfl, rfl, fun j hj => ?_, g2, fun v hv => ?_⟩
      ·by_cases e : j = i
       ·subst e; rw [hv, ha, g1, hd]; simp
       ·exact e2 j (by omega)
      ·rw [g3 v hv, occ_succ hi]
     | inr b =>
      obtain ⟨rfl, g⟩ := hQ
      exact ⟨_, rfl, rfl, all_false hi (by rw [hv, g]; simp)⟩
    ·simp only [if_true, bS]
     exact ⟨_, rfl, rfl, all_false hi (by rw [hv, hd]; simp)⟩
   ·simp only [ha, not_true_eq_false, not_false_eq_true, if_false, bS, ne_eq, decide_true, if_true]
    exact ⟨_, rfl, rfl, all_false hi (by rw [hv]; simp [ha])⟩
 ·obtain ⟨m, x⟩ := s
  obtain ⟨e1, e2, e3, e4⟩ := hI
  dsimp only at e1 e3 e4
  subst e1
  rw [List.take_of_length_le (Nat.le_refl _)] at e4
  simp only [f93_0]
  rw [if_neg (by omega)]
  exact ⟨_, rfl, List.all_eq_true.2 fun j hj => e2 j (List.mem_range.1 hj), e3, e4⟩
 ·simp only [List.take_zero, occ, List.any_nil]
  rcases v with _ | _ | _ | _ | v
  ·rfl
  ·rfl
  ·rfl
  ·rfl
  ·omega
theorem specQ (hl : Big l.length) (hq : FitsQ q) : f93 l q = some (vQuery l q) := by
 unfold f93 vQuery
 rw [specRels hl, bS]
 cases vRels l
 ·simp
 simp only [not_true_eq_false, if_false, specIn, bS, Bool.true_and]
 cases hc : btw q.VariableCount 0 4
 ·simp
 cases hn : btw (q.Atoms.length : Int) 1 3
 ·simp
 have hc' := hc
 unfold btw at hc'; simp only [Bool.and_eq_true, decide_eq_true_eq] at hc'
 simp only [not_true_eq_false, if_false, bS, decide_false, Bool.false_eq_true, Bool.true_and]
 rw [mkl_ok (by omega) (by omega) (by omega), bS, show List.replicate (4 : Int).toNat false = [false, false, false, false] from rfl]
 obtain ⟨o, ho, hQ⟩ := specAtoms hl hq hc'
 rw [ho]
 cases o with
 | inr b => obtain ⟨rfl, g⟩ := hQ; rw [g]; simp
 | inl m =>
  obtain ⟨g1, g2, g3⟩ := hQ
  rw [g1]
  simp only [bS, Bool.true_and]
  rw [iter_ex (List.range q.VariableCount.toNat) (fun v => !occ q.Atoms ((v : Nat) : Int)) false (fun v hv => by
   simp only [List.length_range] at hv
   simp only [List.getElem_range]
   simp only [f93_1]
   rw [if_pos (by omega), ix_cast, g3 v (by omega), bS, w64_succ (by omega)]
   cases occ q.Atoms ((v : Nat) : Int) <;> simp) (by
   simp only [f93_1, List.length_range]
   rw [if_neg (by omega)])]
  have ea : ((List.range 4).all fun v => decide (q.VariableCount <= ((v : Nat) : Int)) || occ q.Atoms ((v : Nat) : Int)) = !((List.range q.VariableCount.toNat).any fun v => !occ q.Atoms ((v : Nat) : Int)) := by
   rw [any_not, Bool.not_not, Bool.eq_iff_iff, List.all_eq_true, List.all_eq_true]
   simp only [List.mem_range, Bool.or_eq_true, decide_eq_true_eq]
   constructor
   ·intro h v hv
    exact (h v (by omega)).resolve_left (by omega)
   ·intro h v hv
    by_cases c : q.VariableCount <= ((v : Nat) : Int)
    ·exact .inl c
    ·exact .inr (h v (by omega))
  rw [ea]
  cases (List.range q.VariableCount.toNat).any fun v => !occ q.Atoms ((v : Nat) : Int)
  ·simp only [Bool.false_eq_true, if_false, bS, Bool.not_false, Bool.true_and]
   have hF := hq.2.2
   rw [iter_adj (fun v => btw v 0 (q.VariableCount - 1)) (fun a b => decide (a < b)) q.Free false (fun i hi => by
    simp only [f93_2]
    rw [if_pos (by omega), ix_nat hi, w64_succ (by omega), w64_of (n := q.VariableCount - 1) (by omega)]
    simp only [bS, specIn]
    cases btw q.Free[i] 0 (q.VariableCount - 1)
    ·simp
    ·by_cases h0 : i = 0
     ·subst h0; simp
     ·have e : ix q.Free (w64 ((i : Int) - 1)) = some (q.Free[i - 1]'(by omega)) := by rw [w64_of (by omega), show (i : Int) - 1 = ((i - 1 : Nat) : Int) by omega, ix_nat (by omega)]
      simp only [e]
      have : 0 < i := by omega
      by_cases hb : q.Free[i - 1]'(by omega) < q.Free[i]
      ·simp [h0, this, hb, Int.not_le.2 hb]
      ·simp [h0, this, hb, Int.not_lt.1 hb]) (by
    simp only [f93_2]
    rw [if_neg (by omega)])]
   unfold asc
   cases good (fun v => btw v 0 (q.VariableCount - 1)) (fun a b => decide (a < b)) q.Free <;> simp
  ·simp
theorem containsA {s : List Atom} {f : Atom -> Option Bool} {p : Atom -> Bool} (h : Big s.length) (hf : ∀ a ∈ s, f a = some (p a)) : f130 s f = some (s.any p) := by
 unfold f130 f161
 obtain ⟨o, h1, h2⟩ := iter_idx (f := f161_0 s f) s p (fun i hi => by
  simp only [f161_0]
  rw [if_pos (by omega), ix_nat hi, w64_succ (by omega)]
  simp only [bS, hf _ (List.getElem_mem hi)]
  split <;> rfl) (by
  simp only [f161_0]
  rw [if_neg (by omega)])
 rw [h1]
 cases o with
 | inl _ => dsimp only at h2; rw [h2]; rfl
 | inr x => dsimp only at h2; rw [h2.2]; simp; omega
theorem impAtoms (hl : Big l.length) (hv : vRels l = true) (hq : FitsQ q) (hn : 0 <= q.VariableCount /\ q.VariableCount <= 4) :
  Ens (iter (f85_0 l q) ([], 0)) fun o => match o with
   | .inl m => (List.range q.Atoms.length).all (vAtom l q) = true /\ m = nfl (occ q.Atoms)
   | .inr b => b = false /\ (List.range q.Atoms.length).all (vAtom l q) = false := by
 obtain ⟨q1, q2, q3⟩ := hq
 refine iter_up (f := f85_0 l q) q.Atoms.length (fun i s => s.2 = (i : Int) /\ (∀ j, j < i -> vAtom l q j = true) /\ s.1 = nfl (occ (q.Atoms.take i))) _ (fun i s hi hI => ?_) (fun s hI => ?_) _ ⟨rfl, fun j hj => by omega, nfl_nil.symm⟩
 ·obtain ⟨m, x⟩ := s
  obtain ⟨e1, e2, e3⟩ := hI
  dsimp only at e1 e3
  subst e1; subst e3
  have hva := vAtom_get (l := l) hi
  simp only [f85_0]
  rw [if_pos (by omega), ix_nat hi, bS, w64_of (by omega), impIn, bS]
  have ht := q2 _ (List.getElem_mem hi)
  unfold vAt at hva
  cases hb : btw q.Atoms[i].Relation 0 (l.length - 1)
  ·rw [hb] at hva
   exact ⟨_, rfl, rfl, all_false hi (by rw [hva]; rfl)⟩
  ·obtain ⟨x, h1, _, h2, _⟩ := ix_rel hb
   rw [hb] at hva
   rw [h1]
   simp only [not_true_eq_false, if_false, bS]
   rw [h2]
   by_cases ha : (q.Atoms[i].Terms.length : Int) = arity l q.Atoms[i].Relation
   ·have h3 := vRels_arity hv hb
    have e0 : (q.Atoms.take ((i : Nat) : Int).toNat).drop (0 : Int).toNat = q.Atoms.take i := by simp
    rw [if_neg (by simp [ha]), cutL_ok (by omega) (by omega) (by omega), e0, bS]
    rw [containsA (p := fun b => decide (b.Relation = q.Atoms[i].Relation)) (by simp; omega) (fun b _ => by
     unfold f131
     exact congrArg some (decide_eq_decide.2 ⟨fun h => by first | exact h | exact h.symm, fun h => by first | exact h | exact h.symm⟩))]
    cases hd : (q.Atoms.take i).any fun b => decide (b.Relation = q.Atoms[i].Relation)
    ·simp only [Bool.false_eq_true, if_false, bS]
     rw [iter_ex q.Atoms[i].Terms (fun v => !btw v (-10) (q.VariableCount - 1)) false (fun k hk => by
      simp only [f85_1]
      rw [if_pos (by omega), ix_nat hk, w64_succ (by omega), w64_of (n := q.VariableCount - 1) (by omega)]
      simp only [bS, impIn]
      cases btw q.Atoms[i].Terms[k] (-10) (q.VariableCount - 1) <;> simp) (by
      simp only [f85_1]
      rw [if_neg (by omega)]), any_not]
     cases g1 : q.Atoms[i].Terms.all fun v => btw v (-10) (q.VariableCount - 1)
     ·simp only [Bool.not_false, if_true, bS]
      exact ⟨_, rfl, rfl, all_false hi (by rw [hva, g1]; simp)⟩
     ·simp only [Bool.not_true, Bool.false_eq_true, if_false, bS]
      have n1 := nfl_len (X := occ (q.Atoms.take i))
      have n2 := nfl_len (X := q.Atoms[i].Terms.contains)
      rw [impVars (by omega), bS, avars_nfl, unionI (by omega) nfl_in nfl_in, bS, w64_succ (by omega)]
      refine ⟨_, rfl, rfl, fun j hj => ?_, ?_⟩
      ·by_cases e : j = i
       ·subst e; rw [hva, ha, g1, hd]; simp
       ·exact e2 j (by omega)
      ·refine nfl_congr fun v hv => ?_
       rw [occ_succ hi]
       unfold cupX
       congr 1
       ·rw [Bool.eq_iff_iff, List.contains_iff_mem, nfl_mem]; exact ⟨fun h => h.1, fun h => ⟨h, hv⟩⟩
       ·rw [Bool.eq_iff_iff, List.contains_iff_mem, nfl_mem]; exact ⟨fun h => h.1, fun h => ⟨h, hv⟩⟩
    ·simp only [if_true, bS]
     exact ⟨_, rfl, rfl, all_false hi (by rw [hva, hd]; simp)⟩
   ·rw [if_pos ha]
    exact ⟨_, rfl, rfl, all_false hi (by rw [hva]; simp [ha])⟩
 ·obtain ⟨m, x⟩ := s
  obtain ⟨e1, e2, e3⟩ := hI
  dsimp only at e1 e3
  subst e1; subst e3
  simp only [f85_0]
  rw [if_neg (by omega)]
  exact ⟨_, rfl, List.all_eq_true.2 fun j hj => e2 j (List.mem_range.1 hj), by rw [List.take_of_length_le (Nat.le_refl _)]⟩
theorem nfl_count {X : Int -> Bool} {n : Int} (h0 : 0 <= n) (h4 : n <= 4) (h : ∀ v, 0 <= v -> v < 4 -> X v = true -> v < n) : decide (((nfl X).length : Int) = n) = ((List.range 4).all fun v => decide (n <= ((v : Nat) : Int)) || X ((v : Nat) : Int)) := by
 have h0' := h 0
 have h1 := h 1
 have h2 := h 2
 have h3 := h 3
 unfold nfl
 simp only [List.range, List.range.loop, List.flatMap_cons, List.flatMap_nil, List.append_nil, List.length_append, Int.ofNat_zero, Int.natCast_zero, Int.natCast_one, List.all_cons, List.all_nil]
 have e2 : ((2 : Nat) : Int) = 2 := rfl
 have e3 : ((3 : Nat) : Int) = 3 := rfl
 rw [e2, e3]
 generalize X 0 = a0 at *
 generalize X 1 = a1 at *
 generalize X 2 = a2 at *
 generalize X 3 = a3 at *
 have : n = 0 \/ n = 1 \/ n = 2 \/ n = 3 \/ n = 4 := by omega
 rcases this with rfl | rfl | rfl | rfl | rfl <;> revert h0' h1 h2 h3 <;> cases a0 <;> cases a1 <;> cases a2 <;> cases a3 <;> simp
theorem impQ (hl : Big l.length) (hq : FitsQ q) : f85 l q = some (vQuery l q) := by
 unfold f85 vQuery
 rw [impRels hl, bS]
 cases hv : vRels l
 ·simp
 simp only [not_true_eq_false, if_false, impIn, bS, Bool.true_and]
 cases hc : btw q.VariableCount 0 4
 ·simp
 cases hn : btw (q.Atoms.length : Int) 1 3
 ·simp
 have hc' := hc
 unfold btw at hc'; simp only [Bool.and_eq_true, decide_eq_true_eq] at hc'
 have hF := hq.2.2
 have eS := impSet (l := q.Free) (n := q.VariableCount.toNat) (by omega) (by omega)
 rw [Int.toNat_of_nonneg hc'.1] at eS
 simp only [not_true_eq_false, if_false, bS, Bool.false_eq_true, Bool.true_and, eS]
 cases asc q.VariableCount q.Free
 ·simp
 simp only [not_true_eq_false, decide_false, if_false, bS, Bool.false_eq_true, Bool.and_true]
 obtain ⟨o, ho, hQ⟩ := impAtoms hl hv hq hc'
 rw [ho]
 cases o with
 | inr b => obtain ⟨rfl, g⟩ := hQ; rw [g]; simp
 | inl m =>
  obtain ⟨g1, rfl⟩ := hQ
  rw [g1]
  simp only [bS, Bool.true_and]
  congr 1
  refine nfl_count hc'.1 hc'.2 fun v h0 h4 hx => ?_
  unfold occ at hx
  obtain ⟨a, ha, hx⟩ := List.any_eq_true.1 hx
  obtain ⟨i, hi, rfl⟩ := List.mem_iff_getElem.1 ha
  have := List.all_eq_true.1 g1 i (List.mem_range.2 hi)
  rw [vAtom_get hi] at this
  unfold vAt at this
  simp only [Bool.and_eq_true] at this
  have := List.all_eq_true.1 this.2.2.1 v (by simpa using hx)
  unfold btw at this; simp only [Bool.and_eq_true, decide_eq_true_eq] at this
  omega
end
end
section
def uni : List Int -> List Int -> List Int -> Option (List Int)
 | t :: ts, v :: vs, x => if t < 0 then (if -1 - t = v then uni ts vs x else none) else if x.getD t.toNat 0 < 0 then uni ts vs (x.set t.toNat v) else if x.getD t.toNat 0 = v then uni ts vs x else none
 | _, _, x => some x
theorem uni_len : ∀ {ts vs x y : List Int}, uni ts vs x = some y -> y.length = x.length
 | [], _, x, y, h => by simp [uni] at h; rw [h]
 | _ :: _, [], x, y, h => by simp [uni] at h; rw [h]
 | t :: ts, v :: vs, x, y, h => by
  simp only [uni] at h
  split at h
  ·split at h
   ·exact uni_len h
   ·cases h
  ·split at h
   ·rw [uni_len h]; simp
   ·split at h
    ·exact uni_len h
    ·cases h
def step (F : List Fact) (a : Atom) (x : List Int) (i : Nat) : Option (List Int) := match F[i]? with
 | some f => if f.Relation = a.Relation then uni a.Terms f.Values x else none
 | none => none
def emb (F : List Fact) : List Atom -> List Int -> List Int -> List Embedding
 | [], x, s => [⟨x, s⟩]
 | a :: az, x, s => (List.range F.length).flatMap fun i => match step F a x i with
  | some y => emb F az y (s ++ [((i : Nat) : Int)])
  | none => []
theorem flat_le {α β : Type} {g : α -> List β} {m : Nat} : ∀ {l : List α}, (∀ a ∈ l, (g a).length <= m) -> (l.flatMap g).length <= l.length * m
 | [], _ => by simp
 | a :: l, h => by
  rw [List.flatMap_cons, List.length_append, List.length_cons, Nat.succ_mul]
  have h1 := h a (by simp)
  have h2 := flat_le (g := g) (m := m) (l := l) fun b hb => h b (by simp [hb])
  omega
theorem emb_len {F : List Fact} : ∀ {az : List Atom} {x s : List Int}, (emb F az x s).length <= F.length ^ az.length
 | [], _, _ => by simp [emb]
 | a :: az, x, s => by
  rw [emb]
  refine Nat.le_trans (flat_le (m := F.length ^ az.length) fun i _ => ?_) (by rw [List.length_range, List.length_cons, Nat.pow_succ, Nat.mul_comm]; exact Nat.le_refl _)
  split
  ·exact emb_len
  ·simp
theorem emb_facts {F : List Fact} : ∀ {az : List Atom} {x s : List Int} {e : Embedding}, e ∈ emb F az x s ->
  ∃ t : List Nat, e.Facts = s ++ t.map (fun i => ((i : Nat) : Int)) /\ t.length = az.length /\ ∀ j (h : j < t.length) (h' : j < az.length), ∃ hf : t[j] < F.length, F[t[j]].Relation = az[j].Relation
 | [], x, s, e, h => by
  simp only [emb, List.mem_singleton] at h
  subst h
  exact ⟨[], by simp, rfl, fun j h => by simp at h⟩
 | a :: az, x, s, e, h => by
  rw [emb, List.mem_flatMap] at h
  obtain ⟨i, hi, h⟩ := h
  rw [List.mem_range] at hi
  split at h
  ·rename_i y hy
   obtain ⟨t, t1, t2, t3⟩ := emb_facts h
   refine ⟨i :: t, by rw [t1]; simp, by simp [t2], fun j hj hj' => ?_⟩
   cases j with
   | zero =>
    refine ⟨hi, ?_⟩
    unfold step at hy
    rw [zE hi] at hy
    dsimp only at hy
    split at hy
    ·rename_i e; exact e
    ·cases hy
   | succ j => exact t3 j (by simpa using hj) (by simpa using hj')
  ·cases h
theorem vq_apart {l : List Relation} {q : Query} (h : vQuery l q = true) {j k : Nat} (hjk : j < k) (hk : k < q.Atoms.length) : (q.Atoms[j]'(by omega)).Relation ≠ q.Atoms[k].Relation := by
 unfold vQuery at h
 simp only [Bool.and_eq_true] at h
 have h1 := List.all_eq_true.1 h.2.2.2.1 k (List.mem_range.2 hk)
 rw [vAtom_get hk] at h1
 unfold vAt at h1
 simp only [Bool.and_eq_true] at h1
 have h2 := h1.2.2.2
 simp only [Bool.not_eq_true', List.any_eq_false, decide_eq_true_eq] at h2
 exact h2 _ (by rw [List.mem_iff_getElem]; exact ⟨j, by rw [List.length_take]; omega, by rw [List.getElem_take]⟩)
theorem vq_len {l : List Relation} {q : Query} (h : vQuery l q = true) : q.Atoms.length <= 3 /\ 1 <= q.Atoms.length := by
 unfold vQuery at h
 simp only [Bool.and_eq_true, btw, decide_eq_true_eq] at h
 omega
theorem vq_vars {l : List Relation} {q : Query} (h : vQuery l q = true) : 0 <= q.VariableCount /\ q.VariableCount <= 4 := by
 unfold vQuery at h
 simp only [Bool.and_eq_true, btw, decide_eq_true_eq] at h
 omega
theorem vq_atom {l : List Relation} {q : Query} (h : vQuery l q = true) {k : Nat} (hk : k < q.Atoms.length) : (q.Atoms[k].Terms.length : Int) = arity l q.Atoms[k].Relation /\ ∀ t ∈ q.Atoms[k].Terms, -10 <= t /\ t < q.VariableCount := by
 unfold vQuery at h
 simp only [Bool.and_eq_true] at h
 have h1 := List.all_eq_true.1 h.2.2.2.1 k (List.mem_range.2 hk)
 rw [vAtom_get hk] at h1
 unfold vAt at h1
 simp only [Bool.and_eq_true, decide_eq_true_eq] at h1
 refine ⟨h1.2.1, fun t ht => ?_⟩
 have := List.all_eq_true.1 h1.2.2.1 t ht
 simp only [btw, Bool.and_eq_true, decide_eq_true_eq] at this
 omega
def embs (d : Database) (q : Query) : List Embedding := if (vDb d && vQuery d.Relations q) = true then emb d.Facts q.Atoms (List.replicate q.VariableCount.toNat (-1)) [] else []
theorem embs_len {d : Database} {q : Query} : (embs d q).length <= 2744 := by
 unfold embs
 split
 ·rename_i h
  rw [Bool.and_eq_true] at h
  have h1 := (vDb_of h.1).2.1
  have h2 := (vq_len h.2).1
  refine Nat.le_trans emb_len (Nat.le_trans (Nat.pow_le_pow_left h1 _) ?_)
  exact Nat.le_trans (Nat.pow_le_pow_right (n := 14) (by omega) h2) (by decide)
 ·simp
theorem embs_prt {d : Database} {q : Query} {e : Embedding} (h : e ∈ embs d q) {s : List Int} (hs : s.Pairwise (· <= ·)) (hp : s.Perm e.Facts) : prt d s = true /\ s.length <= 3 := by
 unfold embs at h
 split at h
 ·rename_i hv
  rw [Bool.and_eq_true] at hv
  obtain ⟨t, t1, t2, t3⟩ := emb_facts h
  rw [List.nil_append] at t1
  have rel : ∀ j k (hj : j < t.length) (hk : k < t.length), j < k -> (fat d (t[j] : Nat)).Relation ≠ (fat d (t[k] : Nat)).Relation := fun j k hj hk hjk => by
   obtain ⟨a1, a2⟩ := t3 j hj (by omega)
   obtain ⟨b1, b2⟩ := t3 k hk (by omega)
   rw [fat_get a1, fat_get b1, a2, b2]
   exact vq_apart hv.2 hjk (by omega)
  have nd : e.Facts.Pairwise fun a b => (fat d a).Relation ≠ (fat d b).Relation := by
   rw [t1, List.pairwise_map, List.pairwise_iff_getElem]
   exact fun i j hi hj hij => rel i j hi hj hij
  have nds : s.Pairwise fun a b => (fat d a).Relation ≠ (fat d b).Relation := (hp.pairwise_iff (fun h e => h e.symm)).2 nd
  have up : s.Pairwise (· < ·) := by
   refine (hs.and nds).imp fun {a b} hab => ?_
   by_cases e : a = b
   ·subst e; exact absurd rfl hab.2
   ·have := hab.1; omega
  have rng : ∀ v ∈ s, 0 <= v /\ v < d.Facts.length := fun v hv => by
   have := hp.mem_iff.1 hv
   rw [t1, List.mem_map] at this
   obtain ⟨i, hi, rfl⟩ := this
   obtain ⟨j, hj, rfl⟩ := List.getElem_of_mem hi
   obtain ⟨a1, _⟩ := t3 j hj (by omega)
   omega
  refine ⟨?_, ?_⟩
  ·unfold prt
   simp only [Bool.and_eq_true, decide_eq_true_eq]
   refine ⟨hv.1, asc_mk up rng, nds.imp fun h => ?_⟩
   unfold same
   rw [decide_eq_false h]; rfl
  ·rw [hp.length_eq, t1, List.length_map, t2]; exact (vq_len hv.2).1
 ·cases h
end
section
theorem cloneI {a : List Int} (h : a.length <= 1048576) : f116 a = some a := by
 unfold f116
 rw [app_fits (by simp; omega), bS, List.nil_append]
theorem uni_nil {ts vs x : List Int} (h : ts = []) : uni ts vs x = some x := by subst h; rfl
theorem set_same {x : List Int} {i : Nat} {v : Int} (h : i < x.length) (e : x[i] = v) : x.set i v = x := by subst e; exact List.set_getElem_self h
def FitT (n : Nat) (ts vs : List Int) : Prop := ts.length = vs.length /\ ts.length <= 1048576 /\ ∀ t ∈ ts, -10 <= t /\ t < n
theorem impUni {x ts vs : List Int} (hx : x.length <= 8) (h : FitT x.length ts vs) : f71 x ts vs = some (match uni ts vs x with | some y => (y, true) | none => ([], false)) := by
 obtain ⟨h1, h2, h3⟩ := h
 unfold f71
 rw [cloneI (by omega), bS]
 obtain ⟨o, e, rfl⟩ := iter_up (f := f71_0 ts vs) ts.length (fun i s => ∃ y, s = (y, (i : Int)) /\ uni (ts.drop i) (vs.drop i) y = uni ts vs x /\ y.length = x.length)
  (fun o => o = (match uni ts vs x with | some y => .inl y | none => .inr ([], false))) (fun i s hi ⟨y, hs, hu, hl⟩ => by
   subst hs
   have hv : i < vs.length := by omega
   have ht := h3 _ (List.getElem_mem hi)
   rw [List.drop_eq_getElem_cons hi, List.drop_eq_getElem_cons hv, uni] at hu
   simp only [f71_0]
   rw [if_pos (by omega), ix_nat hi, bS, w64_succ (by omega)]
   unfold f117 f118
   simp only [bS, ix_nat hv]
   by_cases c1 : ts[i] < 0
   ·rw [if_pos c1] at hu
    rw [if_pos (by simpa using c1), w64_of (by omega)]
    by_cases c2 : -1 - ts[i] = vs[i]
    ·rw [if_pos c2] at hu
     rw [if_neg (by simpa using c2)]
     exact ⟨_, rfl, y, rfl, hu, hl⟩
    ·rw [if_neg c2] at hu
     rw [if_pos (by simpa using c2)]
     refine ⟨_, rfl, ?_⟩
     rw [<- hu]
   ·rw [if_neg c1] at hu
    have hb : ts[i].toNat < y.length := by omega
    rw [if_neg (by simpa using c1), ix_of (by omega), zE hb, bS]
    have ed : y.getD ts[i].toNat 0 = y[ts[i].toNat] := by rw [zD, zE hb]; rfl
    rw [ed] at hu
    by_cases c2 : y[ts[i].toNat] < 0
    ·rw [if_pos c2] at hu
     rw [if_pos c2]
     exact ⟨_, rfl, _, rfl, hu, by rw [List.length_set]; exact hl⟩
    ·rw [if_neg c2] at hu
     rw [if_neg c2]
     by_cases c3 : y[ts[i].toNat] = vs[i]
     ·rw [if_pos c3] at hu
      rw [if_neg (by simpa using c3)]
      exact ⟨_, rfl, y, rfl, hu, hl⟩
     ·rw [if_neg c3] at hu
      rw [if_pos (by simpa using c3)]
      refine ⟨_, rfl, ?_⟩
      rw [<- hu]) (fun s ⟨y, hs, hu, hl⟩ => by
   subst hs
   simp only [f71_0]
   rw [if_neg (by omega)]
   rw [uni_nil (List.drop_of_length_le (Nat.le_refl _))] at hu
   exact ⟨_, rfl, by rw [<- hu]⟩) (x, 0) ⟨x, rfl, by simp, rfl⟩
 rw [e, bS]
 cases uni ts vs x <;> rfl
theorem specMeet {x : List Int} {a : Atom} {f : Fact} (hx : x.length <= 8) (h : f.Relation = a.Relation -> FitT x.length a.Terms f.Values) :
  Ens (f73 a f x) fun r => match (if f.Relation = a.Relation then uni a.Terms f.Values x else none) with | some y => r = (y, true) | none => r.2 = false := by
 unfold f73
 rw [app_fits (by simp; omega), bS, List.nil_append]
 by_cases hr : f.Relation = a.Relation
 ·obtain ⟨h1, h2, h3⟩ := h hr
  rw [if_pos hr, if_neg (by simpa using hr), bS, if_neg (by simp [h1])]
  refine Ens.bind (Q := fun o => match uni a.Terms f.Values x with | some y => o = .inl y | none => ∃ z, o = .inr (z, false)) ?_ fun o ho => ?_
  ·refine iter_up (f := f73_0 a f) a.Terms.length (fun i s => ∃ y, s = (y, (i : Int)) /\ uni (a.Terms.drop i) (f.Values.drop i) y = uni a.Terms f.Values x /\ y.length = x.length) _ (fun i s hi ⟨y, hs, hu, hl⟩ => ?_) (fun s ⟨y, hs, hu, hl⟩ => ?_) (x, 0) ⟨x, rfl, by simp, rfl⟩
   ·subst hs
    have hv : i < f.Values.length := by omega
    have ht := h3 _ (List.getElem_mem hi)
    rw [List.drop_eq_getElem_cons hi, List.drop_eq_getElem_cons hv, uni] at hu
    simp only [f73_0]
    rw [if_pos (by omega), ix_nat hi, bS, w64_succ (by omega)]
    simp only [bS, ix_nat hv]
    by_cases c1 : a.Terms[i] < 0
    ·rw [if_pos c1] at hu
     rw [if_pos c1, w64_of (by omega)]
     by_cases c2 : -1 - a.Terms[i] = f.Values[i]
     ·rw [if_pos c2] at hu
      rw [if_neg (by simpa using c2)]
      exact ⟨_, rfl, y, rfl, hu, hl⟩
     ·rw [if_neg c2] at hu
      rw [if_pos (by simpa using c2)]
      refine ⟨_, rfl, ?_⟩
      dsimp only
      rw [<- hu]; exact ⟨_, rfl⟩
    ·rw [if_neg c1] at hu
     have hb : a.Terms[i].toNat < y.length := by omega
     rw [if_neg c1, ix_of (by omega), zE hb, bS]
     have ed : y.getD a.Terms[i].toNat 0 = y[a.Terms[i].toNat] := by rw [zD, zE hb]; rfl
     rw [ed] at hu
     by_cases c2 : y[a.Terms[i].toNat] < 0
     ·rw [if_pos c2] at hu
      rw [if_neg (by omega), bS, if_neg (by simp)]
      exact ⟨_, rfl, _, rfl, hu, by rw [List.length_set]; exact hl⟩
     ·rw [if_neg c2] at hu
      rw [if_pos (by omega), bS]
      by_cases c3 : y[a.Terms[i].toNat] = f.Values[i]
      ·rw [if_pos c3] at hu
       rw [if_neg (by simpa using c3)]
       exact ⟨_, rfl, _, rfl, by rw [set_same hb c3]; exact hu, by rw [List.length_set]; exact hl⟩
      ·rw [if_neg c3] at hu
       rw [if_pos (by simpa using c3)]
       refine ⟨_, rfl, ?_⟩
       dsimp only
       rw [<- hu]; exact ⟨_, rfl⟩
   ·subst hs
    simp only [f73_0]
    rw [if_neg (by omega)]
    rw [uni_nil (List.drop_of_length_le (Nat.le_refl _))] at hu
    exact ⟨_, rfl, by rw [<- hu]⟩
  ·revert ho
   cases uni a.Terms f.Values x with
   | some y => intro ho; dsimp only at ho; subst ho; exact Ens.of rfl
   | none => rintro ⟨z, rfl⟩; exact Ens.of rfl
 ·rw [if_neg hr, if_pos (by simpa using hr), bS, if_pos rfl]
  exact Ens.of rfl
theorem noneOk {n : Int} (h0 : 0 <= n) (h4 : n <= 4) : f28 n = some (List.replicate n.toNat (-1)) := by
 unfold f28
 have := iter_steps (f := f28_0 n) (fun i => List.replicate i (-1)) n.toNat (List.replicate n.toNat (-1)) (fun i hi => by
  simp only [f28_0]
  rw [if_pos (by simp; omega), app_fits (by simp; omega), bS, List.replicate_succ']) (by
  simp only [f28_0]
  rw [if_neg (by simp <;> omega)])
 simp only [List.replicate_zero] at this
 rw [this]; rfl
theorem unknownOk {n : Int} (h0 : 0 <= n) (h4 : n <= 4) : f25 n = some (List.replicate n.toNat (-1)) := by
 have : n = 0 \/ n = 1 \/ n = 2 \/ n = 3 \/ n = 4 := by omega
 unfold f25 f70
 rcases this with rfl | rfl | rfl | rfl | rfl
 ·have e : f115 (IntKind.u64.wrap (([-1] : List Int).length : Int)) (IntKind.u64.wrap 0) = some (0, 0) := by decide
  rw [e]
  rw [if_neg (by decide), bS, bS, if_neg (by decide), bS, if_neg (by decide), bS, w64_of (by decide), mkl_ok (by decide) (by decide) (by decide), bS]
  exact (congrArg (fun o => (Option.bind o fun o => some o).bind fun o => some o) (iter_of (f := f70_0) (n := 5) (s := ([], 0)) (r := []) (by decide)))
 ·have e : f115 (IntKind.u64.wrap (([-1] : List Int).length : Int)) (IntKind.u64.wrap 1) = some (0, 1) := by decide
  rw [e]
  rw [if_neg (by decide), bS, bS, if_neg (by decide), bS, if_neg (by decide), bS, w64_of (by decide), mkl_ok (by decide) (by decide) (by decide), bS]
  exact (congrArg (fun o => (Option.bind o fun o => some o).bind fun o => some o) (iter_of (f := f70_0) (n := 5) (s := ([-1], 1)) (r := [-1]) (by decide)))
 ·have e : f115 (IntKind.u64.wrap (([-1] : List Int).length : Int)) (IntKind.u64.wrap 2) = some (0, 2) := by decide
  rw [e]
  rw [if_neg (by decide), bS, bS, if_neg (by decide), bS, if_neg (by decide), bS, w64_of (by decide), mkl_ok (by decide) (by decide) (by decide), bS]
  exact (congrArg (fun o => (Option.bind o fun o => some o).bind fun o => some o) (iter_of (f := f70_0) (n := 5) (s := ([-1, 0], 1)) (r := [-1, -1]) (by decide)))
 ·have e : f115 (IntKind.u64.wrap (([-1] : List Int).length : Int)) (IntKind.u64.wrap 3) = some (0, 3) := by decide
  rw [e]
  rw [if_neg (by decide), bS, bS, if_neg (by decide), bS, if_neg (by decide), bS, w64_of (by decide), mkl_ok (by decide) (by decide) (by decide), bS]
  exact (congrArg (fun o => (Option.bind o fun o => some o).bind fun o => some o) (iter_of (f := f70_0) (n := 5) (s := ([-1, 0, 0], 1)) (r := [-1, -1, -1]) (by decide)))
 ·have e : f115 (IntKind.u64.wrap (([-1] : List Int).length : Int)) (IntKind.u64.wrap 4) = some (0, 4) := by decide
  rw [e]
  rw [if_neg (by decide), bS, bS, if_neg (by decide), bS, if_neg (by decide), bS, w64_of (by decide), mkl_ok (by decide) (by decide) (by decide), bS]
  exact (congrArg (fun o => (Option.bind o fun o => some o).bind fun o => some o) (iter_of (f := f70_0) (n := 5) (s := ([-1, 0, 0, 0], 1)) (r := [-1, -1, -1, -1]) (by decide)))
end
section
theorem sorted_ext {a b : List Int} (ha : a.Pairwise (· <= ·)) (hb : b.Pairwise (· <= ·)) (h : a.Perm b) : a = b :=
 h.eq_of_pairwise (fun x y _ _ h1 h2 => by omega) ha hb
theorem slotI {l out : List Int} {i : Nat} (hi : i < l.length) (ho : out.length <= 1048576) :
  ∃ k : Nat, iter (f95_1 l out i) (out.length : Int) = some (k : Int) /\ k <= out.length /\ (∀ j (hj : j < out.length), k <= j -> l[i] < out[j]) /\ (∀ h : 0 < k, ∀ hk : k - 1 < out.length, out[k - 1] <= l[i]) := by
 obtain ⟨o, h1, k, rfl, h2⟩ := iter_up (f := f95_1 l out i) out.length (fun t s => s = ((out.length - t : Nat) : Int) /\ ∀ j (hj : j < out.length), out.length - t <= j -> l[i] < out[j])
  (fun o => ∃ k : Nat, o = (k : Int) /\ k <= out.length /\ (∀ j (hj : j < out.length), k <= j -> l[i] < out[j]) /\ (∀ h : 0 < k, ∀ hk : k - 1 < out.length, out[k - 1] <= l[i])) (fun t s ht ⟨h, hp⟩ => by
   subst h
   simp only [f95_1]
   rw [if_pos (by omega), w64_of (by omega), show ((out.length - t : Nat) : Int) - 1 = ((out.length - t - 1 : Nat) : Int) by omega, ix_nat (by omega), ix_nat hi]
   simp only [bS]
   by_cases hc : l[i] < out[out.length - t - 1]'(by omega)
   ·rw [if_pos (by simpa using hc)]
    refine ⟨_, rfl, ?_, fun j hj hle => ?_⟩
    ·omega
    ·by_cases e : j = out.length - t - 1
     ·subst e; exact hc
     ·exact hp j hj (by omega)
   ·rw [if_neg (by simpa using hc)]
    exact ⟨_, rfl, out.length - t, rfl, by omega, hp, fun _ _ => by omega⟩) (fun s ⟨h, hp⟩ => by
   subst h
   simp only [f95_1]
   rw [if_neg (by omega)]
   exact ⟨_, by simp; rfl, 0, by simp, by omega, fun j hj _ => hp j hj (by omega), fun h => by omega⟩) (out.length : Int) ⟨by simp, fun j hj h => by omega⟩
 exact ⟨k, h1, h2⟩
theorem ins_sorted {out : List Int} {v : Int} {k : Nat} (hs : out.Pairwise (· <= ·)) (hk : k <= out.length) (h1 : ∀ j (hj : j < out.length), k <= j -> v < out[j]) (h2 : ∀ h : 0 < k, ∀ hk : k - 1 < out.length, out[k - 1] <= v) :
  (out.take k ++ v :: out.drop k).Pairwise (· <= ·) := by
 rw [List.pairwise_append]
 have hp := List.pairwise_iff_getElem.1 hs
 have lo : ∀ a ∈ out.take k, a <= v := fun a ha => by
  obtain ⟨i, hi, rfl⟩ := List.getElem_of_mem ha
  rw [List.length_take] at hi
  rw [List.getElem_take]
  have h3 := h2 (by omega) (by omega)
  by_cases e : i = k - 1
  ·subst e; exact h3
  ·have := hp i (k - 1) (by omega) (by omega) (by omega); omega
 have hi : ∀ b ∈ out.drop k, v < b := fun b hb => by
  obtain ⟨i, hi, rfl⟩ := List.getElem_of_mem hb
  rw [List.length_drop] at hi
  rw [List.getElem_drop]
  exact h1 (k + i) (by omega) (by omega)
 refine ⟨hs.sublist (List.take_sublist _ _), List.pairwise_cons.2 ⟨fun b hb => by have := hi b hb; omega, hs.sublist (List.drop_sublist _ _)⟩, fun a ha b hb => ?_⟩
 have := lo a ha
 rcases List.mem_cons.1 hb with rfl | hb
 ·exact this
 ·have := hi b hb; omega
theorem specSorted {l : List Int} (h : l.length <= 1048576) : Ens (f95 l) fun r => r.Pairwise (· <= ·) /\ r.Perm l := by
 unfold f95
 refine Ens.bind (Q := fun r => r.Pairwise (· <= ·) /\ r.Perm l) ?_ fun r hr => Ens.of hr
 refine iter_up (f := f95_0 l) l.length (fun i s => ∃ out, s = (out, (i : Int)) /\ out.Pairwise (· <= ·) /\ out.Perm (l.take i)) _ (fun i s hi ⟨out, h, hp, hq⟩ => by
  subst h
  have hl := hq.length_eq
  rw [List.length_take] at hl
  obtain ⟨k, k1, k2, k3, k4⟩ := slotI (l := l) (out := out) (i := i) hi (by omega)
  simp only [f95_0]
  rw [if_pos (by omega), k1, bS, cutL_ok (by omega) (by omega) (by omega), bS, ix_nat hi, bS, cutL_ok (by omega) (by omega) (by omega), bS]
  have d1 : (out.take ((k : Nat) : Int).toNat).drop (0 : Int).toNat = out.take k := by simp
  have d2 : (out.take ((out.length : Nat) : Int).toNat).drop ((k : Nat) : Int).toNat = out.drop k := by simp
  rw [d1, d2, app_fits (by simp; omega), bS, app_fits (by simp; omega), bS, app_fits (by simp; omega), bS, w64_succ (by omega)]
  refine ⟨_, rfl, out.take k ++ l[i] :: out.drop k, by simp, ins_sorted hp k2 k3 k4, ?_⟩
  rw [take_succ' hi]
  refine List.perm_middle.trans ?_
  rw [List.take_append_drop]
  exact (List.Perm.cons _ hq).trans (List.perm_append_singleton _ _).symm) (fun s ⟨out, h, hp, hq⟩ => by
  subst h
  simp only [f95_0]
  rw [List.take_of_length_le (Nat.le_refl _)] at hq
  exact ⟨_, by rw [if_neg (by omega)], hp, hq⟩) _ ⟨[], by simp, by simp, by simp⟩
end
section
variable {d : Database} {q : Query}
def FitsDQ (d : Database) (q : Query) : Prop := Fits d /\ FitsQ q
def good2 (d : Database) (q : Query) : Bool := vDb d && vQuery d.Relations q
theorem specFor (h : FitsDQ d q) : f56 d q = some (good2 d q) := by
 unfold f56
 have h1 := fits_room h.1
 rw [specDb h1, bS]
 unfold good2
 cases vDb d
 ·rfl
 ·rw [if_pos rfl, specQ h1.1 h.2]; rfl
theorem impFor (h : FitsDQ d q) : f50 d q = some (good2 d q) := by
 unfold f50
 have h1 := fits_room h.1
 rw [impDb h1, bS]
 unfold good2
 cases vDb d
 ·rfl
 ·rw [if_pos rfl, impQ h1.1 h.2]; rfl
theorem good2_of (h : good2 d q = true) : vDb d = true /\ vQuery d.Relations q = true := by unfold good2 at h; simpa using h
theorem fit_atom (hg : good2 d q = true) {x : List Int} (hx : x.length = q.VariableCount.toNat) {k i : Nat} (hk : k < q.Atoms.length) (hi : i < d.Facts.length) (hr : d.Facts[i].Relation = q.Atoms[k].Relation) : FitT x.length q.Atoms[k].Terms d.Facts[i].Values := by
 obtain ⟨h1, h2⟩ := good2_of hg
 obtain ⟨t1, t2⟩ := vq_atom h2 hk
 have hf := fact_ok h1 hi
 unfold vFact at hf
 simp only [Bool.and_eq_true, decide_eq_true_eq] at hf
 have hv := vq_vars h2
 have ha := vRels_arity (vDb_of h1).1 hf.1
 rw [<- hr] at t1
 refine ⟨by omega, by omega, fun t ht => ?_⟩
 have := t2 t ht
 omega
theorem step_of {a : Atom} {x : List Int} {i : Nat} (hi : i < d.Facts.length) : step d.Facts a x i = if d.Facts[i].Relation = a.Relation then uni a.Terms d.Facts[i].Values x else none := by
 unfold step
 rw [zE hi]
theorem emb_eq {F : List Fact} {a : Atom} {az : List Atom} {x s : List Int} : emb F (a :: az) x s = (List.range F.length).flatMap fun i => match step F a x i with | some y => emb F az y (s ++ [((i : Nat) : Int)]) | none => [] := rfl
theorem emb_part {F : List Fact} {a : Atom} {az : List Atom} {x s : List Int} {i : Nat} (hF : F.length <= 14) : ((List.range i).flatMap fun i => match step F a x i with | some y => emb F az y (s ++ [((i : Nat) : Int)]) | none => []).length <= i * 14 ^ az.length := by
 refine Nat.le_trans (flat_le (m := 14 ^ az.length) fun j _ => ?_) (by rw [List.length_range]; exact Nat.le_refl _)
 split
 ·exact Nat.le_trans emb_len (Nat.pow_le_pow_left hF _)
 ·simp
theorem impWalk (hg : good2 d q = true) (hf : FitsDQ d q) : ∀ (r n : Nat) {x s : List Int} {out : List Embedding}, s.length + r = q.Atoms.length -> r < n -> x.length = q.VariableCount.toNat -> out.length + 14 ^ r <= 1000000 ->
  f132 n x s q out d = some (out ++ emb d.Facts (q.Atoms.drop s.length) x s)
 | r, 0, x, s, out, _, h, _, _ => by omega
 | 0, n + 1, x, s, out, hs, _, hx, ho => by
  obtain ⟨h1, h2⟩ := good2_of hg
  have hv := vq_vars h2
  have hl := vq_len h2
  rw [f132]
  dsimp only
  rw [if_pos (by omega), cloneI (by omega), bS, cloneI (by omega), bS, app_fits (by simp; omega), bS, List.drop_of_length_le (by omega)]
  rfl
 | r + 1, n + 1, x, s, out, hs, hn, hx, ho => by
  obtain ⟨h1, h2⟩ := good2_of hg
  have hv := vq_vars h2
  have hl := vq_len h2
  have hF := (vDb_of h1).2.1
  have hk : s.length < q.Atoms.length := by omega
  rw [f132]
  dsimp only
  rw [if_neg (by omega), ix_nat hk, bS, List.drop_eq_getElem_cons hk, emb_eq]
  have it := iter_steps (f := f132_0 x s q d (f132 n) q.Atoms[s.length]) (fun i => (out ++ ((List.range i).flatMap fun i => match step d.Facts q.Atoms[s.length] x i with | some y => emb d.Facts (q.Atoms.drop (s.length + 1)) y (s ++ [((i : Nat) : Int)]) | none => []), (i : Int))) d.Facts.length
   (out ++ ((List.range d.Facts.length).flatMap fun i => match step d.Facts q.Atoms[s.length] x i with | some y => emb d.Facts (q.Atoms.drop (s.length + 1)) y (s ++ [((i : Nat) : Int)]) | none => [])) (fun i hi => by
    have hp := emb_part (F := d.Facts) (a := q.Atoms[s.length]) (az := q.Atoms.drop (s.length + 1)) (x := x) (s := s) (i := i) hF
    have hd : (q.Atoms.drop (s.length + 1)).length = r := by rw [List.length_drop]; omega
    have hb := Nat.mul_le_mul_right (14 ^ r) (show i + 1 <= 14 by omega)
    rw [hd] at hp
    rw [Nat.add_mul, Nat.one_mul] at hb
    rw [Nat.pow_succ] at ho
    simp only [f132_0]
    rw [if_pos (by omega), ix_nat hi, w64_succ (by omega), List.range_succ, List.flatMap_append]
    simp only [bS, List.flatMap_singleton]
    rw [step_of hi]
    by_cases hr : d.Facts[i].Relation = q.Atoms[s.length].Relation
    ·rw [if_neg (by simpa using hr), if_pos hr, impUni (by omega) (fit_atom hg hx hk hi hr)]
     cases hu : uni q.Atoms[s.length].Terms d.Facts[i].Values x with
     | none => simp
     | some y =>
      have hy := uni_len hu
      simp only [bS, if_true]
      rw [cloneI (by omega), bS, app_fits (by simp; omega), bS, impWalk hg hf r n (by simp; omega) (by omega) (by omega) (by rw [List.length_append]; omega)]
      simp
    ·rw [if_pos (by simpa using hr), if_neg hr]
     simp) (by
    simp only [f132_0]
    rw [if_neg (by omega)])
  simp only [List.range_zero, List.flatMap_nil, List.append_nil, Int.natCast_zero, Int.ofNat_zero] at it
  erw [it]
  rfl
theorem specWalk (hg : good2 d q = true) (hf : FitsDQ d q) : ∀ (r n : Nat) {k : Nat} {x s : List Int}, k + r = q.Atoms.length -> s.length = k -> r < n -> x.length = q.VariableCount.toNat ->
  f137 n d q (k : Int) x s = some (emb d.Facts (q.Atoms.drop k) x s)
 | r, 0, k, x, s, _, _, h, _ => by omega
 | 0, n + 1, k, x, s, hs, hsl, _, hx => by
  obtain ⟨h1, h2⟩ := good2_of hg
  have hv := vq_vars h2
  have hl := vq_len h2
  rw [f137]
  dsimp only
  rw [if_pos (by omega), app_fits (by simp; omega), bS, app_fits (by simp; omega), bS, List.drop_of_length_le (by omega)]
  rfl
 | r + 1, n + 1, k, x, s, hs, hsl, hn, hx => by
  obtain ⟨h1, h2⟩ := good2_of hg
  have hv := vq_vars h2
  have hl := vq_len h2
  have hF := (vDb_of h1).2.1
  have hk : k < q.Atoms.length := by omega
  have hp3 : 14 ^ r <= 196 := Nat.le_trans (Nat.pow_le_pow_right (n := 14) (by omega) (show r <= 2 by omega)) (by decide)
  rw [f137]
  dsimp only
  rw [if_neg (by omega), List.drop_eq_getElem_cons hk, emb_eq]
  have it := iter_steps (f := f137_0 d q k x s (f137 n)) (fun i => (((List.range i).flatMap fun i => match step d.Facts q.Atoms[k] x i with | some y => emb d.Facts (q.Atoms.drop (k + 1)) y (s ++ [((i : Nat) : Int)]) | none => []), (i : Int))) d.Facts.length
   (((List.range d.Facts.length).flatMap fun i => match step d.Facts q.Atoms[k] x i with | some y => emb d.Facts (q.Atoms.drop (k + 1)) y (s ++ [((i : Nat) : Int)]) | none => [])) (fun i hi => by
    have hp := emb_part (F := d.Facts) (a := q.Atoms[k]) (az := q.Atoms.drop (k + 1)) (x := x) (s := s) (i := i) hF
    have hd : (q.Atoms.drop (k + 1)).length = r := by rw [List.length_drop]; omega
    have hb := Nat.mul_le_mul_right (14 ^ r) (show i <= 14 by omega)
    rw [hd] at hp
    simp only [f137_0]
    rw [if_pos (by omega), ix_nat hk, bS, ix_nat hi, bS, w64_succ (i := i) (by omega), List.range_succ, List.flatMap_append]
    simp only [List.flatMap_singleton]
    obtain ⟨m, hm, hq⟩ := specMeet (x := x) (a := q.Atoms[k]) (f := d.Facts[i]) (by omega) (fun hr => fit_atom hg hx hk hi hr)
    rw [<- step_of (x := x) hi] at hq
    rw [hm, bS]
    cases hu : step d.Facts q.Atoms[k] x i with
    | none =>
     rw [hu] at hq
     dsimp only at hq
     rw [hq]
     simp
    | some y =>
     rw [hu] at hq
     dsimp only at hq
     subst hq
     have hy : y.length = x.length := by
      rw [step_of hi] at hu
      split at hu
      ·exact uni_len hu
      ·cases hu
     have he := emb_len (F := d.Facts) (az := q.Atoms.drop (k + 1)) (x := y) (s := s ++ [((i : Nat) : Int)])
     have he2 := Nat.pow_le_pow_left hF (q.Atoms.drop (k + 1)).length
     rw [hd] at he he2
     simp only [if_true]
     rw [app_fits (by simp; omega), bS, app_fits (by simp; omega), bS, w64_succ (i := k) (by omega), List.nil_append, specWalk hg hf r n (by omega) (by simp; omega) (by omega) (by omega), bS, app_fits (by omega)]
     simp) (by
    simp only [f137_0]
    rw [if_neg (by omega)])
  simp only [List.range_zero, List.flatMap_nil, Int.natCast_zero, Int.ofNat_zero] at it
  erw [it]
  rfl
theorem embs_of (hg : good2 d q = true) : embs d q = emb d.Facts q.Atoms (List.replicate q.VariableCount.toNat (-1)) [] := by
 unfold embs
 unfold good2 at hg
 rw [if_pos hg]
theorem embs_no (hg : good2 d q = false) : embs d q = [] := by
 unfold embs
 unfold good2 at hg
 rw [if_neg (by rw [hg]; simp)]
theorem embImp (hf : FitsDQ d q) : f86 d q = some (embs d q) := by
 unfold f86
 rw [impFor hf, bS]
 cases hg : good2 d q
 ·rw [if_pos (by simp), embs_no hg]
 ·have hv := vq_vars (good2_of hg).2
  have hl := vq_len (good2_of hg).2
  rw [if_neg (by simp), unknownOk (by omega) (by omega), bS, impWalk hg hf q.Atoms.length 64 (by simp) (by omega) (by simp) ?_]
  ·simp [embs_of hg]
  ·have := Nat.pow_le_pow_right (n := 14) (by omega) hl.1
   simp; omega
theorem embSpec (hf : FitsDQ d q) : f94 d q = some (embs d q) := by
 unfold f94
 rw [specFor hf, bS]
 cases hg : good2 d q
 ·rw [if_pos (by simp), embs_no hg]
 ·have hv := vq_vars (good2_of hg).2
  have hl := vq_len (good2_of hg).2
  have := specWalk hg hf q.Atoms.length 64 (k := 0) (x := List.replicate q.VariableCount.toNat (-1)) (s := []) (by omega) rfl (by omega) (by simp)
  rw [if_neg (by simp), noneOk (by omega) (by omega), bS]
  simp only [Int.natCast_zero, Int.ofNat_zero] at this
  erw [this]
  simp [embs_of hg]
end
section
variable {d : Database} {q : Query}
theorem specSel {l : List Int} (hf : Fits d) (hl : l.length <= 1048576) : f138 d l = some (if (vDb d && asc d.Facts.length l) = true then (sel d l, true) else (⟨[], []⟩, false)) := by
 unfold f138
 have hr := fits_room hf
 rw [specDb hr, bS]
 cases hv : vDb d
 ·simp
 ·rw [if_neg (by simp), specSet hr.2.1 (by omega)]
  cases ha : asc d.Facts.length l
  ·simp
  ·have h14 := (vDb_of hv).2.1
   have hr4 := vRels_len (vDb_of hv).1
   have hl2 := asc_len ha
   have hm := (asc_of ha).2
   simp only [bS]
   rw [if_neg (by simp), app_fits (by simp; omega), bS]
   have it := iter_steps (f := f138_0 d l) (fun i => (d.Relations, (l.take i).map (fat d), (i : Int))) l.length (d.Relations, l.map (fat d)) (fun i hi => by
    have hb := hm _ (List.getElem_mem hi)
    have hn : l[i].toNat < d.Facts.length := by omega
    have e : fat d l[i] = d.Facts[l[i].toNat] := by
     have : l[i] = ((l[i].toNat : Nat) : Int) := by omega
     conv => lhs; rw [this]
     exact fat_get hn
    have hv2 := hf.2.2 _ (List.getElem_mem hn)
    simp only [f138_0]
    rw [if_pos (by omega), ix_nat hi, bS, ix_of hb.1, zE hn, bS, app_fits (by simp; omega), bS, app_fits (by simp; omega), bS, w64_succ (by omega), take_succ' hi, List.map_append, List.map_singleton, e]
    simp) (by
    simp only [f138_0]
    rw [if_neg (by omega), List.take_of_length_le (Nat.le_refl _)])
   simp only [List.take_zero, List.map_nil, Int.natCast_zero, Int.ofNat_zero] at it
   rw [List.nil_append]
   erw [it]
   rfl
theorem specCon (hf : Fits d) : f139 d = some (vDb d && decide ((blks (skOf d) d.Facts.length d.Facts.length).length = d.Facts.length)) := by
 unfold f139
 rw [specDb (fits_room hf), bS]
 cases hv : vDb d
 ·rfl
 ·rw [if_pos rfl, blocksSpec hv hf]
  simp
  omega
theorem con_sel {l : List Int} (hv : vDb d = true) (ha : asc d.Facts.length l = true) : (vDb (sel d l) && decide ((blks (skOf (sel d l)) (sel d l).Facts.length (sel d l).Facts.length).length = (sel d l).Facts.length)) = decide (apart d l) := by
 rw [sel_v hv ha, Bool.true_and, sel_len]
 exact decide_eq_decide.2 con_iff
theorem specPart {l : List Int} (hf : Fits d) (hl : l.length <= 1048576) : f96 d l = some (prt d l) := by
 unfold f96
 rw [specSel hf hl, bS]
 unfold prt
 cases hv : vDb d
 ·simp
 ·cases ha : asc d.Facts.length l
  ·simp
  ·simp only [Bool.and_self, if_true]
   rw [specCon (sel_fits hf ha), bS, con_sel hv ha]
   simp
def srt (l : List Int) : List Int := l.mergeSort fun a b => decide (a <= b)
theorem srt_perm {l : List Int} : (srt l).Perm l := List.mergeSort_perm _ _
theorem srt_up {l : List Int} : (srt l).Pairwise (· <= ·) := by
 have := List.pairwise_mergeSort (le := fun a b : Int => decide (a <= b)) (fun a b c h1 h2 => by simp at *; omega) (fun a b => by simp; omega) l
 exact this.imp fun h => by simpa using h
theorem srt_of {l r : List Int} (h1 : r.Pairwise (· <= ·)) (h2 : r.Perm l) : r = srt l := sorted_ext h1 srt_up (h2.trans srt_perm.symm)
def wits (d : Database) (q : Query) : List (List Int) := (embs d q).map fun e => srt e.Facts
theorem wits_len : (wits d q).length <= 2744 := by unfold wits; rw [List.length_map]; exact embs_len
theorem wits_prt {w : List Int} (h : w ∈ wits d q) : prt d w = true /\ w.length <= 3 := by
 unfold wits at h
 rw [List.mem_map] at h
 obtain ⟨e, he, rfl⟩ := h
 exact embs_prt he srt_up srt_perm
theorem embs_short {e : Embedding} (h : e ∈ embs d q) : e.Facts.length <= 3 := by
 have := (embs_prt h srt_up srt_perm).2
 rw [srt_perm.length_eq] at this; exact this
theorem witSpec (hf : FitsDQ d q) : f57 d q = some (wits d q) := by
 unfold f57
 rw [embSpec hf, bS]
 have it := iter_steps (f := f57_0 d (embs d q)) (fun i => (((embs d q).take i).map fun e => srt e.Facts, (i : Int))) (embs d q).length (wits d q) (fun i hi => by
  have hm := List.getElem_mem hi
  have h3 := embs_short hm
  have hl := embs_len (d := d) (q := q)
  obtain ⟨r, hr, h1, h2⟩ := specSorted (l := (embs d q)[i].Facts) (by omega)
  have := srt_of h1 h2
  subst this
  have hp := embs_prt hm srt_up srt_perm
  simp only [f57_0]
  rw [if_pos (by omega), ix_nat hi, bS, hr, bS, specPart hf.1 (by omega), hp.1, bS, if_pos rfl, app_fits (by simp; omega), bS, bS, w64_succ (by omega), take_succ' hi, List.map_append]
  rfl) (by
  simp only [f57_0]
  rw [if_neg (by omega), List.take_of_length_le (Nat.le_refl _)]; rfl)
 simp only [List.take_zero, List.map_nil, Int.natCast_zero, Int.ofNat_zero] at it
 erw [it]
 rfl
theorem witImp (hf : FitsDQ d q) : f51 d q = some (wits d q) := by
 unfold f51
 rw [embImp hf, bS]
 have it := iter_steps (f := f51_0 (embs d q)) (fun i => (((embs d q).take i).map fun e => srt e.Facts, i, (i : Int))) (embs d q).length (wits d q) (fun i hi => by
  have hm := List.getElem_mem hi
  have h3 := embs_short hm
  have hl := embs_len (d := d) (q := q)
  obtain ⟨r, hr, h1, h2⟩ := sort12 (x := (embs d q)[i].Facts) (by omega)
  have := srt_of h1 h2
  subst this
  simp only [f51_0]
  unfold ml
  rw [if_pos (by omega), if_pos rfl, zE hi, bS, hr, bS, app_fits (by simp; omega), bS, w64_succ (by omega), take_succ' hi, List.map_append]
  rfl) (by
  simp only [f51_0]
  rw [if_neg (by omega), List.take_of_length_le (Nat.le_refl _)]; rfl)
 simp only [List.take_zero, List.map_nil, Int.natCast_zero, Int.ofNat_zero] at it
 erw [it]
 rfl
end
section
variable {d : Database}
theorem copyImp (hf : Fits d) : f135 d = some d := by
 unfold f135
 rw [app_fits (by have := hf.1; simp; omega), bS, List.nil_append]
 have it := iter_steps (f := f135_0 d) (fun i => (d.Relations, d.Facts.take i, (i : Int))) d.Facts.length (d.Relations, d.Facts) (fun i hi => by
  have h1 := hf.2.2 _ (List.getElem_mem hi)
  have h2 := hf.2.1
  simp only [f135_0]
  rw [if_pos (by omega), ix_nat hi, bS, app_fits (by simp; omega), bS, app_fits (by simp; omega), bS, w64_succ (by omega), take_succ' hi]
  simp) (by
  simp only [f135_0]
  rw [if_neg (by omega), List.take_of_length_le (Nat.le_refl _)])
 simp only [List.take_zero, Int.natCast_zero, Int.ofNat_zero] at it
 erw [it]
 rfl
theorem impSel {l : List Int} (hf : Fits d) (hl : l.length <= 1048576) : f88 d l = some (if (vDb d && asc d.Facts.length l) = true then (sel d l, true) else (⟨[], []⟩, false)) := by
 unfold f88
 have hr := fits_room hf
 rw [impDb hr, bS]
 cases hv : vDb d
 ·simp
 ·rw [if_neg (by simp), impSet hr.2.1 (by omega)]
  cases ha : asc d.Facts.length l
  ·simp
  ·have h14 := (vDb_of hv).2.1
   have hl2 := asc_len ha
   have hm := (asc_of ha).2
   simp only [bS]
   rw [if_neg (by simp), copyImp hf, bS]
   have it := iter_steps (f := f88_0 l) (fun i => (d.Facts, d.Relations, (l.take i).map (fat d), (i : Int))) l.length (d.Relations, l.map (fat d)) (fun i hi => by
    have hb := hm _ (List.getElem_mem hi)
    have hn : l[i].toNat < d.Facts.length := by omega
    have e : fat d l[i] = d.Facts[l[i].toNat] := by
     have : l[i] = ((l[i].toNat : Nat) : Int) := by omega
     conv => lhs; rw [this]
     exact fat_get hn
    simp only [f88_0]
    rw [if_pos (by omega), ix_nat hi, bS, ix_of hb.1, zE hn, bS, app_fits (by simp; omega), bS, w64_succ (by omega), take_succ' hi, List.map_append, List.map_singleton, e]) (by
    simp only [f88_0]
    rw [if_neg (by omega), List.take_of_length_le (Nat.le_refl _)])
   simp only [List.take_zero, List.map_nil, Int.natCast_zero, Int.ofNat_zero] at it
   erw [it]
   rfl
theorem impCon (hf : Fits d) : f89 d = some (vDb d && decide ((blks (skOf d) d.Facts.length d.Facts.length).length = d.Facts.length)) := by
 unfold f89
 rw [impDb (fits_room hf), bS]
 cases hv : vDb d
 ·rfl
 ·rw [if_pos rfl, blocksImp hv hf]
  simp
  omega
theorem impPart {l : List Int} (hf : Fits d) (hl : l.length <= 1048576) : f52 d l = some (prt d l) := by
 unfold f52
 rw [impSel hf hl, bS]
 unfold prt
 cases hv : vDb d
 ·simp
 ·cases ha : asc d.Facts.length l
  ·simp
  ·simp only [Bool.and_self, if_true]
   rw [impCon (sel_fits hf ha), bS, con_sel hv ha]
   simp
end
section
end
section
variable {d : Database}
def clash (d : Database) (s : List Int) (i : Nat) : Bool := s.any fun o => same d.Relations (fat d o) (fat d ((i : Nat) : Int))
def nxt (s : List Int) : Nat := match s.getLast? with | some v => v.toNat + 1 | none => 0
def grow (d : Database) (s : List Int) (f : Nat) : List (List Int) := (List.range' f (d.Facts.length - f)).flatMap fun i => if clash d s i = true then [] else [s ++ [((i : Nat) : Int)]]
def lev (d : Database) : Nat -> List (List Int)
 | 0 => [[]]
 | k + 1 => (lev d k).flatMap fun s => grow d s (nxt s)
theorem grow_mem {s t : List Int} {f : Nat} : t ∈ grow d s f ↔ ∃ i : Nat, f <= i /\ i < d.Facts.length /\ clash d s i = false /\ t = s ++ [((i : Nat) : Int)] := by
 unfold grow
 rw [List.mem_flatMap]
 constructor
 ·rintro ⟨i, hi, ht⟩
  rw [List.mem_range'_1] at hi
  split at ht
  ·cases ht
  ·rename_i h
   exact ⟨i, hi.1, by omega, by simpa using h, by simpa using ht⟩
 ·rintro ⟨i, h1, h2, h3, h4⟩
  exact ⟨i, List.mem_range'_1.2 ⟨h1, by omega⟩, by rw [if_neg (by rw [h3]; simp)]; simp [h4]⟩
structure Pr (d : Database) (s : List Int) : Prop where
 up : asc d.Facts.length s = true
 ap : apart d s
 lt : ∀ v ∈ s, v < nxt s
theorem pr_nil : Pr d [] := ⟨by simp [asc, good], List.Pairwise.nil, fun v h => by cases h⟩
theorem lt_nxt {s : List Int} (h : asc d.Facts.length s = true) : ∀ v ∈ s, v < nxt s := by
 intro v hv
 obtain ⟨a1, a2⟩ := asc_of h
 unfold nxt
 rcases List.eq_nil_or_concat s with rfl | ⟨t, w, rfl⟩
 ·cases hv
 ·simp only [List.concat_eq_append, List.getLast?_append, List.getLast?_singleton, Option.some_or] at *
  have hw := a2 w (by simp)
  rcases List.mem_append.1 hv with h | h
  ·have := (List.pairwise_append.1 a1).2.2 v h w (by simp)
   omega
  ·simp only [List.mem_singleton] at h
   omega
theorem clash_apart {s : List Int} {i : Nat} (h : apart d s) : clash d s i = false ↔ apart d (s ++ [((i : Nat) : Int)]) := by
 unfold apart clash
 rw [List.pairwise_append]
 simp only [List.any_eq_false, List.pairwise_singleton, List.mem_singleton, true_and]
 constructor
 ·intro hc
  exact ⟨h, fun a ha b hb => by subst hb; simpa using hc a ha⟩
 ·rintro ⟨_, hc⟩ a ha
  rw [hc a ha _ rfl]; simp
theorem asc_snoc {s : List Int} {i : Nat} (h : asc d.Facts.length s = true) (hn : nxt s <= i) (hi : i < d.Facts.length) : asc d.Facts.length (s ++ [((i : Nat) : Int)]) = true := by
 obtain ⟨a1, a2⟩ := asc_of h
 have l := lt_nxt h
 refine asc_mk (List.pairwise_append.2 ⟨a1, by simp, fun a ha b hb => ?_⟩) fun v hv => ?_
 ·rw [List.mem_singleton] at hb; subst hb; have := l a ha; omega
 ·rcases List.mem_append.1 hv with h | h
  ·exact a2 v h
  ·rw [List.mem_singleton] at h; omega
theorem prt_snoc {s : List Int} {i : Nat} (hv : vDb d = true) (h : prt d s = true) (hn : nxt s <= i) (hi : i < d.Facts.length) : prt d (s ++ [((i : Nat) : Int)]) = !clash d s i := by
 unfold prt at h ⊢
 simp only [Bool.and_eq_true, decide_eq_true_eq] at h
 rw [hv, asc_snoc h.2.1 hn hi, Bool.true_and, Bool.true_and]
 cases hc : clash d s i
 ·rw [decide_eq_true ((clash_apart h.2.2).1 hc)]; rfl
 ·rw [decide_eq_false]
  ·rfl
  ·intro ha
   rw [(clash_apart h.2.2).2 ha] at hc
   cases hc
theorem prt_nil (hv : vDb d = true) : prt d [] = true := by
 unfold prt
 rw [hv, pr_nil.up, decide_eq_true pr_nil.ap]; rfl
theorem lev_prt (hv : vDb d = true) : ∀ {k : Nat} {s : List Int}, s ∈ lev d k -> prt d s = true /\ s.length = k
 | 0, s, h => by
  simp only [lev, List.mem_singleton] at h
  subst h
  exact ⟨prt_nil hv, rfl⟩
 | k + 1, s, h => by
  rw [lev, List.mem_flatMap] at h
  obtain ⟨t, ht, h⟩ := h
  obtain ⟨i, h1, h2, h3, rfl⟩ := grow_mem.1 h
  obtain ⟨p, hl⟩ := lev_prt hv ht
  exact ⟨by rw [prt_snoc hv p h1 h2, h3]; rfl, by simp [hl]⟩
theorem grow_len {s : List Int} {f : Nat} (h : d.Facts.length <= 14) : (grow d s f).length <= 14 := by
 unfold grow
 have : ∀ (L : List Nat), (L.flatMap fun i => if clash d s i = true then [] else [s ++ [((i : Nat) : Int)]]).length <= L.length := by
  intro L
  induction L with
  | nil => simp
  | cons a L ih =>
   rw [List.flatMap_cons, List.length_append, List.length_cons]
   split
   ·rw [List.length_nil]; omega
   ·rw [List.length_singleton]; omega
 have := this (List.range' f (d.Facts.length - f))
 rw [List.length_range'] at this
 omega
theorem lev_len (h : d.Facts.length <= 14) : ∀ {k : Nat}, (lev d k).length <= 14 ^ k
 | 0 => by simp [lev]
 | k + 1 => by
  rw [lev, Nat.pow_succ]
  have h1 := lev_len h (k := k)
  have : ∀ (L : List (List Int)), (L.flatMap fun s => grow d s (nxt s)).length <= L.length * 14 := by
   intro L
   induction L with
   | nil => simp
   | cons a L ih => rw [List.flatMap_cons, List.length_append, List.length_cons]; have := grow_len (d := d) (s := a) (f := nxt a) h; omega
  have := this (lev d k)
  omega
def upTo (d : Database) (k : Nat) : List (List Int) := (List.range (k + 1)).flatMap (lev d)
theorem upTo_succ {k : Nat} : upTo d (k + 1) = upTo d k ++ lev d (k + 1) := by
 unfold upTo
 rw [List.range_succ (n := k + 1), List.flatMap_append]; simp
theorem upTo_len (h : d.Facts.length <= 14) {k : Nat} (hk : k <= 3) : (upTo d k).length <= 4000 := by
 have h0 := lev_len h (k := 0)
 have h1 := lev_len h (k := 1)
 have h2 := lev_len h (k := 2)
 have h3 := lev_len h (k := 3)
 have e0 : upTo d 0 = lev d 0 := by simp [upTo]
 have e1 : upTo d 1 = upTo d 0 ++ lev d 1 := upTo_succ
 have e2 : upTo d 2 = upTo d 1 ++ lev d 2 := upTo_succ
 have e3 : upTo d 3 = upTo d 2 ++ lev d 3 := upTo_succ
 have : k = 0 \/ k = 1 \/ k = 2 \/ k = 3 := by omega
 rcases this with rfl | rfl | rfl | rfl
 ·rw [e0]; omega
 ·rw [e1, e0, List.length_append]; omega
 ·rw [e2, e1, e0, List.length_append, List.length_append]; omega
 ·rw [e3, e2, e1, e0, List.length_append, List.length_append, List.length_append]; omega
theorem upTo_prt (hv : vDb d = true) {k : Nat} {s : List Int} (h : s ∈ upTo d k) : prt d s = true /\ s.length <= k := by
 unfold upTo at h
 rw [List.mem_flatMap] at h
 obtain ⟨j, hj, h⟩ := h
 rw [List.mem_range] at hj
 obtain ⟨p, e⟩ := lev_prt hv h
 exact ⟨p, by omega⟩
end
section
variable {d : Database}
def gr (d : Database) (s : List Int) (f i : Nat) : List (List Int) := (List.range' f i).flatMap fun i => if clash d s i = true then [] else [s ++ [((i : Nat) : Int)]]
theorem gr_all {s : List Int} {f : Nat} : gr d s f (d.Facts.length - f) = grow d s f := rfl
theorem gr_succ {s : List Int} {f i : Nat} : gr d s f (i + 1) = gr d s f i ++ if clash d s (f + i) = true then [] else [s ++ [((f + i : Nat) : Int)]] := by
 unfold gr
 rw [List.range'_1_concat, List.flatMap_append]; simp
theorem gr_len {s : List Int} {f i : Nat} : (gr d s f i).length <= i := by
 induction i with
 | zero => simp [gr]
 | succ i ih =>
  rw [gr_succ, List.length_append]
  split
  ·rw [List.length_nil]; omega
  ·rw [List.length_singleton]; omega
theorem nxt_le {s : List Int} (h : asc d.Facts.length s = true) : nxt s <= d.Facts.length := by
 unfold nxt
 cases e : s.getLast? with
 | none => simp
 | some v =>
  have := (asc_of h).2 v (List.mem_of_getLast? e)
  dsimp only; omega
theorem nxt_last {s : List Int} (h : asc d.Facts.length s = true) (h0 : 0 < s.length) : (nxt s : Int) = s[s.length - 1] + 1 := by
 have e : s.getLast? = some s[s.length - 1] := by rw [List.getLast?_eq_getElem?, zE (by omega)]
 unfold nxt
 rw [e]
 have := (asc_of h).2 _ (List.getElem_mem (show s.length - 1 < s.length by omega))
 dsimp only; omega
theorem nxt_nil {s : List Int} (h0 : ¬ 0 < s.length) : nxt s = 0 := by
 have : s = [] := List.eq_nil_of_length_eq_zero (by omega)
 subst this; rfl
theorem prt_of (hv : vDb d = true) {s : List Int} (h : prt d s = true) : asc d.Facts.length s = true /\ apart d s := by
 unfold prt at h
 simpa [hv] using h
def ups (d : Database) (k : Int) : List (List Int) := if (vDb d && btw k 0 3) = true then upTo d k.toNat else []
theorem ups_len {k : Int} : (ups d k).length <= 4000 /\ ∀ s ∈ ups d k, prt d s = true /\ s.length <= 3 := by
 unfold ups
 split
 ·rename_i h
  simp only [btw, Bool.and_eq_true, decide_eq_true_eq] at h
  refine ⟨upTo_len (vDb_of h.1).2.1 (by omega), fun s hs => ?_⟩
  have := upTo_prt h.1 hs
  exact ⟨this.1, by omega⟩
 ·exact ⟨by simp, by simp⟩
theorem upTo_zero : upTo d 0 = [[]] := by simp [upTo, lev]
theorem upToLe (h : d.Facts.length <= 14) {i k : Nat} (hk : k <= 3) (hi : i <= k) : ((List.range i).flatMap (lev d)).length <= 4000 /\ (lev d i).length <= 2744 := by
 have h1 := upTo_len (d := d) (k := i) h (by omega)
 unfold upTo at h1
 rw [List.range_succ, List.flatMap_append, List.length_append] at h1
 have h2 := lev_len h (k := i)
 have h3 := Nat.pow_le_pow_right (n := 14) (by omega) (show i <= 3 by omega)
 omega
theorem growSpec (hv : vDb d = true) (hf : Fits d) {L : List (List Int)} {i : Nat} (hi : i < L.length) (hp : prt d L[i] = true) (hl : L[i].length <= 3) {out : List (List Int)} (ho : out.length <= 1000000) :
  iter (f159_2 d L (i : Int)) (out, (nxt L[i] : Int)) = some (out ++ grow d L[i] (nxt L[i])) := by
 have h14 := (vDb_of hv).2.1
 have ha := (prt_of hv hp).1
 have hx := nxt_le ha
 have it := iter_steps (f := f159_2 d L (i : Int)) (fun j => (out ++ gr d L[i] (nxt L[i]) j, ((nxt L[i] + j : Nat) : Int))) (d.Facts.length - nxt L[i]) (out ++ grow d L[i] (nxt L[i])) (fun j hj => by
  have hj' : nxt L[i] + j < d.Facts.length := by omega
  have hg := gr_len (d := d) (s := L[i]) (f := nxt L[i]) (i := j)
  simp only [f159_2]
  rw [if_pos (by omega), ix_nat hi, bS, app_fits (by simp; omega), bS, app_fits (by simp; omega), bS, List.nil_append, specPart hf (by simp; omega), prt_snoc hv hp (by omega) hj', bS, w64_succ (i := nxt L[i] + j) (by omega), gr_succ]
  cases clash d L[i] (nxt L[i] + j)
  ·rw [if_pos (by simp), app_fits (by simp; omega)]
   simp [Nat.add_assoc]
  ·simp [Nat.add_assoc]) (by
  have e : nxt L[i] + (d.Facts.length - nxt L[i]) = d.Facts.length := by omega
  simp only [f159_2]
  rw [e, if_neg (by omega), gr_all])
 simp only [Nat.add_zero, gr, List.range'_zero, List.flatMap_nil, List.append_nil] at it
 exact it
theorem levSpec (hv : vDb d = true) (hf : Fits d) {k : Nat} (hk : k < 3) : iter (f159_1 d (lev d k)) ([], 0) = some (lev d (k + 1)) := by
 have h14 := (vDb_of hv).2.1
 have hll := (upToLe h14 (i := k) (k := 3) (by omega) (by omega)).2
 rw [iter_flat (f := f159_1 d (lev d k)) (lev d k) (fun s => grow d s (nxt s)) id (fun i hi => by
  have hm := lev_prt hv (List.getElem_mem hi)
  have ha := (prt_of hv hm.1).1
  have hb := flat_le (g := fun s => grow d s (nxt s)) (m := 14) (l := (lev d k).take i) fun s _ => grow_len h14
  rw [List.length_take] at hb
  have hfrom : (if (((lev d k)[i].length : Int)) > 0 then (ix (lev d k)[i] (w64 (((lev d k)[i].length : Int) - 1))).bind fun v => some (w64 (v + 1)) else some 0) = some ((nxt (lev d k)[i] : Nat) : Int) := by
   by_cases h0 : 0 < (lev d k)[i].length
   ·have hv2 := (asc_of ha).2 _ (List.getElem_mem (show (lev d k)[i].length - 1 < (lev d k)[i].length by omega))
    rw [if_pos (by omega), w64_of (by omega), show (((lev d k)[i].length : Int)) - 1 = (((lev d k)[i].length - 1 : Nat) : Int) by omega, ix_nat (by omega), bS, w64_of (by omega), nxt_last ha h0]
   ·rw [if_neg (by omega), nxt_nil h0]; rfl
  simp only [f159_1]
  rw [if_pos (by omega), ix_nat hi, bS, hfrom, bS, growSpec hv hf hi hm.1 (by omega) (by omega), bS, w64_succ (by omega)]) (by
  simp only [f159_1]
  rw [if_neg (by omega)]; rfl)]
 rfl
theorem upsSpec {k : Int} (hf : Fits d) : f159 d k = some (ups d k) := by
 unfold f159 ups
 rw [specDb (fits_room hf), bS]
 cases hv : vDb d
 ·simp
 ·rw [if_neg (by simp), specIn, bS, bS]
  cases hb : btw k 0 3
  ·simp
  ·have h14 := (vDb_of hv).2.1
   have hk := hb
   simp only [btw, Bool.and_eq_true, decide_eq_true_eq] at hk
   obtain ⟨m, rfl⟩ : ∃ m : Nat, k = m := ⟨k.toNat, by omega⟩
   rw [if_neg (by simp), if_pos (by simp), app_fits (by simp), bS]
   have it := iter_steps (f := f159_0 d (m : Int)) (fun i => (upTo d i, lev d i, (i : Int))) m (upTo d m) (fun i hi => by
    have h1 := upTo_len (d := d) (k := i) h14 (by omega)
    have h2 := (upToLe h14 (i := i + 1) (k := 3) (by omega) (by omega)).2
    simp only [f159_0]
    rw [if_pos (by omega), levSpec hv hf (by omega), bS, app_fits (by omega), bS, w64_succ (i := i) (by omega), upTo_succ]) (by
    simp only [f159_0]
    rw [if_neg (by omega)])
   rw [upTo_zero] at it
   simp only [lev, Int.natCast_zero, Int.ofNat_zero] at it
   rw [List.nil_append]
   erw [it]
   rfl
end
section
variable {n : Nat} {sk : Nat -> Nat -> Bool}
theorem blk_mem {i x : Nat} {j : Int} : j ∈ blk sk i x ↔ ∃ k : Nat, k < x /\ j = k /\ sk i k = true := by
 unfold blk
 rw [List.mem_flatMap]
 constructor
 ·rintro ⟨k, hk, h⟩
  split at h
  ·rename_i c
   exact ⟨k, List.mem_range.1 hk, by simpa using h, c⟩
  ·cases h
 ·rintro ⟨k, h1, h2, h3⟩
  exact ⟨k, List.mem_range.2 h1, by rw [if_pos h3]; simp [h2]⟩
theorem mem_blks {y x : Nat} {B : List Int} : B ∈ blks sk y x ↔ ∃ s, s < y /\ start sk s = true /\ B = blk sk s x := by
 unfold blks
 rw [List.mem_flatMap]
 constructor
 ·rintro ⟨k, hk, h⟩
  split at h
  ·rename_i c
   exact ⟨k, List.mem_range.1 hk, c, by simpa using h⟩
  ·cases h
 ·rintro ⟨k, h1, h2, h3⟩
  exact ⟨k, List.mem_range.2 h1, by rw [if_pos h2]; simp [h3]⟩
theorem compact_mem : ∀ {l : List Int} {y : Int}, y ∈ compactL l ↔ y ∈ l
 | [], y => by simp [compactL]
 | [a], y => by simp [compactL]
 | a :: b :: r, y => by
  rw [compactL]
  split
  ·rename_i e
   subst e
   rw [compact_mem]; simp
  ·rw [List.mem_cons, compact_mem]; simp
end
section
variable {x : List Int} (hx : x.length <= 1048576)
include hx
end
section
variable {x : List Int} (hx : x.length <= 16383)
include hx
end
section
variable {x : List Int} (hx : x.length <= 16383)
include hx
theorem pSort : Ens (f87 x) (·.Perm x) := by
 unfold f87 sortN srtL
 rw [if_pos (by omega)]
 exact Ens.of (List.mergeSort_perm _ _)
end
section
variable {d : Database} {q : Query}
theorem unionMem {a b : List Int} (h : a.length + b.length <= 16383) : Ens (f78 a b) fun r => (∀ y, y ∈ r ↔ y ∈ a \/ y ∈ b) /\ r.length <= a.length + b.length := by
 unfold f78
 have e : [a, b].flatten = a ++ b := by simp
 rw [concatN (by simp) (by rw [e]; simp; omega), e, bS]
 refine Ens.bind (pSort (by simp; omega)) fun r hr => ?_
 have hl := hr.length_eq
 simp only [List.length_append] at hl
 unfold f122 compactN
 rw [if_pos (by omega)]
 exact Ens.of ⟨fun y => by rw [compact_mem, hr.mem_iff, List.mem_append], by have := compactL_len r; omega⟩
def inW (d : Database) (q : Query) (i : Nat) : Bool := (wits d q).any fun w => w.contains ((i : Nat) : Int)
def idx (n : Nat) (p : Nat -> Bool) : List Int := (List.range n).flatMap fun i => if p i = true then [((i : Nat) : Int)] else []
def irr (d : Database) (q : Query) : List Int := if good2 d q = true then idx d.Facts.length fun i => !inW d q i else []
end
section
variable {d : Database} {q : Query}
def nums (l : List Int) : Prop := l.length <= 1048576 /\ ∀ v ∈ l, 0 <= v /\ v <= 1048576
def posC (l : List Int) : List Int := l.map fun v => v + 1
def negC (l : List Int) : List Int := l.map fun v => -1 - v
def falsity (d : Database) (q : Query) : List (List Int) := if good2 d q = true then (blks (skOf d) d.Facts.length d.Facts.length).map posC ++ (wits d q).map negC else []
theorem blks_nums {B : List Int} (h14 : d.Facts.length <= 14) (h : B ∈ blks (skOf d) d.Facts.length d.Facts.length) : nums B /\ B.length <= 14 := by
 obtain ⟨s, _, _, rfl⟩ := mem_blks.1 h
 have hl := blk_len (sk := skOf d) (i := s) (x := d.Facts.length)
 refine ⟨⟨by omega, fun v hv => ?_⟩, by omega⟩
 obtain ⟨k, k1, rfl, _⟩ := blk_mem.1 hv
 omega
def bks (d : Database) : List (List Int) := blks (skOf d) d.Facts.length d.Facts.length
theorem bks_few (h : d.Facts.length <= 14) : (bks d).length <= 14 /\ ∀ x ∈ bks d, x.length <= 14 := by
 have := blks_len (sk := skOf d) (y := d.Facts.length) (x := d.Facts.length)
 exact ⟨by unfold bks; omega, fun x hx => (blks_nums h hx).2⟩
theorem prt_nums {w : List Int} (h : prt d w = true) : nums w /\ vDb d = true /\ asc d.Facts.length w = true := by
 unfold prt at h
 simp only [Bool.and_eq_true, decide_eq_true_eq] at h
 have h14 := (vDb_of h.1).2.1
 have hl := asc_len h.2.1
 refine ⟨⟨by omega, fun v hv => ?_⟩, h.1, h.2.1⟩
 have := (asc_of h.2.1).2 v hv
 omega
end
section
def forc (K : List (List Int)) (s b : List Int) : Bool := b.all fun f => !s.contains f && cov K (s ++ [f])
def anyB (B K : List (List Int)) (s : List Int) : Bool := B.any (forc K s)
def pass1 (B : List (List Int)) : List (List Int) -> List (List Int) -> List (List Int) × List (List Int)
 | K, [] => (K, [])
 | K, s :: O => if anyB B K s = true then pass1 B (K ++ [s]) O else ((pass1 B K O).1, s :: (pass1 B K O).2)
theorem pass1_app {B : List (List Int)} : ∀ {O1 K O2 : List (List Int)}, pass1 B K (O1 ++ O2) = ((pass1 B (pass1 B K O1).1 O2).1, (pass1 B K O1).2 ++ (pass1 B (pass1 B K O1).1 O2).2)
 | [], K, O2 => by simp [pass1]
 | s :: O1, K, O2 => by
  rw [List.cons_append, pass1, pass1]
  split
  ·exact pass1_app
  ·rw [pass1_app]; simp
theorem pass1_len {B : List (List Int)} : ∀ {O K : List (List Int)}, (pass1 B K O).2.length <= O.length /\ (pass1 B K O).1.length + (pass1 B K O).2.length = K.length + O.length
 | [], K => by simp [pass1]
 | s :: O, K => by
  rw [pass1]
  split
  ·have := pass1_len (B := B) (O := O) (K := K ++ [s]); simp only [List.length_append, List.length_cons, List.length_nil] at *; omega
  ·have := pass1_len (B := B) (O := O) (K := K); simp only [List.length_cons] at *; omega
theorem pass1_mem {B : List (List Int)} {v : List Int} : ∀ {O K : List (List Int)}, (v ∈ (pass1 B K O).1 -> v ∈ K \/ v ∈ O) /\ (v ∈ (pass1 B K O).2 -> v ∈ O)
 | [], K => by simp [pass1]
 | s :: O, K => by
  rw [pass1]
  split
  ·obtain ⟨h1, h2⟩ := pass1_mem (B := B) (v := v) (O := O) (K := K ++ [s])
   refine ⟨fun h => ?_, fun h => by simp [h2 h]⟩
   rcases h1 h with h | h
   ·rcases List.mem_append.1 h with h | h
    ·exact .inl h
    ·exact .inr (by rw [List.mem_singleton] at h; simp [h])
   ·exact .inr (by simp [h])
  ·obtain ⟨h1, h2⟩ := pass1_mem (B := B) (v := v) (O := O) (K := K)
   refine ⟨fun h => (h1 h).imp id fun h => by simp [h], fun h => ?_⟩
   rcases List.mem_cons.1 h with rfl | h
   ·simp
   ·simp [h2 h]
theorem pass1_same {B : List (List Int)} : ∀ {O K : List (List Int)}, (pass1 B K O).2.length = O.length -> (pass1 B K O).1 = K
 | [], K, _ => by simp [pass1]
 | s :: O, K, h => by
  rw [pass1] at h ⊢
  split
  ·rename_i c
   rw [if_pos c] at h
   have := (pass1_len (B := B) (O := O) (K := K ++ [s])).1
   rw [List.length_cons] at h; omega
  ·rename_i c
   rw [if_neg c] at h
   exact pass1_same (by simpa using h)
def fixp (B : List (List Int)) : Nat -> List (List Int) -> List (List Int) -> List (List Int)
 | 0, K, _ => K
 | n + 1, K, O => if (pass1 B K O).2.length = O.length then K else fixp B n (pass1 B K O).1 (pass1 B K O).2
def unk (A : List (List Int)) (m : List Bool) : List (List Int) := (A.zip m).filterMap fun p => if p.2 = true then none else some p.1
theorem unk_app {A A' : List (List Int)} {m m' : List Bool} (h : A.length = m.length) : unk (A ++ A') (m ++ m') = unk A m ++ unk A' m' := by
 unfold unk
 rw [List.zip_append h, List.filterMap_append]
end
section
variable {d : Database} {q : Query}
def Few (K : List (List Int)) : Prop := K.length <= 1048576 /\ ∀ x ∈ K, x.length <= 14
theorem Few.big {K : List (List Int)} (h : Few K) : Big K.length /\ ∀ x ∈ K, Big x.length := ⟨by have := h.1; omega, fun x hx => by have := h.2 x hx; omega⟩
theorem cov_congr {K : List (List Int)} {a b : List Int} (h : ∀ y, y ∈ a ↔ y ∈ b) : cov K a = cov K b := by
 unfold cov
 refine any_mem_congr fun w _ => all_mem_congr fun v _ => ?_
 rw [Bool.eq_iff_iff, List.contains_iff_mem, List.contains_iff_mem, h]
theorem forcImp {K : List (List Int)} {s b : List Int} (hK : Few K) (hs : s.length <= 14) (hb : b.length <= 14) : f54 K s b = some (forc K s b) := by
 unfold f54
 rw [iter_ex (f := f54_0 K s b) b (fun f => !(!s.contains f && cov K (s ++ [f]))) false (fun i hi => by
  obtain ⟨r, hr, r1, r2⟩ := unionMem (a := s) (b := [b[i]]) (by simp; omega)
  simp only [List.length_singleton] at r2
  have hw : f92 s b[i] = some r := by unfold f92; rw [hr]; rfl
  have hc : cov K r = cov K (s ++ [b[i]]) := cov_congr fun y => by rw [r1, List.mem_append]
  simp only [f54_0]
  rw [if_pos (by omega), ix_nat hi, bS, containsI (by omega), bS, hw, bS, impCov hK.big.1 hK.big.2 (by omega), hc, w64_succ (by omega)]
  cases s.contains b[i] <;> cases cov K (s ++ [b[i]]) <;> rfl) (by
  simp only [f54_0]
  rw [if_neg (by omega)])]
 have e : forc K s b = !(b.any fun f => !(!s.contains f && cov K (s ++ [f]))) := by
  unfold forc; rw [any_not, Bool.not_not]
 rw [e]
 cases b.any fun f => !(!s.contains f && cov K (s ++ [f])) <;> simp
def fidx (B K : List (List Int)) (s : List Int) : Int := match B.findIdx? (forc K s) with
 | some i => (i : Int)
 | none => -1
theorem fidx_ge {B K : List (List Int)} {s : List Int} : decide (fidx B K s >= 0) = anyB B K s := by
 unfold fidx anyB
 cases h : B.findIdx? (forc K s) with
 | none =>
  rw [List.findIdx?_eq_none_iff] at h
  have : B.any (forc K s) = false := by
   rw [List.any_eq_false]
   intro x hx
   rw [h x hx]; simp
  rw [this]; rfl
 | some i =>
  have := List.findIdx?_eq_some_iff_getElem.1 h
  obtain ⟨hi, hp, _⟩ := this
  have : B.any (forc K s) = true := List.any_eq_true.2 ⟨_, List.getElem_mem hi, hp⟩
  rw [this]
  simp
theorem iter_find {α ρ : Type} {f : Int -> Option (Int ⊕ (ρ ⊕ Int))} {c : ρ} (L : List α) (p : α -> Bool)
  (hs : ∀ (i : Nat) (h : i < L.length), f (i : Int) = some (if p L[i] = true then .inr (.inr (i : Int)) else .inl ((i + 1 : Nat) : Int))) (he : f (L.length : Int) = some (.inr (.inl c))) :
  iter f 0 = some (match L.findIdx? p with | some i => .inr (i : Int) | none => .inl c) := by
 obtain ⟨o, h1, h2⟩ := iter_up (f := f) L.length (fun i s => s = (i : Int) /\ ∀ j (h : j < L.length), j < i -> p L[j] = false) (fun o => o = (match L.findIdx? p with | some i => .inr (i : Int) | none => .inl c)) (fun i s hi ⟨h, hp⟩ => by
  subst h
  refine ⟨_, hs i hi, ?_⟩
  by_cases hc : p L[i] = true
  ·rw [if_pos hc]
   dsimp only
   rw [List.findIdx?_eq_some_iff_getElem.2 ⟨hi, hc, fun j hj => by rw [hp j (by omega) hj]; simp⟩]
  ·rw [if_neg hc]
   refine ⟨rfl, fun j hj hlt => ?_⟩
   by_cases e : j = i
   ·subst e; simpa using hc
   ·exact hp j hj (by omega)) (fun s ⟨h, hp⟩ => by
  subst h
  refine ⟨_, he, ?_⟩
  rw [List.findIdx?_eq_none_iff.2 fun x hx => by
   obtain ⟨j, hj, rfl⟩ := List.getElem_of_mem hx
   exact hp j hj hj]) 0 ⟨rfl, fun j hj h => by omega⟩
 rw [h1, h2]
theorem stepA {B : List (List Int)} {s : List Int} {i : Nat} (hi : i < B.length) (hs : s.length <= 14) (hb : B[i].length <= 14) : iter (f127_1 B s (i : Int)) (true, 0) = some (B[i].all fun f => !s.contains f) := by
 rw [iter_foldl (f := f127_1 B s (i : Int)) B[i] (fun x f => x && !s.contains f) id (fun k hk x => by
  simp only [f127_1]
  rw [ix_nat hi, bS, if_pos (by omega), w64_succ (by omega)]
  cases x
  ·simp
  ·rw [if_pos rfl, ix_nat hk, bS, hasI (by omega)]
   simp) (fun x => by
  simp only [f127_1]
  rw [ix_nat hi, bS, if_neg (by omega)]; rfl)]
 rw [foldl_all]
 simp
theorem stepB {K B : List (List Int)} {s : List Int} {i : Nat} {x : Bool} (hK : Few K) (hi : i < B.length) (hs : s.length <= 14) (hb : B[i].length <= 14) : iter (f127_2 K B s (i : Int)) (x, 0) = some (x && B[i].all fun f => cov K (s ++ [f])) := by
 obtain ⟨o, h1, h2⟩ := iter_up (f := f127_2 K B s (i : Int)) B[i].length (fun k t => t = (x && (B[i].take k).all (fun f => cov K (s ++ [f])), (k : Int))) (fun o => o = (x && B[i].all fun f => cov K (s ++ [f]))) (fun k t hk h => by
  subst h
  simp only [f127_2]
  rw [ix_nat hi, bS, if_pos (by omega), bS]
  cases hc : x && (B[i].take k).all fun f => cov K (s ++ [f])
  ·rw [if_neg (by simp)]
   refine ⟨_, rfl, ?_⟩
   dsimp only
   symm
   rw [Bool.and_eq_false_iff] at hc ⊢
   rcases hc with hc | hc
   ·exact .inl hc
   ·refine .inr ?_
    rw [Bool.eq_false_iff]
    intro ha
    rw [Bool.eq_false_iff] at hc
    exact hc (List.all_eq_true.2 fun v hv => List.all_eq_true.1 ha v (List.mem_of_mem_take hv))
  ·rw [if_pos rfl, ix_nat hk, bS, app_fits (by simp; omega), bS, app_fits (by simp; omega), bS, List.nil_append, specCov hK.big.1 hK.big.2 (by simp; omega), bS, w64_succ (by omega)]
   refine ⟨_, rfl, ?_⟩
   dsimp only
   rw [take_succ' hk, List.all_append, <- Bool.and_assoc, hc]
   simp) (fun t h => by
  subst h
  simp only [f127_2]
  rw [ix_nat hi, bS, if_neg (by omega), bS, if_neg (by simp), List.take_of_length_le (Nat.le_refl _)]
  exact ⟨_, rfl, rfl⟩) (x, 0) (by simp)
 rw [h1, h2]
theorem stepSpec {K B : List (List Int)} {s : List Int} (hB : B.length <= 14 /\ ∀ x ∈ B, x.length <= 14) (hK : Few K) (hs : s.length <= 14) : f127 K B s = some (fidx B K s) := by
 unfold f127
 rw [iter_find (f := f127_0 K B s) (c := ()) B (forc K s) (fun i hi => by
  have hb := hB.2 _ (List.getElem_mem hi)
  simp only [f127_0]
  rw [if_pos (by omega), stepA hi hs hb, bS, stepB hK hi hs hb, bS, w64_succ (by omega)]
  have e : ((B[i].all fun f => !s.contains f) && B[i].all fun f => cov K (s ++ [f])) = forc K s B[i] := by
   unfold forc
   induction B[i] with
   | nil => rfl
   | cons a l ih =>
    simp only [List.all_cons]
    rw [<- ih]
    cases s.contains a <;> cases cov K (s ++ [a]) <;> cases (l.all fun f => !s.contains f) <;> simp
  rw [e]
  split <;> rfl) (by
  simp only [f127_0]
  rw [if_neg (by omega)])]
 unfold fidx
 cases B.findIdx? (forc K s) <;> rfl
end
section
variable {d : Database} {q : Query}
theorem few_of {K O : List (List Int)} (h1 : Few (K ++ O)) : Few K /\ Few O := by
 obtain ⟨a, b⟩ := h1
 rw [List.length_append] at a
 exact ⟨⟨by omega, fun x hx => b x (by simp [hx])⟩, ⟨by omega, fun x hx => b x (by simp [hx])⟩⟩
theorem pass1_few {B K O : List (List Int)} (h : Few (K ++ O)) : Few ((pass1 B K O).1 ++ (pass1 B K O).2) := by
 obtain ⟨a, b⟩ := h
 have hl := (pass1_len (B := B) (O := O) (K := K)).2
 refine ⟨by rw [List.length_append] at a ⊢; omega, fun x hx => ?_⟩
 have hm := pass1_mem (B := B) (v := x) (O := O) (K := K)
 rcases List.mem_append.1 hx with h | h
 ·exact b x (List.mem_append.2 (hm.1 h))
 ·exact b x (List.mem_append.2 (.inr (hm.2 h)))
def sets0 (d : Database) (q : Query) : List (List Int) := ups d q.Atoms.length
def known0 (d : Database) (q : Query) : List (List Int) := (sets0 d q).filter (cov (wits d q))
def other0 (d : Database) (q : Query) : List (List Int) := (sets0 d q).filter fun s => !cov (wits d q) s
def fixs (d : Database) (q : Query) : List (List Int) := if good2 d q = true then fixp (bks d) ((other0 d q).length + 1) (known0 d q) (other0 d q) else []
theorem wits_few : Few (wits d q) := ⟨by have := wits_len (d := d) (q := q); omega, fun x hx => by have := (wits_prt hx).2; omega⟩
theorem filter_two {A : List (List Int)} {p : List Int -> Bool} : (A.filter p).length + (A.filter fun s => !p s).length = A.length := by
 induction A with
 | nil => rfl
 | cons a A ih =>
  rw [List.filter_cons, List.filter_cons]
  cases p a
  ·simp; omega
  ·simp; omega
theorem start_few : Few (known0 d q ++ other0 d q) := by
 obtain ⟨h1, h2⟩ := ups_len (d := d) (k := q.Atoms.length)
 have := filter_two (A := sets0 d q) (p := cov (wits d q))
 refine ⟨by rw [List.length_append]; unfold known0 other0; unfold sets0 at *; omega, fun x hx => ?_⟩
 rcases List.mem_append.1 hx with h | h
 ·have := (h2 x (List.mem_filter.1 h).1).2; omega
 ·have := (h2 x (List.mem_filter.1 h).1).2; omega
theorem filter_take {A : List (List Int)} {p : List Int -> Bool} {i : Nat} (hi : i < A.length) : (A.take (i + 1)).filter p = (A.take i).filter p ++ if p A[i] = true then [A[i]] else [] := by
 rw [take_succ' hi, List.filter_append]
 cases h : p A[i] <;> simp [h]
end
section
variable {d : Database} {q : Query}
theorem unk_take {A : List (List Int)} {m : List Bool} {i : Nat} (h : A.length = m.length) (hi : i < A.length) : unk (A.take (i + 1)) (m.take (i + 1)) = unk (A.take i) (m.take i) ++ if (m[i]'(by omega)) = true then [] else [A[i]] := by
 rw [take_succ' hi, take_succ' (l := m) (by omega), unk_app (by rw [List.length_take, List.length_take, h])]
 congr 1
 unfold unk
 simp only [List.zip_cons_cons, List.zip_nil_left, List.filterMap_cons, List.filterMap_nil]
 cases m[i] <;> simp
theorem drop_get {m m0 : List Bool} {i : Nat} (h : m.drop i = m0.drop i) (hi : i < m.length) (h0 : i < m0.length) : m[i] = m0[i] := by
 have := congrArg (fun l => l[0]?) h
 simp only [List.getElem?_drop, Nat.add_zero] at this
 rw [zE hi, zE h0] at this
 exact Option.some.inj this
theorem drop_next {m m0 : List Bool} {i : Nat} (h : m.drop i = m0.drop i) : m.drop (i + 1) = m0.drop (i + 1) := by
 rw [<- List.drop_drop, h, List.drop_drop]
theorem unk_part {A : List (List Int)} {m : List Bool} {i : Nat} (h : A.length = m.length) : ∃ r, unk A m = unk (A.take i) (m.take i) ++ r := by
 refine ⟨unk (A.drop i) (m.drop i), ?_⟩
 rw [<- unk_app (by rw [List.length_take, List.length_take, h]), List.take_append_drop, List.take_append_drop]
theorem passSpec {A B K : List (List Int)} {m : List Bool} (hB : B.length <= 14 /\ ∀ x ∈ B, x.length <= 14) (hl : A.length = m.length) (hA : Few A) (hf : Few (K ++ unk A m)) :
  ∃ m', iter (f126_2 A B) (K, m, false, 0) = some ((pass1 B K (unk A m)).1, m', decide ((pass1 B K (unk A m)).2.length ≠ (unk A m).length)) /\ m'.length = A.length /\ unk A m' = (pass1 B K (unk A m)).2 := by
 obtain ⟨o, h1, m', h2, h3, h4⟩ := iter_up (f := f126_2 A B) A.length
  (fun i s => ∃ m1 : List Bool, s = ((pass1 B K (unk (A.take i) (m.take i))).1, m1, decide ((pass1 B K (unk (A.take i) (m.take i))).2.length ≠ (unk (A.take i) (m.take i)).length), (i : Int)) /\ m1.length = A.length /\ m1.drop i = m.drop i /\ unk (A.take i) (m1.take i) = (pass1 B K (unk (A.take i) (m.take i))).2)
  (fun o => ∃ m', o = ((pass1 B K (unk A m)).1, m', decide ((pass1 B K (unk A m)).2.length ≠ (unk A m).length)) /\ m'.length = A.length /\ unk A m' = (pass1 B K (unk A m)).2) (fun i s hi ⟨m1, hs, g1, g2, g3⟩ => by
   subst hs
   have hA1 := hA.1
   have hs14 := hA.2 _ (List.getElem_mem hi)
   obtain ⟨rr, hr⟩ := unk_part (A := A) (m := m) (i := i) hl
   have hfi : Few (K ++ unk (A.take i) (m.take i)) := by
    rw [hr, <- List.append_assoc] at hf
    exact (few_of hf).1
   have hpf := pass1_few (B := B) hfi
   obtain ⟨f1, f2⟩ := few_of hpf
   have hpl := hpf.1
   rw [List.length_append] at hpl
   have hple := (pass1_len (B := B) (O := unk (A.take i) (m.take i)) (K := K)).1
   have e1 : m1[i]'(by omega) = m[i]'(by omega) := drop_get g2 (by omega) (by omega)
   have ut := unk_take hl hi
   have ut1 := unk_take (m := m1) (by omega) hi
   simp only [f126_2]
   rw [if_pos (by omega), ix_nat (by omega), bS, e1, w64_succ (by omega)]
   cases hm : m[i]'(by omega) with
   | true =>
    rw [hm] at ut
    rw [e1, hm] at ut1
    rw [if_pos rfl, List.append_nil] at ut ut1
    rw [if_neg (by simp), bS, if_neg (by simp)]
    exact ⟨_, rfl, m1, by rw [ut], g1, drop_next g2, by rw [ut1, g3, ut]⟩
   | false =>
    rw [hm] at ut
    rw [e1, hm] at ut1
    rw [if_neg (by simp)] at ut ut1
    rw [if_pos (by simp), ix_nat hi, bS, stepSpec hB f1 hs14, bS, bS, fidx_ge]
    have hp : pass1 B K (unk (A.take (i + 1)) (m.take (i + 1))) = if anyB B (pass1 B K (unk (A.take i) (m.take i))).1 A[i] = true then ((pass1 B K (unk (A.take i) (m.take i))).1 ++ [A[i]], (pass1 B K (unk (A.take i) (m.take i))).2) else ((pass1 B K (unk (A.take i) (m.take i))).1, (pass1 B K (unk (A.take i) (m.take i))).2 ++ [A[i]]) := by
     rw [ut, pass1_app, pass1]
     split <;> simp [pass1]
    have hul : (unk (A.take (i + 1)) (m.take (i + 1))).length = (unk (A.take i) (m.take i)).length + 1 := by rw [ut, List.length_append]; rfl
    rw [hp, hul]
    cases anyB B (pass1 B K (unk (A.take i) (m.take i))).1 A[i]
    ·rw [if_neg (by simp), if_neg (by simp)]
     refine ⟨_, rfl, m1, ?_, g1, drop_next g2, by rw [ut1, g3]⟩
     simp only [List.length_append, List.length_singleton]
     congr 3
     exact decide_eq_decide.2 (by omega)
    ·rw [if_pos rfl, if_pos rfl, bS, app_fits (by simp; omega), bS]
     refine ⟨_, rfl, m1.set i true, ?_, by rw [List.length_set]; exact g1, ?_, ?_⟩
     ·simp only [Int.toNat_natCast]
      congr 3
      rw [eq_comm, decide_eq_true_eq]; omega
     ·rw [List.drop_set_of_lt (by omega)]; exact drop_next g2
     ·have hset := unk_take (A := A) (m := m1.set i true) (by rw [List.length_set]; omega) hi
      rw [hset, List.getElem_set_self, if_pos rfl, List.append_nil, List.take_set_of_le (by omega)]
      exact g3) (fun s ⟨m1, hs, g1, g2, g3⟩ => by
   subst hs
   simp only [f126_2]
   rw [List.take_of_length_le (Nat.le_refl _), List.take_of_length_le (l := m1) (by omega), List.take_of_length_le (l := m) (by omega)] at g3
   rw [if_neg (by omega), List.take_of_length_le (Nat.le_refl _), List.take_of_length_le (l := m) (by omega)]
   exact ⟨_, rfl, m1, rfl, g1, g3⟩) (K, m, false, 0) ⟨m, by simp [unk, pass1], by omega, rfl, by simp [unk, pass1]⟩
 exact ⟨m', by rw [h1, h2], h3, h4⟩
theorem fixSpec {A B : List (List Int)} (hB : B.length <= 14 /\ ∀ x ∈ B, x.length <= 14) (hA : Few A) : ∀ {n : Nat} {K : List (List Int)} {m : List Bool}, A.length = m.length -> Few (K ++ unk A m) -> (unk A m).length < n -> iter (f126_1 A B) (K, m, true) = some (fixp B n K (unk A m))
 | 0, K, m, _, _, h => by omega
 | n + 1, K, m, hl, hf, hn => by
  obtain ⟨m', h1, h2, h3⟩ := passSpec hB hl hA hf
  rw [iter_eq]
  simp only [f126_1]
  rw [if_pos trivial, h1, bS, fixp]
  have hle := (pass1_len (B := B) (O := unk A m) (K := K)).1
  by_cases e : (pass1 B K (unk A m)).2.length = (unk A m).length
  ·rw [if_pos e]
   dsimp only
   rw [decide_eq_false (by simpa using e), iter_eq]
   simp only [f126_1]
   rw [if_neg (by simp), pass1_same e]
  ·rw [if_neg e]
   dsimp only
   rw [decide_eq_true e, <- h3]
   refine fixSpec hB hA h2.symm ?_ (by rw [h3]; omega)
   rw [h3]; exact pass1_few hf
theorem marks_step {A : List (List Int)} {p : List Int -> Bool} {i : Nat} (hi : i < A.length) : ((A.take i).map p ++ List.replicate (A.length - i) false).length = A.length /\ (if p A[i] = true then ((A.take i).map p ++ List.replicate (A.length - i) false).set i true else (A.take i).map p ++ List.replicate (A.length - i) false) = (A.take (i + 1)).map p ++ List.replicate (A.length - (i + 1)) false := by
 have e : A.length - i = (A.length - (i + 1)) + 1 := by omega
 have hl : ((A.take i).map p).length = i := by simp; omega
 refine ⟨by simp; omega, ?_⟩
 rw [take_succ' hi, List.map_append, List.append_assoc, e, List.replicate_succ]
 cases h : p A[i]
 ·simp [h]
 ·rw [if_pos rfl, List.set_append_right _ _ (by omega), hl, Nat.sub_self]
  simp [h]
theorem unk_map {A : List (List Int)} {p : List Int -> Bool} : unk A (A.map p) = A.filter fun s => !p s := by
 unfold unk
 induction A with
 | nil => rfl
 | cons a A ih =>
  simp only [List.map_cons, List.zip_cons_cons, List.filterMap_cons, List.filter_cons, ih]
  cases p a <;> simp
theorem fixsSpec (hf : FitsDQ d q) : f126 d q = some (fixs d q) := by
 unfold f126 fixs
 rw [specFor hf, bS]
 cases hg : good2 d q
 ·rw [if_pos (by simp), if_neg (by simp)]
 ·obtain ⟨g1, g2⟩ := good2_of hg
  have h14 := (vDb_of g1).2.1
  have hB := bks_few h14
  obtain ⟨u1, u2⟩ := ups_len (d := d) (k := q.Atoms.length)
  rw [if_neg (by simp), if_pos rfl, upsSpec hf.1, bS, witSpec hf, bS, mkl_ok (by omega) (by omega) (by omega), bS]
  have it := iter_steps (f := f126_0 (ups d q.Atoms.length) (wits d q)) (fun i => (((ups d q.Atoms.length).take i).filter (cov (wits d q)), ((ups d q.Atoms.length).take i).map (cov (wits d q)) ++ List.replicate ((ups d q.Atoms.length).length - i) false, (i : Int))) (ups d q.Atoms.length).length (known0 d q, (ups d q.Atoms.length).map (cov (wits d q))) (fun i hi => by
   have hs := (u2 _ (List.getElem_mem hi)).2
   have l1 := List.length_filter_le (cov (wits d q)) ((ups d q.Atoms.length).take i)
   rw [List.length_take] at l1
   obtain ⟨m1, m2⟩ := marks_step (p := cov (wits d q)) hi
   simp only [f126_0]
   rw [if_pos (by omega), ix_nat hi, bS, specCov wits_few.big.1 wits_few.big.2 (by omega), bS, filter_take hi, w64_succ (by omega), <- m2]
   cases cov (wits d q) (ups d q.Atoms.length)[i]
   ·simp
   ·rw [if_pos rfl, ix_nat (by omega), bS, app_fits (by simp; omega)]
    simp) (by
   simp only [f126_0]
   rw [if_neg (by omega), List.take_of_length_le (Nat.le_refl _), Nat.sub_self]
   simp [known0, sets0])
  simp only [List.take_zero, List.filter_nil, List.map_nil, List.nil_append, Nat.sub_zero, Int.natCast_zero, Int.ofNat_zero] at it
  rw [Int.toNat_natCast]
  erw [it]
  dsimp only
  rw [blocksSpec g1 hf.1, bS]
  have hA : Few (ups d q.Atoms.length) := ⟨by omega, fun x hx => by have := (u2 x hx).2; omega⟩
  have hu : unk (ups d q.Atoms.length) ((ups d q.Atoms.length).map (cov (wits d q))) = other0 d q := unk_map
  have := fixSpec hB hA (n := (other0 d q).length + 1) (K := known0 d q) (m := (ups d q.Atoms.length).map (cov (wits d q))) (by simp) (by rw [hu]; exact start_few) (by rw [hu]; omega)
  unfold bks at this
  rw [bS]
  dsimp only
  rw [this, hu]
  rfl
theorem fixp_few {B : List (List Int)} : ∀ {n : Nat} {K O : List (List Int)}, Few (K ++ O) -> Few (fixp B n K O)
 | 0, K, O, h => (few_of h).1
 | n + 1, K, O, h => by
  rw [fixp]
  split
  ·exact (few_of h).1
  ·exact fixp_few (pass1_few h)
theorem fixs_few : Few (fixs d q) := by
 unfold fixs
 split
 ·exact fixp_few start_few
 ·exact ⟨by simp, by simp⟩
def certF (d : Database) (q : Query) : Bool := (fixs d q).any fun s => decide (s.length = 0)
theorem certSpec (hf : FitsDQ d q) : f125 d q = some (certF d q) := by
 unfold f125
 rw [fixsSpec hf, bS, specCov fixs_few.big.1 fixs_few.big.2 (by simp), bS]
 congr 1
 unfold cov certF
 refine any_mem_congr fun s _ => ?_
 cases s <;> simp
end
section
variable {d : Database} {q : Query}
end
section
end
section
variable {d : Database} {q : Query}
theorem iter_exN {ρ : Type} {f : Int -> Option (Int ⊕ (Unit ⊕ ρ))} (n : Nat) (p : Nat -> Bool) (c : ρ)
  (hs : ∀ i, i < n -> (∀ j, j < i -> p j = false) -> f (i : Int) = some (if p i = true then .inr (.inr c) else .inl ((i + 1 : Nat) : Int))) (he : f (n : Int) = some (.inr (.inl ()))) :
  iter f 0 = some (if (List.range n).any p = true then .inr c else .inl ()) := by
 obtain ⟨r, h1, h2⟩ := iter_up (f := f) n (fun i s => s = (i : Int) /\ ∀ j, j < i -> p j = false) (fun r => r = if (List.range n).any p = true then .inr c else .inl ()) (fun i s hi ⟨h, hp⟩ => by
   subst h
   refine ⟨_, hs i hi hp, ?_⟩
   by_cases hc : p i = true
   ·rw [if_pos hc]
    dsimp only
    rw [if_pos (List.any_eq_true.2 ⟨i, List.mem_range.2 hi, hc⟩)]
   ·rw [if_neg hc]
    refine ⟨rfl, fun j hj => ?_⟩
    by_cases e : j = i
    ·subst e; simpa using hc
    ·exact hp j (by omega)) (fun s ⟨h, hp⟩ => by
   subst h
   refine ⟨_, he, ?_⟩
   have : (List.range n).any p = false := by
    rw [List.any_eq_false]
    intro x hx
    rw [hp x (List.mem_range.1 hx)]; simp
   rw [this]; rfl) 0 ⟨rfl, fun j hj => by omega⟩
 rw [h1, h2]
def gst (d : Database) (q : Query) (L : List DerivationStep) (i : Nat) : Bool := match L[i]? with
 | none => true
 | some v => prt d v.Facts && if v.Block = -1 then cov (wits d q) v.Facts else btw v.Block 0 ((bks d).length - 1) && forc ((L.take i).map (·.Facts)) v.Facts ((bks d).getD v.Block.toNat [])
theorem gst_at {L : List DerivationStep} {i : Nat} (hi : i < L.length) : gst d q L i = (prt d L[i].Facts && if L[i].Block = -1 then cov (wits d q) L[i].Facts else btw L[i].Block 0 ((bks d).length - 1) && forc ((L.take i).map (·.Facts)) L[i].Facts ((bks d).getD L[i].Block.toNat [])) := by
 unfold gst
 rw [zE hi]
def vder (d : Database) (q : Query) (L : List DerivationStep) : Bool := good2 d q && !decide (L.length = 0) && (List.range L.length).all (gst d q L) && decide ((L.getLast?.map (·.Facts.length)).getD 0 = 0)
theorem gst_few {L : List DerivationStep} {i : Nat} (hl : L.length <= 1048576) (hi : i <= L.length) (h : ∀ j, j < i -> (!gst d q L j) = false) : Few ((L.take i).map (·.Facts)) := by
 refine ⟨by simp; omega, fun x hx => ?_⟩
 obtain ⟨v, hv, rfl⟩ := List.mem_map.1 hx
 obtain ⟨j, hj, rfl⟩ := List.mem_iff_getElem.1 hv
 simp only [List.length_take] at hj
 have := h j (by omega)
 simp only [gst, zE (show j < L.length by omega), Bool.not_eq_false', Bool.and_eq_true] at this
 have hp := prt_nums this.1
 simp only [List.getElem_take]
 have := asc_len hp.2.2
 have := (vDb_of hp.2.1).2.1
 omega
theorem factsImp {L : List DerivationStep} (h : L.length <= 1048576) : f55 L = some (L.map (·.Facts)) := by
 unfold f55
 have it := iter_steps (f := f55_0 L) (fun i => ((L.take i).map (·.Facts), (i : Int))) L.length (L.map (·.Facts)) (fun i hi => by
  simp only [f55_0]
  rw [if_pos (by omega), ix_nat hi, bS, app_fits (by simp; omega), bS, w64_succ (by omega), take_succ' hi, List.map_append, List.map_singleton]) (by
  simp only [f55_0]
  rw [if_neg (by omega), List.take_of_length_le (Nat.le_refl _)])
 simp only [List.take_zero, List.map_nil, Int.natCast_zero, Int.ofNat_zero] at it
 rw [it]; rfl
theorem bks_ok (hf : FitsDQ d q) (hg : good2 d q = true) : (bks d).length <= 14 /\ ∀ x ∈ bks d, x.length <= 14 := bks_few (vDb_of (good2_of hg).1).2.1
theorem goodSpec (hf : FitsDQ d q) (hg : good2 d q = true) {L : List DerivationStep} (hL : L.length <= 1048576 /\ ∀ x ∈ L, x.Facts.length <= 1048576) {i : Nat} (hi : i < L.length) (h : ∀ j, j < i -> (!gst d q L j) = false) :
  f59 d (wits d q) (bks d) L (i : Int) = some (gst d q L i) := by
 unfold f59
 have hb := bks_ok hf hg
 have hm := hL.2 _ (List.getElem_mem hi)
 rw [ix_nat hi, bS, specPart hf.1 hm, bS]
 unfold gst
 rw [zE hi]
 dsimp only
 cases hp : prt d L[i].Facts
 ·rw [if_pos (by simp)]; rfl
 rw [if_neg (by simp), Bool.true_and]
 have hp2 := prt_nums hp
 have hs : L[i].Facts.length <= 14 := by have := asc_len hp2.2.2; have := (vDb_of hp2.2.1).2.1; omega
 by_cases hB : L[i].Block = -1
 ·rw [if_pos hB, if_pos hB, specCov wits_few.big.1 wits_few.big.2 (by omega)]; rfl
 rw [if_neg hB, if_neg hB, specIn, bS, w64_of (by omega)]
 cases hw : btw L[i].Block 0 ((bks d).length - 1)
 ·rw [if_pos (by simp)]; rfl
 rw [if_neg (by simp), Bool.true_and]
 have hw2 : 0 <= L[i].Block /\ L[i].Block <= (bks d).length - 1 := by simpa [btw] using hw
 have hn : L[i].Block.toNat < (bks d).length := by omega
 rw [ix_of hw2.1, zE hn, bS]
 have eB : (bks d).getD L[i].Block.toNat [] = (bks d)[L[i].Block.toNat] := by rw [zD, zE hn]; rfl
 rw [eB]
 have hbl := hb.2 _ (List.getElem_mem hn)
 generalize (bks d)[L[i].Block.toNat] = b at hbl
 have hK := gst_few hL.1 (Nat.le_of_lt hi) h
 have it := iter_steps (f := f59_0 L (i : Int)) (fun k => ((L.take k).map (·.Facts), (k : Int))) i ((L.take i).map (·.Facts)) (fun k hk => by
  simp only [f59_0]
  rw [if_pos (by omega), ix_nat (by omega), bS, app_fits (by simp; omega), bS, w64_succ (by omega), take_succ' (show k < L.length by omega), List.map_append, List.map_singleton]) (by
  simp only [f59_0]
  rw [if_neg (by omega)])
 simp only [List.take_zero, List.map_nil, Int.natCast_zero, Int.ofNat_zero] at it
 rw [it, bS]
 generalize (L.take i).map (·.Facts) = K at hK
 generalize hse : L[i] = s at *
 rw [iter_ex (f := f59_1 s b K) b (fun f => !(!s.Facts.contains f && cov K (s.Facts ++ [f]))) false (fun k hk => by
  simp only [f59_1]
  rw [if_pos (by omega), ix_nat hk, bS, hasI (by omega), bS, w64_succ (by omega)]
  cases hc : s.Facts.contains b[k]
  ·rw [if_neg (by simp), app_fits (by simp; omega), bS, app_fits (by simp; omega), bS, List.nil_append, specCov hK.big.1 hK.big.2 (by simp; omega)]
   cases cov K (s.Facts ++ [b[k]]) <;> rfl
  ·rfl) (by
  simp only [f59_1]
  rw [if_neg (by omega)])]
 have e : forc K s.Facts b = !(b.any fun f => !(!s.Facts.contains f && cov K (s.Facts ++ [f]))) := by
  unfold forc; rw [any_not, Bool.not_not]
 rw [e]
 cases b.any fun f => !(!s.Facts.contains f && cov K (s.Facts ++ [f])) <;> simp
theorem last_at {L : List DerivationStep} (h : 0 < L.length) : (L.getLast?.map (·.Facts.length)).getD 0 = L[L.length - 1].Facts.length := by
 rw [List.getLast?_eq_getElem?, zE (by omega)]; rfl
theorem vderSpec (hf : FitsDQ d q) {L : List DerivationStep} (hL : L.length <= 1048576 /\ ∀ x ∈ L, x.Facts.length <= 1048576) : f17 d q L = some (vder d q L) := by
 unfold f17 vder
 rw [specFor hf, bS]
 cases hg : good2 d q
 ·rfl
 by_cases h0 : L.length = 0
 ·rw [if_neg (by simp), if_pos (by omega)]
  simp [h0]
 have hm := hL.2 _ (List.getElem_mem (show L.length - 1 < L.length by omega))
 rw [if_neg (by simp), if_neg (by omega), w64_of (by omega), show (L.length : Int) - 1 = ((L.length - 1 : Nat) : Int) by omega, ix_nat (by omega), bS, last_at (by omega)]
 by_cases h1 : ¬ L[L.length - 1].Facts.length = 0
 ·have : decide ((L[L.length - 1].Facts.length : Int) > 0) = true := decide_eq_true (by omega)
  simp [this, h1]
 have h1 : L[L.length - 1].Facts.length = 0 := by omega
 have : decide ((L[L.length - 1].Facts.length : Int) > 0) = false := decide_eq_false (by omega)
 rw [this]
 simp only [bS]
 rw [if_neg (by simp), witSpec hf, bS]
 have hb : f58 d = some (bks d) := blocksSpec (good2_of hg).1 hf.1
 rw [hb, bS]
 rw [iter_exN (f := f17_0 d L (wits d q) (bks d)) L.length (fun i => !gst d q L i) false (fun i hi h => by
  simp only [f17_0]
  rw [if_pos (by omega), goodSpec hf hg hL hi h, bS, w64_succ (by omega)]
  cases gst d q L i <;> rfl) (by
  simp only [f17_0]
  rw [if_neg (by omega)])]
 have e : ((List.range L.length).all (gst d q L)) = !((List.range L.length).any fun i => !gst d q L i) := by
  rw [any_not, Bool.not_not]
 rw [e]
 cases (List.range L.length).any fun i => !gst d q L i <;> simp [h0, h1]
theorem vderImp (hf : FitsDQ d q) {L : List DerivationStep} (hL : L.length <= 1048576 /\ ∀ x ∈ L, x.Facts.length <= 1048576) : f16 d q L = some (vder d q L) := by
 unfold f16 vder
 rw [impFor hf, bS]
 cases hg : good2 d q
 ·rfl
 by_cases h0 : L.length = 0
 ·rw [if_neg (by simp)]
  simp [h0]
 rw [if_neg (by simp)]
 have hz : decide ((L.length : Int) = 0) = false := decide_eq_false (by omega)
 rw [hz]
 simp only [bS]
 have hb : f27 d = some (bks d) := blocksImp (good2_of hg).1 hf.1
 rw [if_neg (by simp), witImp hf, bS, hb, bS]
 have hbk := bks_ok hf hg
 rw [iter_exN (f := f16_0 d L (wits d q) (bks d)) L.length (fun i => !gst d q L i) false (fun i hi h => by
  simp only [f16_0]
  have hm := hL.2 _ (List.getElem_mem hi)
  rw [if_pos (by omega), ix_nat hi, bS, impPart hf.1 hm, bS]
  rw [gst_at hi]
  by_cases hp : ¬ prt d L[i].Facts = true
  ·rw [if_pos hp]
   have e : prt d L[i].Facts = false := by simpa using hp
   rw [e]; rfl
  have hp : prt d L[i].Facts = true := by simpa using hp
  rw [if_neg (by simp [hp]), hp, Bool.true_and, w64_succ (by omega)]
  have hp2 := prt_nums hp
  have hs : L[i].Facts.length <= 14 := by have := asc_len hp2.2.2; have := (vDb_of hp2.2.1).2.1; omega
  by_cases hB : L[i].Block = -1
  ·rw [if_pos hB, if_pos hB, impCov wits_few.big.1 wits_few.big.2 (by omega)]
   cases cov (wits d q) L[i].Facts <;> rfl
  rw [if_neg hB, if_neg hB, impIn, bS, w64_of (by omega)]
  cases hw : btw L[i].Block 0 ((bks d).length - 1)
  ·rfl
  rw [if_neg (by simp), Bool.true_and]
  have hw2 : 0 <= L[i].Block /\ L[i].Block <= (bks d).length - 1 := by simpa [btw] using hw
  have hn : L[i].Block.toNat < (bks d).length := by omega
  have eB : (bks d).getD L[i].Block.toNat [] = (bks d)[L[i].Block.toNat] := by rw [zD, zE hn]; rfl
  rw [cutL_ok (by omega) (by omega) (by omega), bS]
  simp only [Int.toNat_zero, List.drop_zero, Int.toNat_natCast]
  rw [ix_of hw2.1, zE hn, bS, factsImp (by simp; omega), bS, forcImp (gst_few hL.1 (Nat.le_of_lt hi) h) hs (hbk.2 _ (List.getElem_mem hn)), bS, eB]
  cases forc ((L.take i).map (·.Facts)) L[i].Facts (bks d)[L[i].Block.toNat] <;> rfl) (by
  simp only [f16_0]
  rw [if_neg (by omega)])]
 have e : ((List.range L.length).all (gst d q L)) = !((List.range L.length).any fun i => !gst d q L i) := by
  rw [any_not, Bool.not_not]
 rw [e, last_at (by omega)]
 cases (List.range L.length).any fun i => !gst d q L i
 ·simp only [Bool.false_eq_true, if_false, bS]
  rw [w64_of (by have := hL.1; omega), show (L.length : Int) - 1 = ((L.length - 1 : Nat) : Int) by omega, ix_nat (by omega), bS]
  simp [h0]
 ·simp
end
section
variable {d : Database} {q : Query}
end
section
def slit (n v : Int) : Bool := let y := if v < 0 /\ v >= w64 (-n) then w64 (-v) else (if 0 > v then 0 else v); decide (1 <= y) && decide (y <= n)
def bef (c : List Int) (i : Nat) : Bool := (c.take i).any fun a => a == c.getD i 0 || a == w64 (-(c.getD i 0))
def clS (n : Int) (c : List Int) : Bool := !(List.range c.length).any fun i => !slit n (c.getD i 0) || bef c i
def valid (n : Int) (l : List (List Int)) : Bool := l.all (clS n) && ((decide (0 <= n) && decide (n <= 14)) && decide ((l.length : Int) <= 400))
end
section
end
section
section
variable {n : Nat} {sk : Nat -> Nat -> Bool}
end
variable {d : Database} {q : Query}
end
section
variable {d : Database} {q : Query}
end
section
variable {d : Database} {q : Query}
section
variable (h : (irr d q).length ≠ 0)
include h
end
end
section
def Cur (c : L1Cur) : Prop := 0 <= c.i /\ c.i <= c.b.length /\ c.b.length <= 1048576
theorem newOk {code : List Int} (h : code.length <= 1048576) : Ens (f18 code) Cur := by
 unfold f18
 refine Ens.bind (Q := fun _ => True) ?_ fun a _ => Ens.of ⟨by simp, by simp, h⟩
 refine iter_up (f := f18_0 code) code.length (fun i s => ∃ x, s = (x, (i : Int))) (fun _ => True) (fun i s hi ⟨x, hs⟩ => ?_) (fun s ⟨x, hs⟩ => ?_) _ ⟨_, rfl⟩
 ·subst hs
  simp only [f18_0]
  rw [if_pos (by omega), bS]
  by_cases h4 : (i : Int) < 4000
  ·rw [if_pos (by simpa using h4), ix_nat hi, bS, w64_succ (by omega)]
   exact ⟨_, rfl, _, rfl⟩
  ·rw [if_neg (by simpa using h4)]
   exact ⟨_, rfl, trivial⟩
 ·subst hs
  simp only [f18_0]
  rw [if_neg (by omega), bS, if_neg (by simp)]
  exact ⟨_, rfl, trivial⟩
theorem byteOk {c : L1Cur} (h : Cur c) : Ens (f63 c) fun r => 0 <= r.1 /\ r.1 <= 255 /\ Cur r.2 := by
 unfold f63
 obtain ⟨h0, h1, h2⟩ := h
 refine Ens.bind (Q := fun x : Int × Int => 0 <= x.1 /\ x.1 <= (c.b.length : Int) /\ 0 <= x.2 /\ x.2 <= 255) ?_ fun a ha => Ens.of ⟨ha.2.2.1, ha.2.2.2, ha.1, ha.2.1, h2⟩
 refine Ens.ite (fun hc => ?_) fun hc => Ens.of ⟨h0, h1, band_255⟩
 rw [ix_getD (d := 0) h0 hc, bS]
 refine Ens.of ⟨?_, ?_, band_255⟩
 ·rw [w64_of (by omega)]; omega
 ·rw [w64_of (by omega)]; dsimp only; omega
theorem belowOk {c : L1Cur} {n : Int} (h : Cur c) : Ens (f20 c n) fun r => 0 <= r.1 /\ (n <= 0 -> r.1 = 0) /\ (0 < n -> r.1 < n) /\ Cur r.2 := by
 unfold f20
 refine Ens.ite (fun hc => Ens.of ⟨by simp, fun _ => rfl, fun h => by omega, h⟩) fun hc => ?_
 refine Ens.ite (fun hd => ?_) fun hd => ?_
 ·refine Ens.bind (byteOk h) fun a ⟨a0, a1, a2⟩ => ?_
  rw [nz_ok (by omega), bS]
  have := tmod_lt (n := n) a0 (by omega)
  exact Ens.of ⟨this.1, fun h => by omega, fun _ => this.2, a2⟩
 ·refine Ens.bind (byteOk h) fun a ⟨a0, a1, a2⟩ => ?_
  refine Ens.bind (byteOk a2) fun b ⟨b0, b1, b2⟩ => ?_
  refine Ens.bind (byteOk b2) fun c ⟨c0, c1, c2⟩ => ?_
  refine Ens.bind (byteOk c2) fun d ⟨d0, d1, d2⟩ => ?_
  rw [nz_ok (by omega), bS]
  rw [w64_of (n := a.1 * 16777216) (by omega), w64_of (n := b.1 * 65536) (by omega), w64_of (n := c.1 * 256) (by omega), w64_of (n := a.1 * 16777216 + b.1 * 65536) (by omega), w64_of (n := a.1 * 16777216 + b.1 * 65536 + c.1 * 256) (by omega), w64_of (by omega)]
  have := tmod_lt (n := n) (a := a.1 * 16777216 + b.1 * 65536 + c.1 * 256 + d.1) (by omega) (by omega)
  exact Ens.of ⟨this.1, fun h => by omega, fun _ => this.2, d2⟩
theorem onceOk {c : L1Cur} {n : Int} (h : Cur c) : Ens (f21 c n) fun r => Cur r.2 := by
 unfold f21
 exact Ens.bind (belowOk h) fun a ha => Ens.of ha.2.2.2
theorem pickOk {c : L1Cur} {l : List Int} (h : Cur c) (hl : 0 < l.length) : Ens (f67 c l) fun r => r.1 ∈ l /\ Cur r.2 := by
 unfold f67
 refine Ens.bind (belowOk h) fun a ha => ?_
 have h1 := ha.1
 have h2 := ha.2.2.1 (by omega)
 rw [ix_of h1, zE (by omega), bS]
 exact Ens.of ⟨List.getElem_mem _, ha.2.2.2⟩
end
section
def Sigs (l : List Relation) : Prop := l.length = 4 /\ ∀ x ∈ l, x.Arity <= 3
def Tiny (m : Nat) (d : Database) : Prop := Sigs d.Relations /\ d.Facts.length <= m /\ ∀ x ∈ d.Facts, x.Values.length <= 3
theorem Tiny.fits {m : Nat} {d : Database} (h : Tiny m d) (hm : m <= 1048576) : Fits d := ⟨by have := h.1.1; omega, by have := h.2.1; omega, fun x hx => by have := h.2.2 x hx; omega⟩
theorem factOk {c : L1Cur} {l : List Relation} {v : Int} (h : Cur c) (hl : Sigs l) : Ens (f100 c l v) fun r => r.1.Values.length <= 3 /\ Cur r.2 := by
 unfold f100
 refine Ens.bind (belowOk h) fun o1 h1 => ?_
 obtain ⟨a1, _, a2, a3⟩ := h1
 have a4 := a2 (by rw [hl.1]; decide)
 have hk : o1.1.toNat < l.length := by rw [hl.1] at a4 ⊢; omega
 refine Ens.bind (Q := fun s => s.2.2.2.2.length <= 3 /\ Cur ⟨s.1, s.2.1, s.2.2.1⟩) ?_ fun s hs => Ens.of hs
 obtain ⟨o, e1, e2⟩ := iter_up (f := f100_0 l v) 3 (fun i s => Cur ⟨s.1, s.2.1, s.2.2.1⟩ /\ s.2.2.2.1 = o1.1 /\ s.2.2.2.2.length = i) (fun s => s.2.2.2.2.length <= 3 /\ Cur ⟨s.1, s.2.1, s.2.2.1⟩) (fun i s hi ⟨g1, g2, g3⟩ => by
  obtain ⟨b, j, hh, r, vs⟩ := s
  simp only at g1 g2 g3
  subst g2
  simp only [f100_0]
  rw [ix_of a1, zE hk, bS]
  by_cases hc : (vs.length : Int) < l[o1.1.toNat].Arity
  ·rw [if_pos hc]
   obtain ⟨p, hp, hq⟩ := belowOk (n := v) g1
   rw [hp, bS, app_fits (by simp; omega), bS]
   exact ⟨_, rfl, hq.2.2.2, rfl, by simp; omega⟩
  ·rw [if_neg hc]
   exact ⟨_, rfl, by simp only; omega, g1⟩) (fun s ⟨g1, g2, g3⟩ => by
  obtain ⟨b, j, hh, r, vs⟩ := s
  simp only at g1 g2 g3
  subst g2
  have := hl.2 _ (List.getElem_mem hk)
  simp only [f100_0]
  rw [ix_of a1, zE hk, bS, if_neg (by omega)]
  exact ⟨_, rfl, by simp only; omega, g1⟩) (o1.2.b, o1.2.i, o1.2.h, o1.1, []) ⟨a3, rfl, rfl⟩
 exact ⟨o, e1, e2⟩
theorem copySpec {d : Database} (hf : Fits d) : f142 d = some d := by
 unfold f142
 rw [app_fits (by have := hf.1; simp; omega), bS, List.nil_append]
 have it := iter_steps (f := f142_0 d) (fun i => (d.Relations, d.Facts.take i, (i : Int))) d.Facts.length (d.Relations, d.Facts) (fun i hi => by
  have h1 := hf.2.2 _ (List.getElem_mem hi)
  have h2 := hf.2.1
  simp only [f142_0]
  rw [if_pos (by omega), ix_nat hi, bS, app_fits (by simp; omega), bS, app_fits (by simp; omega), bS, w64_succ (by omega), take_succ' hi]
  simp) (by
  simp only [f142_0]
  rw [if_neg (by omega), List.take_of_length_le (Nat.le_refl _)])
 simp only [List.take_zero, Int.natCast_zero, Int.ofNat_zero] at it
 erw [it]
 rfl
theorem findFact {d : Database} {f : Fact} (hf : Fits d) (h : f.Values.length <= 3) : Ens (f175 d f) fun _ => True := by
 unfold f175
 refine Ens.bind (Q := fun _ => True) ?_ fun o _ => by cases o <;> exact Ens.of trivial
 refine iter_up (f := f175_0 d f) d.Facts.length (fun i s => s = (i : Int)) (fun _ => True) (fun i s hi hs => ?_) (fun s hs => ?_) 0 rfl
 ·subst hs
  have h1 := hf.2.2 _ (List.getElem_mem hi)
  have h2 := hf.2.1
  simp only [f175_0]
  rw [if_pos (by omega), ix_nat hi, bS, specCmp (by omega) (by omega), bS, w64_succ (by omega)]
  by_cases c : cmpF d.Facts[i] f = 0
  ·rw [if_pos c]; exact ⟨_, rfl, trivial⟩
  ·rw [if_neg c]; exact ⟨_, rfl, rfl⟩
 ·subst hs
  simp only [f175_0]
  rw [if_neg (by omega)]; exact ⟨_, rfl, trivial⟩
theorem insOk {m : Nat} {d : Database} {f : Fact} (hd : Tiny m d) (hm : m <= 1000) (h : f.Values.length <= 3) : Ens (f99 d f) fun r => Tiny (m + 1) r.1 := by
 have hf := hd.fits (by omega)
 have hr := fits_room hf
 have base : Tiny (m + 1) d := ⟨hd.1, by have := hd.2.1; omega, hd.2.2⟩
 unfold f99
 rw [copySpec hf, bS, specDb hr, bS]
 refine Ens.bind (Q := fun _ : Bool => True) (Ens.ite (fun _ => Ens.of trivial) fun _ => ?_) fun x _ => Ens.ite (fun _ => Ens.of base) fun _ => ?_
 ·rw [specFact hr.1 (by omega), bS]
  refine Ens.bind (Q := fun _ : Bool => True) (Ens.ite (fun _ => Ens.of trivial) fun _ => ?_) fun x _ => Ens.of trivial
  refine Ens.bind (Q := fun _ : Bool => True) ?_ fun x _ => ?_
  ·unfold f143
   rw [specDb hr, bS]
   refine Ens.bind (Q := fun _ : Bool => True) (Ens.ite (fun _ => ?_) fun _ => Ens.of trivial) fun x _ => Ens.of trivial
   exact Ens.bind (findFact hf h) fun o _ => Ens.of trivial
  ·refine Ens.bind (Q := fun _ : Bool => True) (Ens.ite (fun _ => Ens.of trivial) fun _ => Ens.of trivial) fun x _ => Ens.of trivial
 ·have h2 := hd.2.1
  obtain ⟨k, hk, k0, k1⟩ : Ens (iter (f99_0 f d) 0) fun k => 0 <= k /\ k <= d.Facts.length := by
   refine iter_up (f := f99_0 f d) d.Facts.length (fun i s => s = (i : Int)) (fun k => 0 <= k /\ k <= d.Facts.length) (fun i s hi hs => ?_) (fun s hs => ?_) 0 rfl
   ·subst hs
    have h1 := hf.2.2 _ (List.getElem_mem hi)
    simp only [f99_0]
    rw [if_pos (by omega), ix_nat hi, bS, specCmp (by omega) (by omega), bS, bS, w64_succ (by omega)]
    by_cases c : cmpF d.Facts[i] f < 0
    ·rw [if_pos (by simpa using c)]; exact ⟨_, rfl, rfl⟩
    ·rw [if_neg (by simpa using c)]; exact ⟨_, rfl, by omega, by omega⟩
   ·subst hs
    simp only [f99_0]
    rw [if_neg (by omega), bS, if_neg (by simp)]; exact ⟨_, rfl, by omega, by omega⟩
  rw [hk, bS, cutL_ok k0 k1 (by omega), bS, app_fits (by simp; omega), bS, app_fits (by simp; omega), bS, cutL_ok (by omega) k0 k1, bS, app_fits (by simp; omega), bS, app_fits (by simp; omega), bS]
  refine Ens.of ⟨hd.1, by simp; omega, fun y hy => ?_⟩
  simp only [List.nil_append, List.mem_append, List.mem_cons, List.not_mem_nil, or_false] at hy
  rcases hy with hy | hy
  ·exact hd.2.2 y (List.mem_of_mem_take (List.mem_of_mem_drop hy))
  ·rcases hy with rfl | hy
   ·simpa using h
   ·exact hd.2.2 y (List.mem_of_mem_take (List.mem_of_mem_drop hy))
end
section
theorem digit {n : Int} (h0 : 0 <= n) (h9 : n <= 9) : f180 n = some [UInt8.ofNat (48 + n.toNat)] := by
 have : n = 0 \/ n = 1 \/ n = 2 \/ n = 3 \/ n = 4 \/ n = 5 \/ n = 6 \/ n = 7 \/ n = 8 \/ n = 9 := by omega
 unfold f180
 rcases this with rfl | rfl | rfl | rfl | rfl | rfl | rfl | rfl | rfl | rfl
 ·rfl
 ·rw [if_neg (by decide), iter_of (f := f180_0) (n := 2) (r := [UInt8.ofNat (48 + 1)]) (by decide)]; rfl
 ·rw [if_neg (by decide), iter_of (f := f180_0) (n := 2) (r := [UInt8.ofNat (48 + 2)]) (by decide)]; rfl
 ·rw [if_neg (by decide), iter_of (f := f180_0) (n := 2) (r := [UInt8.ofNat (48 + 3)]) (by decide)]; rfl
 ·rw [if_neg (by decide), iter_of (f := f180_0) (n := 2) (r := [UInt8.ofNat (48 + 4)]) (by decide)]; rfl
 ·rw [if_neg (by decide), iter_of (f := f180_0) (n := 2) (r := [UInt8.ofNat (48 + 5)]) (by decide)]; rfl
 ·rw [if_neg (by decide), iter_of (f := f180_0) (n := 2) (r := [UInt8.ofNat (48 + 6)]) (by decide)]; rfl
 ·rw [if_neg (by decide), iter_of (f := f180_0) (n := 2) (r := [UInt8.ofNat (48 + 7)]) (by decide)]; rfl
 ·rw [if_neg (by decide), iter_of (f := f180_0) (n := 2) (r := [UInt8.ofNat (48 + 8)]) (by decide)]; rfl
 ·rw [if_neg (by decide), iter_of (f := f180_0) (n := 2) (r := [UInt8.ofNat (48 + 9)]) (by decide)]; rfl
def ftm (t : Int) : List UInt8 := if t < 0 then (if -10 <= t then [UInt8.ofNat (48 + (-1 - t).toNat)] else []) else (([120, 121, 122, 119] : List UInt8).drop t.toNat).take 1
theorem fterm {t : Int} (h0 : -1000 <= t) (h1 : t <= 1000) : f152 t = some (ftm t) := by
 unfold f152 f179 ftm
 by_cases c : t < 0
 ·rw [if_neg (by omega), w64_of (n := -1 - t) (by omega), specIn, bS, bS, if_pos c]
  by_cases c2 : -10 <= t
  ·rw [show btw (-1 - t) 0 9 = true by simp [btw]; omega, if_neg (by simp), bS, if_pos rfl, digit (by omega) (by omega), if_pos c2]; rfl
  ·rw [show btw (-1 - t) 0 9 = false by simp [btw]; omega, if_pos (by simp), bS, if_neg (by simp), specIn, bS, show btw t 0 3 = false by simp [btw]; omega, if_pos (by simp), if_neg c2]
 ·rw [if_pos (by omega), bS, if_pos rfl, bS, if_neg (by simp), specIn, bS, if_neg c]
  by_cases c2 : t <= 3
  ·rw [show btw t 0 3 = true by simp [btw]; omega, if_neg (by simp), w64_of (by omega), cutL_ok (by omega) (by omega) (by simp; omega), bS]
   have : t = 0 \/ t = 1 \/ t = 2 \/ t = 3 := by omega
   rcases this with rfl | rfl | rfl | rfl <;> rfl
  ·rw [show btw t 0 3 = false by simp [btw]; omega, if_pos (by simp), List.drop_of_length_le (by simp; omega)]; rfl
theorem ftm_len {t : Int} : (ftm t).length <= 1 := by
 unfold ftm
 split
 ·split <;> simp
 ·rw [List.length_take]; omega
def ptm (s : List UInt8) : Int × Bool := match (List.range 14).find? fun k => decide (ftm ((k : Nat) - 10) = s) with
 | some k => ((k : Nat) - 10, true)
 | none => (0, false)
theorem pterm {s : List UInt8} : f109 s = some (ptm s) := by
 unfold f109 ptm
 obtain ⟨o, h1, h2⟩ := iter_up (f := f109_0 s) 14 (fun i t => t = ((i : Nat) : Int) - 10 /\ ∀ j, j < i -> ftm ((j : Nat) - 10) ≠ s)
  (fun o => o = (match (List.range 14).find? fun k => decide (ftm ((k : Nat) - 10) = s) with | some k => .inr (((k : Nat) : Int) - 10, true) | none => .inl ())) (fun i t hi ⟨e, hp⟩ => by
   subst e
   simp only [f109_0]
   rw [if_pos (by omega), fterm (by omega) (by omega), bS]
   by_cases c : ftm ((i : Nat) - 10) = s
   ·rw [if_pos c]
    refine ⟨_, rfl, ?_⟩
    dsimp only
    have : (List.range 14).find? (fun k => decide (ftm ((k : Nat) - 10) = s)) = some i := by
     rw [List.find?_range_eq_some]
     exact ⟨by simpa using c, by simpa using hi, fun j hj => by simpa using hp j hj⟩
    rw [this]
   ·rw [if_neg c, w64_of (by omega)]
    refine ⟨_, rfl, by omega, fun j hj => ?_⟩
    by_cases e : j = i
    ·subst e; exact c
    ·exact hp j (by omega)) (fun t ⟨e, hp⟩ => by
   subst e
   simp only [f109_0]
   rw [if_neg (by omega)]
   refine ⟨_, rfl, ?_⟩
   have : (List.range 14).find? (fun k => decide (ftm ((k : Nat) - 10) = s)) = none := by
    rw [List.find?_eq_none]
    intro k hk
    have := hp k (List.mem_range.1 hk)
    simpa using this
   rw [this]) (-10) ⟨by simp, fun j hj => by omega⟩
 rw [h1, h2]
 cases (List.range 14).find? fun k => decide (ftm ((k : Nat) - 10) = s) <;> rfl
theorem ptm_rng {s : List UInt8} : -10 <= (ptm s).1 /\ (ptm s).1 <= 3 := by
 unfold ptm
 split
 ·rename_i k h
  have := List.mem_range.1 (List.mem_of_find?_eq_some h)
  simp only; omega
 ·simp
end
section
theorem cutOk {s : List UInt8} {sign : Int} (h : s.length <= 1000) : Ens (f108 s sign) fun r => r.length <= s.length + 1 /\ ∀ x ∈ r, x.length <= s.length := by
 unfold f108
 refine Ens.bind (Q := fun o : List (List UInt8) × Int => o.1.length <= s.length /\ (∀ x ∈ o.1, x.length <= s.length) /\ 0 <= o.2 /\ o.2 <= s.length) ?_ fun o ⟨h1, h2, h3, h4⟩ => ?_
 ·refine iter_up (f := f108_0 s sign) s.length (fun i t => t.1.length <= i /\ (∀ x ∈ t.1, x.length <= s.length) /\ 0 <= t.2.1 /\ t.2.1 <= i /\ t.2.2 = (i : Int)) _ (fun i t hi ⟨g1, g2, g3, g4, g5⟩ => ?_) (fun t ⟨g1, g2, g3, g4, g5⟩ => ?_) ([], 0, 0) ⟨by simp, by simp, by simp, by simp, rfl⟩
  ·obtain ⟨out, from_, k⟩ := t
   simp only at g1 g2 g3 g4 g5
   subst g5
   simp only [f108_0]
   rw [if_pos (by omega), ix_nat hi, bS, w64_succ (by omega)]
   by_cases c : (s[i].toNat : Int) = sign
   ·rw [if_pos c, cutL_ok g3 g4 (by omega), bS, app_fits (by simp; omega), bS]
    refine ⟨_, rfl, by simp; omega, fun x hx => ?_, by simp only; omega, by simp only; omega, rfl⟩
    rcases List.mem_append.1 hx with hx | hx
    ·exact g2 x hx
    ·rw [List.mem_singleton] at hx
     subst hx
     rw [List.length_drop, List.length_take]; omega
   ·rw [if_neg c]
    exact ⟨_, rfl, by simp only; omega, g2, g3, by simp only; omega, rfl⟩
  ·obtain ⟨out, from_, k⟩ := t
   simp only at g1 g2 g3 g4 g5
   subst g5
   simp only [f108_0]
   rw [if_neg (by omega)]
   exact ⟨_, rfl, g1, g2, g3, g4⟩
 ·obtain ⟨out, from_⟩ := o
  simp only at h1 h2 h3 h4 ⊢
  rw [cutL_ok h3 h4 (by omega), bS, app_fits (by simp; omega), bS]
  refine Ens.of ⟨by simp; omega, fun x hx => ?_⟩
  rcases List.mem_append.1 hx with hx | hx
  ·exact h2 x hx
  ·rw [List.mem_singleton] at hx
   subst hx
   rw [List.length_drop, List.length_take]; omega
theorem relIdx {l : List Relation} {s : List UInt8} (h : l.length <= 1000) : Ens (f110 l s) fun r => -1 <= r /\ r < l.length := by
 unfold f110
 refine Ens.bind (Q := fun o => match o with | .inl _ => True | .inr r => -1 <= r /\ r < l.length) ?_ fun o ho => by
  cases o with
  | inl _ => exact Ens.of ⟨by omega, by omega⟩
  | inr r => exact Ens.of ho
 refine iter_up (f := f110_0 l s) l.length (fun i t => t = (i : Int)) _ (fun i t hi e => ?_) (fun t e => ?_) 0 rfl
 ·subst e
  simp only [f110_0]
  rw [if_pos (by omega), ix_nat hi, bS, w64_succ (by omega)]
  by_cases c : l[i].Name = s
  ·rw [if_pos c]; exact ⟨_, rfl, by omega, by omega⟩
  ·rw [if_neg c]; exact ⟨_, rfl, rfl⟩
 ·subst e
  simp only [f110_0]
  rw [if_neg (by omega)]; exact ⟨_, rfl, trivial⟩
def QS (q : Query) : Prop := 1 <= q.Atoms.length /\ q.Atoms.length <= 40 /\ (∀ a ∈ q.Atoms, 1 <= a.Terms.length /\ a.Terms.length <= 40) /\ q.Free.length <= 20 /\ 0 <= q.VariableCount /\ q.VariableCount <= 20
def QM (q : Query) : Prop := q.Atoms.length <= 40 /\ (∀ a ∈ q.Atoms, a.Terms.length <= 40) /\ q.Free.length <= 40
theorem QM.fits {q : Query} (h : QM q) : FitsQ q := ⟨by have := h.1; omega, fun a ha => by have := h.2.1 a ha; omega, by have := h.2.2; omega⟩
theorem vq_qs {l : List Relation} {q : Query} (h : vQuery l q = true) : QS q := by
 have hl := vq_len h
 have hv := vq_vars h
 have h0 := h
 unfold vQuery at h0
 simp only [Bool.and_eq_true] at h0
 obtain ⟨r1, _, _, r4, _, r6⟩ := h0
 have hfree : q.Free.length <= 4 := by
  have := asc_len (n := q.VariableCount.toNat) (s := q.Free) (by
   have e : ((q.VariableCount.toNat : Nat) : Int) = q.VariableCount := by omega
   rw [e]; exact r6)
  omega
 refine ⟨hl.2, by omega, fun a ha => ?_, by omega, hv.1, by omega⟩
 obtain ⟨k, hk, rfl⟩ := List.getElem_of_mem ha
 have ht := (vq_atom h hk).1
 have h1 := List.all_eq_true.1 r4 k (List.mem_range.2 hk)
 rw [vAtom_get hk] at h1
 unfold vAt at h1
 simp only [Bool.and_eq_true] at h1
 obtain ⟨x, _, hx, hx2, _⟩ := ix_rel h1.1
 have hr := vRel_mem r1 hx
 unfold vRel at hr
 simp only [btw, Bool.and_eq_true, decide_eq_true_eq] at hr
 omega
theorem fatomOk {l : List Relation} {a : Atom} (hv : btw a.Relation 0 (l.length - 1) = true) (hl : l.length <= 1000) (hn : ∀ x ∈ l, x.Name.length <= 100) (ht : a.Terms.length <= 40 /\ ∀ t ∈ a.Terms, -1000 <= t /\ t <= 1000) : Ens (f153 l a) fun s => s.length <= 300 := by
 obtain ⟨x, h1, h2, _, _⟩ := ix_rel hv
 have hx := hn x h2
 unfold f153
 rw [h1, bS]
 refine Ens.bind (Q := fun s => s.length <= 300) ?_ fun s hs => Ens.of hs
 refine iter_up (f := f153_0 l a) a.Terms.length (fun i t => t.1.length <= 100 + 2 * i /\ t.2 = (i : Int)) _ (fun i t hi ⟨g1, g2⟩ => ?_) (fun t ⟨g1, g2⟩ => ?_) (x.Name, 0) ⟨by simp only; omega, rfl⟩
 ·obtain ⟨s, k⟩ := t
  simp only at g1 g2
  subst g2
  have hb := ht.2 _ (List.getElem_mem hi)
  have hf := ftm_len (t := a.Terms[i])
  simp only [f153_0]
  rw [if_pos (by omega), h1, bS, w64_succ (by omega)]
  obtain ⟨s2, e2, q2⟩ : Ens (if ((i : Nat) : Int) = x.KeyLength then (cat s [124]).bind fun s_11 => some s_11 else some s) fun s2 => s2.length <= s.length + 1 := by
   refine Ens.ite (fun _ => ?_) fun _ => Ens.of (by omega)
   rw [cat_ok (by simp; omega)]
   exact Ens.of (by simp)
  rw [e2, bS, ix_nat hi, bS, fterm hb.1 hb.2, bS, cat_ok (by omega), bS]
  exact ⟨_, rfl, by simp only [List.length_append]; omega, rfl⟩
 ·obtain ⟨s, k⟩ := t
  simp only at g1 g2
  subst g2
  simp only [f153_0]
  rw [if_neg (by omega)]
  exact ⟨_, rfl, by omega⟩
theorem fmtOk {l : List Relation} {q : Query} (hl : l.length <= 1000) (hn : ∀ x ∈ l, x.Name.length <= 100) (hq : QM q) : Ens (f111 l q) fun s => s ≠ [] -> vQuery l q = true := by
 unfold f111
 rw [specQ (by omega) hq.fits, bS]
 cases hv : vQuery l q
 ·rw [if_pos (by simp)]
  exact Ens.of fun h => absurd rfl h
 ·have hs := vq_qs hv
  have hv4 := vq_vars hv
  rw [if_neg (by simp)]
  have free : ∀ t ∈ q.Free, -1000 <= t /\ t <= 1000 := by
   have h0 := hv
   unfold vQuery at h0
   simp only [Bool.and_eq_true] at h0
   intro t ht
   have := (asc_of (n := q.VariableCount.toNat) (s := q.Free) (by
    have e : ((q.VariableCount.toNat : Nat) : Int) = q.VariableCount := by omega
    rw [e]; exact h0.2.2.2.2.2)).2 t ht
   omega
  have atm : ∀ a ∈ q.Atoms, btw a.Relation 0 (l.length - 1) = true /\ a.Terms.length <= 40 /\ ∀ t ∈ a.Terms, -1000 <= t /\ t <= 1000 := fun a ha => by
   obtain ⟨k, hk, rfl⟩ := List.getElem_of_mem ha
   have h0 := hv
   unfold vQuery at h0
   simp only [Bool.and_eq_true] at h0
   have h1 := List.all_eq_true.1 h0.2.2.2.1 k (List.mem_range.2 hk)
   rw [vAtom_get hk] at h1
   unfold vAt at h1
   simp only [Bool.and_eq_true] at h1
   refine ⟨h1.1, (hs.2.2.1 _ ha).2, fun t ht => ?_⟩
   have := (vq_atom hv hk).2 t ht
   omega
  have hs4 := hs.2.2.2.1
  have hs2 := hs.2.1
  refine Ens.bind (Q := fun s => s.length <= 40) ?_ fun s1 h1 => ?_
  ·refine iter_up (f := f111_0 q) q.Free.length (fun i t => t.1.length <= i /\ t.2 = (i : Int)) _ (fun i t hi ⟨g1, g2⟩ => ?_) (fun t ⟨g1, g2⟩ => ?_) ([], 0) ⟨by simp, rfl⟩
   ·obtain ⟨s, k⟩ := t
    simp only at g1 g2
    subst g2
    have hb := free _ (List.getElem_mem hi)
    have hf := ftm_len (t := q.Free[i])
    simp only [f111_0]
    rw [if_pos (by omega), ix_nat hi, bS, fterm hb.1 hb.2, bS, cat_ok (by omega), bS, w64_succ (by omega)]
    exact ⟨_, rfl, by simp only [List.length_append]; omega, rfl⟩
   ·obtain ⟨s, k⟩ := t
    simp only at g1 g2
    subst g2
    simp only [f111_0]
    rw [if_neg (by omega)]
    exact ⟨_, rfl, by omega⟩
  rw [cat_ok (by simp; omega), bS]
  refine Ens.bind (Q := fun _ => True) ?_ fun s2 _ => Ens.of fun _ => rfl
  refine iter_up (f := f111_1 l q) q.Atoms.length (fun i t => t.1.length <= 41 + 301 * i /\ t.2 = (i : Int)) _ (fun i t hi ⟨g1, g2⟩ => ?_) (fun t ⟨g1, g2⟩ => ?_) (s1 ++ [63], 0) ⟨by simp; omega, rfl⟩
  ·obtain ⟨s, k⟩ := t
   simp only at g1 g2
   subst g2
   obtain ⟨a1, a2⟩ := atm _ (List.getElem_mem hi)
   obtain ⟨z, z1, z2⟩ := fatomOk a1 hl hn a2
   simp only [f111_1]
   obtain ⟨s2, e2, q2⟩ : Ens (if ((i : Nat) : Int) > 0 then (cat s [32]).bind fun s_24 => some s_24 else some s) fun s2 => s2.length <= s.length + 1 := by
    refine Ens.ite (fun _ => ?_) fun _ => Ens.of (by omega)
    rw [cat_ok (by simp; omega)]
    exact Ens.of (by simp)
   rw [if_pos (by omega), e2, bS, ix_nat hi, bS, z1, bS, cat_ok (by omega), bS, w64_succ (by omega)]
   exact ⟨_, rfl, by simp only [List.length_append]; omega, rfl⟩
  ·obtain ⟨s, k⟩ := t
   simp only at g1 g2
   subst g2
   simp only [f111_1]
   rw [if_neg (by omega)]
   exact ⟨_, rfl, trivial⟩
end
section
theorem parseOk {l : List Relation} {s : List UInt8} (hl : l.length <= 1000) (hn : ∀ x ∈ l, x.Name.length <= 100) (hs : s.length <= 20) (h0 : s ≠ []) : Ens (f66 l s) fun r => r.2 = true -> QS r.1 := by
  unfold f66
  refine Ens.bind (cutOk (sign := 63) (show s.length <= 1000 by omega)) fun o1 ⟨c1, c2⟩ => ?_
  refine Ens.ite (fun _ => Ens.of fun h => by cases h) fun h2 => ?_
  have h2 : o1.length = 2 := by simp only [ne_eq, Classical.not_not] at h2; omega
  have w0 := c2 o1[0] (List.getElem_mem _)
  have w1 := c2 o1[1] (List.getElem_mem _)
  have i0 : ix o1 0 = some o1[0] := ix_nat (i := 0) (by omega)
  have i1 : ix o1 1 = some o1[1] := ix_nat (i := 1) (by omega)
  refine Ens.bind (Q := fun t : Int × List Atom × List Int => t.2.1 = [] /\ t.2.2.length <= 20) ?_ fun t1 ⟨a1, a2⟩ => ?_
  · refine iter_up (f := f66_0 o1) o1[0].length (fun i t => t.2.1 = [] /\ t.2.2.1.length <= i /\ t.2.2.2 = (i : Int)) _ (fun i t hi ⟨g1, g2, g3⟩ => ?_) (fun t ⟨g1, g2, g3⟩ => ?_) (0, [], [], 0) ⟨rfl, by simp, rfl⟩
    · obtain ⟨v, az, fr, k⟩ := t
      simp only at g1 g2 g3
      subst g3
      simp only [f66_0]
      rw [i0, bS, if_pos (by omega), w64_succ (by omega), cutL_ok (by omega) (by omega) (by omega), bS, pterm, bS, app_fits (by simp; omega), bS]
      exact ⟨_, rfl, g1, by simp; omega, rfl⟩
    · obtain ⟨v, az, fr, k⟩ := t
      simp only at g1 g2 g3
      subst g3
      simp only [f66_0]
      rw [i0, bS, if_neg (by omega)]
      exact ⟨_, rfl, g1, by simp only; omega⟩
  obtain ⟨v1, as1, fr1⟩ := t1
  simp only at a1 a2 ⊢
  subst a1
  rw [i1, bS]
  refine Ens.bind (cutOk (sign := 32) (show o1[1].length <= 1000 by omega)) fun o2 ⟨d1, d2⟩ => ?_
  refine Ens.bind (Q := fun t : Int × List Atom × List Int => QM ⟨t.1, t.2.1, t.2.2⟩) ?_ fun t2 b2 => ?_
  · refine iter_up (f := f66_1 l o2) o2.length (fun i t => t.2.1.length <= i /\ (∀ a ∈ t.2.1, a.Terms.length <= 20) /\ t.2.2.1.length <= 20 /\ t.2.2.2 = (i : Int)) _ (fun i t hi ⟨g1, g2, g3, g4⟩ => ?_) (fun t ⟨g1, g2, g3, g4⟩ => ?_) (v1, [], fr1, 0) ⟨by simp, by simp, a2, rfl⟩
    · obtain ⟨v, az, fr, k⟩ := t
      simp only at g1 g2 g3 g4
      subst g4
      have hw := d2 _ (List.getElem_mem hi)
      have ii : ix o2 (i : Int) = some o2[i] := ix_nat hi
      obtain ⟨u, e, u1, u2, u3⟩ : Ens (iter (f66_2 l o2 (i : Int)) (v, az, fr, 0, [], 0)) fun u => u.2.1 = az /\ u.2.2.1 = fr /\ u.2.2.2.2.length <= 20 := by
        refine iter_up (f := f66_2 l o2 (i : Int)) o2[i].length (fun j u => u.2.1 = az /\ u.2.2.1 = fr /\ u.2.2.2.2.1.length <= j /\ u.2.2.2.2.2 = (j : Int)) _ (fun j u hj ⟨k1, k2, k3, k4⟩ => ?_) (fun u ⟨k1, k2, k3, k4⟩ => ?_) (v, az, fr, 0, [], 0) ⟨rfl, rfl, by simp, rfl⟩
        · obtain ⟨v', az', fr', r, ts, m⟩ := u
          simp only at k1 k2 k3 k4
          subst k1 k2 k4
          simp only [f66_2]
          rw [ii, bS, if_pos (by omega), w64_succ (by omega)]
          obtain ⟨z, z1, z2⟩ : Ens (if ((j : Nat) : Int) = 0 then (cutL o2[i] 0 1).bind fun l_43 => (f110 l l_43).bind fun o45 => some (v', o45, ts)
              else (ix o2[i] (j : Int)).bind fun c_47 => if (c_47.toNat : Int) = 124 then some (v', r, ts)
                else (cutL o2[i] (j : Int) ((j + 1 : Nat) : Int)).bind fun l_50 => (f109 l_50).bind fun o52 => (app 8 ts ([o52.1])).bind fun l_54 => some (if w64 (o52.1 + 1) > v' then w64 (o52.1 + 1) else v', r, l_54)) fun z => z.2.2.length <= j + 1 := by
            refine Ens.ite (fun _ => ?_) fun _ => ?_
            · rw [cutL_ok (by omega) (by omega) (by omega), bS]
              exact Ens.bind (relIdx hl) fun o _ => Ens.of (by simp only; omega)
            · rw [ix_nat hj, bS]
              refine Ens.ite (fun _ => Ens.of (by simp only; omega)) fun _ => ?_
              rw [cutL_ok (by omega) (by omega) (by omega), bS, pterm, bS, app_fits (by simp; omega), bS]
              exact Ens.of (by simp; omega)
          rw [z1, bS]
          exact ⟨_, rfl, rfl, rfl, z2, rfl⟩
        · obtain ⟨v', az', fr', r, ts, m⟩ := u
          simp only at k1 k2 k3 k4
          subst k1 k2 k4
          simp only [f66_2]
          rw [ii, bS, if_neg (by omega)]
          exact ⟨_, rfl, rfl, rfl, by simp only; omega⟩
      obtain ⟨v', az', fr', r, ts⟩ := u
      simp only at u1 u2 u3
      subst u1 u2
      simp only [f66_1]
      rw [if_pos (by omega), e, bS, app_fits (by simp; omega), bS, w64_succ (by omega)]
      refine ⟨_, rfl, by simp; omega, fun a ha => ?_, g3, rfl⟩
      rcases List.mem_append.1 ha with ha | ha
      · exact g2 a ha
      · rw [List.mem_singleton] at ha
        subst ha; exact u3
    · obtain ⟨v, az, fr, k⟩ := t
      simp only at g1 g2 g3 g4
      subst g4
      simp only [f66_1]
      rw [if_neg (by omega)]
      exact ⟨_, rfl, by simp only; omega, fun a ha => by have := g2 a ha; omega, by simp only; omega⟩
  obtain ⟨v2, as2, fr2⟩ := t2
  simp only at b2 ⊢
  refine Ens.bind (fmtOk hl hn b2) fun o3 h3 => ?_
  refine Ens.ite (fun _ => Ens.of fun h => by cases h) fun he => Ens.of fun _ => ?_
  simp only [ne_eq, Classical.not_not] at he
  exact vq_qs (h3 (by rw [he]; exact h0))
end
section
def sg (a b : Int) : List Relation := [⟨[114], 2, 1⟩, ⟨[115], 2, 1⟩, ⟨[116], 2, a⟩, ⟨[117], 3, b⟩]
def q0 : Query := ⟨3, [⟨0, [0, 1]⟩, ⟨1, [1, 2]⟩], []⟩
def s0 : List UInt8 := [63, 114, 120, 124, 121, 32, 115, 121, 124, 122]
variable {a b : Int}
theorem cutA : f108 s0 63 = some [[], [114, 120, 124, 121, 32, 115, 121, 124, 122]] := by
 unfold f108
 rw [iter_of (f := f108_0 s0 63) (n := 12) (r := ([[]], 1)) (by decide)]
 rfl
theorem cutB : f108 [114, 120, 124, 121, 32, 115, 121, 124, 122] 32 = some [[114, 120, 124, 121], [115, 121, 124, 122]] := by
 unfold f108
 rw [iter_of (f := f108_0 [114, 120, 124, 121, 32, 115, 121, 124, 122] 32) (n := 12) (r := ([[114, 120, 124, 121]], 5)) (by decide)]
 rfl
theorem ri0 : f110 (sg a b) [114] = some 0 := by
 unfold f110
 rw [iter_of (f := f110_0 (sg a b) [114]) (n := 3) (r := .inr 0) (by rfl)]
 rfl
theorem ri1 : f110 (sg a b) [115] = some 1 := by
 unfold f110
 rw [iter_of (f := f110_0 (sg a b) [115]) (n := 3) (r := .inr 1) (by rfl)]
 rfl
section
variable {l : List Relation} {o : List (List UInt8)} {i : Nat} {w : List UInt8} {v : Int} {az : List Atom} {fr ts : List Int} {r : Int} {j : Nat}
theorem stp0 (hw : ix o (i : Int) = some w) (hj : 0 < w.length) {x : Int} (hx : f110 l (w.take 1) = some x) : f66_2 l o (i : Int) (v, az, fr, r, ts, 0) = some (.inl (v, az, fr, x, ts, 1)) := by
 simp only [f66_2]
 rw [hw, bS, if_pos (by omega), if_pos trivial, cutL_ok (by omega) (by omega) (by omega), bS]
 have : (w.take (1 : Int).toNat).drop (0 : Int).toNat = w.take 1 := by simp
 rw [this, hx]; rfl
theorem stpB (hw : ix o (i : Int) = some w) (hj : j < w.length) (h0 : j ≠ 0) (hc : w[j] = 124) (hl : j < 1000) : f66_2 l o (i : Int) (v, az, fr, r, ts, (j : Int)) = some (.inl (v, az, fr, r, ts, ((j + 1 : Nat) : Int))) := by
 simp only [f66_2]
 rw [hw, bS, if_pos (by omega), if_neg (by omega), ix_nat hj, bS, hc, if_pos (by decide), w64_succ (by omega)]; rfl
theorem stpT (hw : ix o (i : Int) = some w) (hj : j < w.length) (h0 : j ≠ 0) (hc : (w[j].toNat : Int) ≠ 124) (hl : j < 1000) (ht : ts.length < 1000) : f66_2 l o (i : Int) (v, az, fr, r, ts, (j : Int)) = some (.inl (if (ptm [w[j]]).1 + 1 > v then (ptm [w[j]]).1 + 1 else v, az, fr, r, ts ++ [(ptm [w[j]]).1], ((j + 1 : Nat) : Int))) := by
 have hr := ptm_rng (s := [w[j]])
 simp only [f66_2]
 rw [hw, bS, if_pos (by omega), if_neg (by omega), ix_nat hj, bS, if_neg hc, w64_succ (by omega), cutL_ok (by omega) (by omega) (by omega), bS]
 have : (w.take ((j + 1 : Nat) : Int).toNat).drop ((j : Nat) : Int).toNat = [w[j]] := by
  simp only [Int.toNat_natCast]
  rw [List.drop_take, show j + 1 - j = 1 by omega, List.drop_eq_getElem_cons hj]; rfl
 rw [this, pterm, bS, app_fits (by simp; omega), bS, w64_of (by omega)]; rfl
theorem stpE (hw : ix o (i : Int) = some w) : f66_2 l o (i : Int) (v, az, fr, r, ts, (w.length : Int)) = some (.inr (v, az, fr, r, ts)) := by
 simp only [f66_2]
 rw [hw, bS, if_neg (by omega)]
end
theorem wordA {az : List Atom} : iter (f66_2 (sg a b) [[114, 120, 124, 121], [115, 121, 124, 122]] 0) (0, az, [], 0, [], 0) = some (2, az, [], 0, [0, 1]) := by
 have hw : ix [[114, 120, 124, 121], [115, 121, 124, (122 : UInt8)]] ((0 : Nat) : Int) = some [114, 120, 124, 121] := rfl
 have e1 := stp0 (l := sg a b) (v := 0) (az := az) (fr := []) (r := 0) (ts := []) hw (by decide) ri0
 have e2 := stpT (l := sg a b) (v := 0) (az := az) (fr := []) (r := 0) (ts := []) (j := 1) hw (by decide) (by decide) (by decide) (by decide) (by decide)
 have e3 := stpB (l := sg a b) (v := 1) (az := az) (fr := []) (r := 0) (ts := [0]) (j := 2) hw (by decide) (by decide) (by decide) (by decide)
 have e4 := stpT (l := sg a b) (v := 1) (az := az) (fr := []) (r := 0) (ts := [0]) (j := 3) hw (by decide) (by decide) (by decide) (by decide) (by decide)
 have e5 := stpE (l := sg a b) (v := 2) (az := az) (fr := []) (r := 0) (ts := [0, 1]) hw
 rw [iter_eq]; erw [e1]; dsimp only
 rw [iter_eq]; erw [e2]; dsimp only
 rw [iter_eq]; erw [e3]; dsimp only
 rw [iter_eq]; erw [e4]; dsimp only
 rw [iter_eq]; erw [e5]
theorem wordB {az : List Atom} : iter (f66_2 (sg a b) [[114, 120, 124, 121], [115, 121, 124, 122]] 1) (2, az, [], 0, [], 0) = some (3, az, [], 1, [1, 2]) := by
 have hw : ix [[114, 120, 124, 121], [115, 121, 124, (122 : UInt8)]] ((1 : Nat) : Int) = some [115, 121, 124, 122] := rfl
 have e1 := stp0 (l := sg a b) (v := 2) (az := az) (fr := []) (r := 0) (ts := []) hw (by decide) ri1
 have e2 := stpT (l := sg a b) (v := 2) (az := az) (fr := []) (r := 1) (ts := []) (j := 1) hw (by decide) (by decide) (by decide) (by decide) (by decide)
 have e3 := stpB (l := sg a b) (v := 2) (az := az) (fr := []) (r := 1) (ts := [1]) (j := 2) hw (by decide) (by decide) (by decide) (by decide)
 have e4 := stpT (l := sg a b) (v := 2) (az := az) (fr := []) (r := 1) (ts := [1]) (j := 3) hw (by decide) (by decide) (by decide) (by decide) (by decide)
 have e5 := stpE (l := sg a b) (v := 3) (az := az) (fr := []) (r := 1) (ts := [1, 2]) hw
 rw [iter_eq]; erw [e1]; dsimp only
 rw [iter_eq]; erw [e2]; dsimp only
 rw [iter_eq]; erw [e3]; dsimp only
 rw [iter_eq]; erw [e4]; dsimp only
 rw [iter_eq]; erw [e5]
theorem q0_v (ha : a = 0 \/ a = 1 \/ a = 2) (hb : b = 1 \/ b = 2) : vQuery (sg a b) q0 = true := by
 rcases ha with rfl | rfl | rfl <;> rcases hb with rfl | rfl <;> decide
end
section
variable {a b : Int}
theorem stpA {l : List Relation} {at_ : Atom} {i : Nat} {x : Relation} {s : List UInt8} (hi : i < at_.Terms.length) (hx : ix l at_.Relation = some x) (ht : -1000 <= at_.Terms[i] /\ at_.Terms[i] <= 1000) (hs : s.length <= 300) (hil : i < 1000) :
  f153_0 l at_ (s, (i : Int)) = some (.inl ((if (i : Int) = x.KeyLength then s ++ [124] else s) ++ ftm at_.Terms[i], ((i + 1 : Nat) : Int))) := by
 have hf := ftm_len (t := at_.Terms[i])
 simp only [f153_0]
 rw [if_pos (by omega), hx, bS, w64_succ (by omega), ix_nat hi]
 by_cases c : (i : Int) = x.KeyLength
 ·rw [if_pos c, if_pos c, cat_ok (by simp; omega), bS, bS, bS, fterm ht.1 ht.2, bS, cat_ok (by simp; omega)]; rfl
 ·rw [if_neg c, if_neg c, bS, bS, fterm ht.1 ht.2, bS, cat_ok (by omega)]; rfl
theorem atomA : f153 (sg a b) ⟨0, [0, 1]⟩ = some [114, 120, 124, 121] := by
 unfold f153
 have hx : ix (sg a b) 0 = some ⟨[114], 2, 1⟩ := rfl
 have e1 := stpA (l := sg a b) (at_ := ⟨0, [0, 1]⟩) (i := 0) (s := [114]) (by decide) hx (by decide) (by decide) (by decide)
 have e2 := stpA (l := sg a b) (at_ := ⟨0, [0, 1]⟩) (i := 1) (s := [114, 120]) (by decide) hx (by decide) (by decide) (by decide)
 have e3 : f153_0 (sg a b) ⟨0, [0, 1]⟩ ([114, 120, 124, 121], 2) = some (.inr [114, 120, 124, 121]) := rfl
 have it : iter (f153_0 (sg a b) ⟨0, [0, 1]⟩) ([114], 0) = some [114, 120, 124, 121] := by
  rw [iter_eq]; erw [e1]; dsimp only
  rw [iter_eq]; erw [e2]; dsimp only
  rw [iter_eq]; erw [e3]
 show ((ix (sg a b) 0).bind fun v => (iter (f153_0 (sg a b) ⟨0, [0, 1]⟩) (v.Name, 0)).bind fun s => some s) = _
 rw [hx, bS, it]; rfl
theorem atomB : f153 (sg a b) ⟨1, [1, 2]⟩ = some [115, 121, 124, 122] := by
 unfold f153
 have hx : ix (sg a b) 1 = some ⟨[115], 2, 1⟩ := rfl
 have e1 := stpA (l := sg a b) (at_ := ⟨1, [1, 2]⟩) (i := 0) (s := [115]) (by decide) hx (by decide) (by decide) (by decide)
 have e2 := stpA (l := sg a b) (at_ := ⟨1, [1, 2]⟩) (i := 1) (s := [115, 121]) (by decide) hx (by decide) (by decide) (by decide)
 have e3 : f153_0 (sg a b) ⟨1, [1, 2]⟩ ([115, 121, 124, 122], 2) = some (.inr [115, 121, 124, 122]) := rfl
 have it : iter (f153_0 (sg a b) ⟨1, [1, 2]⟩) ([115], 0) = some [115, 121, 124, 122] := by
  rw [iter_eq]; erw [e1]; dsimp only
  rw [iter_eq]; erw [e2]; dsimp only
  rw [iter_eq]; erw [e3]
 show ((ix (sg a b) 1).bind fun v => (iter (f153_0 (sg a b) ⟨1, [1, 2]⟩) (v.Name, 0)).bind fun s => some s) = _
 rw [hx, bS, it]; rfl
theorem fmtQ0 (ha : a = 0 \/ a = 1 \/ a = 2) (hb : b = 1 \/ b = 2) : f111 (sg a b) q0 = some s0 := by
 unfold f111
 rw [specQ (by simp [sg]) (QM.fits ⟨by simp [q0], by simp [q0], by simp [q0]⟩), q0_v ha hb, bS, if_neg (by simp)]
 rw [iter_of (f := f111_0 q0) (n := 1) (r := []) (by rfl), bS, cat_ok (by decide), bS]
 have e1 : f111_1 (sg a b) q0 ([63], 0) = some (.inl ([63, 114, 120, 124, 121], 1)) := by
  show ((Option.bind (some [63]) fun s_26 => (ix q0.Atoms 0).bind fun v_27 => (f153 (sg a b) v_27).bind fun o29 => (cat s_26 o29).bind fun s_31 => some (Sum.inl (s_31, w64 (0 + 1))))) = _
  show ((f153 (sg a b) ⟨0, [0, 1]⟩).bind fun o29 => (cat [63] o29).bind fun s_31 => some (Sum.inl (s_31, w64 (0 + 1)))) = _
  rw [atomA]; rfl
 have e2 : f111_1 (sg a b) q0 ([63, 114, 120, 124, 121], 1) = some (.inl (s0, 2)) := by
  show ((f153 (sg a b) ⟨1, [1, 2]⟩).bind fun o29 => (cat [63, 114, 120, 124, 121, 32] o29).bind fun s_31 => some (Sum.inl (s_31, w64 (1 + 1)))) = _
  rw [atomB]; rfl
 have e3 : f111_1 (sg a b) q0 (s0, 2) = some (.inr s0) := rfl
 have it : iter (f111_1 (sg a b) q0) ([63], 0) = some s0 := by
  rw [iter_eq, e1]; dsimp only
  rw [iter_eq, e2]; dsimp only
  rw [iter_eq, e3]
 erw [it]; rfl
theorem parseQ0 (ha : a = 0 \/ a = 1 \/ a = 2) (hb : b = 1 \/ b = 2) : f66 (sg a b) s0 = some (q0, true) := by
 unfold f66
 rw [cutA, bS, if_neg (by decide)]
 rw [iter_of (f := f66_0 [[], [114, 120, 124, 121, 32, 115, 121, 124, 122]]) (n := 1) (r := (0, [], [])) (by rfl), bS]
 dsimp only
 rw [show ix [[], [114, 120, 124, 121, 32, 115, 121, 124, (122 : UInt8)]] 1 = some [114, 120, 124, 121, 32, 115, 121, 124, 122] from rfl, bS, cutB, bS]
 have e1 : f66_1 (sg a b) [[114, 120, 124, 121], [115, 121, 124, 122]] (0, [], [], 0) = some (.inl (2, [⟨0, [0, 1]⟩], [], 1)) := by
  show ((iter (f66_2 (sg a b) [[114, 120, 124, 121], [115, 121, 124, 122]] 0) (0, [], [], 0, [], 0)).bind fun (q_61, q_62, q_63, a_64, a_65) => (app 32 q_62 ([({ Relation := a_64, Terms := a_65 } : Atom)])).bind fun l_66 => some (Sum.inl (q_61, l_66, q_63, w64 (0 + 1)))) = _
  rw [wordA]; rfl
 have e2 : f66_1 (sg a b) [[114, 120, 124, 121], [115, 121, 124, 122]] (2, [⟨0, [0, 1]⟩], [], 1) = some (.inl (3, q0.Atoms, [], 2)) := by
  show ((iter (f66_2 (sg a b) [[114, 120, 124, 121], [115, 121, 124, 122]] 1) (2, [⟨0, [0, 1]⟩], [], 0, [], 0)).bind fun (q_61, q_62, q_63, a_64, a_65) => (app 32 q_62 ([({ Relation := a_64, Terms := a_65 } : Atom)])).bind fun l_66 => some (Sum.inl (q_61, l_66, q_63, w64 (1 + 1)))) = _
  rw [wordB]; rfl
 have e3 : f66_1 (sg a b) [[114, 120, 124, 121], [115, 121, 124, 122]] (3, q0.Atoms, [], 2) = some (.inr (3, q0.Atoms, [])) := rfl
 have it : iter (f66_1 (sg a b) [[114, 120, 124, 121], [115, 121, 124, 122]]) (0, [], [], 0) = some (3, q0.Atoms, []) := by
  rw [iter_eq, e1]; dsimp only
  rw [iter_eq, e2]; dsimp only
  rw [iter_eq, e3]
 rw [it, bS]
 show (f111 (sg a b) q0).bind _ = _
 rw [fmtQ0 ha hb, bS, if_neg (by simp)]; rfl
end
section
theorem copyQ {q : Query} (h : QM q) : f105 q = some q := by
 unfold f105
 have h1 := h.1
 have h3 := h.2.2
 rw [app_fits (by simp; omega), bS, List.nil_append]
 have it := iter_steps (f := f105_0 q) (fun i => (q.VariableCount, q.Atoms.take i, q.Free, (i : Int))) q.Atoms.length (q.VariableCount, q.Atoms, q.Free) (fun i hi => by
  have h2 := h.2.1 _ (List.getElem_mem hi)
  simp only [f105_0]
  rw [if_pos (by omega), ix_nat hi, bS, app_fits (by simp; omega), bS, app_fits (by simp; omega), bS, w64_succ (by omega), take_succ' hi]
  simp) (by
  simp only [f105_0]
  rw [if_neg (by omega), List.take_of_length_le (Nat.le_refl _)])
 simp only [List.take_zero, Int.natCast_zero, Int.ofNat_zero] at it
 erw [it]
 rfl
theorem onceB {c : L1Cur} {n : Int} (h : Cur c) : Ens (f21 c n) fun r => Cur r.2 := onceOk h
def lens (l : List Atom) : List Nat := l.map (·.Terms.length)
theorem lens_set {l : List Atom} {i : Nat} {x : Atom} (hi : i < l.length) (h : x.Terms.length = l[i].Terms.length) : lens (l.set i x) = lens l := by
 unfold lens
 rw [List.map_set]
 apply List.ext_getElem
 ·simp
 ·intro j h1 h2
  rw [List.getElem_set]
  split
  ·rename_i e; subst e; simp [h]
  ·rfl
theorem lens_get {l m : List Atom} (h : lens l = lens m) {i : Nat} (hi : i < m.length) : ∃ hl : i < l.length, l[i].Terms.length = m[i].Terms.length := by
 have hl : l.length = m.length := by have := congrArg List.length h; simpa [lens] using this
 refine ⟨by omega, ?_⟩
 have := congrArg (fun z => z[i]?) h
 simp only [lens, List.getElem?_map] at this
 rw [zE (by omega), zE hi] at this
 exact Option.some.inj this
theorem seek {name : List Int} {v : Int} (h : name.length <= 2000) : Ens (iter (f144_2 name v) (-1, 0)) fun r => -1 <= r /\ r < name.length := by
 refine iter_up (f := f144_2 name v) name.length (fun i s => -1 <= s.1 /\ s.1 < name.length /\ s.2 = (i : Int)) _ (fun i s hi ⟨g1, g2, g3⟩ => ?_) (fun s ⟨g1, g2, g3⟩ => ?_) (-1, 0) ⟨by simp, by simp only; omega, rfl⟩
 ·obtain ⟨x, k⟩ := s
  simp only at g1 g2 g3
  subst g3
  simp only [f144_2]
  rw [if_pos (by omega), ix_nat hi, bS, w64_succ (by omega)]
  by_cases c : name[i] = v
  ·rw [if_pos c, bS]; exact ⟨_, rfl, by simp only; omega, by simp only; omega, rfl⟩
  ·rw [if_neg c, bS]; exact ⟨_, rfl, g1, g2, rfl⟩
 ·obtain ⟨x, k⟩ := s
  simp only at g1 g2 g3
  subst g3
  simp only [f144_2]
  rw [if_neg (by omega)]; exact ⟨_, rfl, g1, g2⟩
theorem tightOk {q : Query} (h : q.Atoms.length <= 3) (ht : ∀ a ∈ q.Atoms, a.Terms.length <= 3) (hfr : q.Free.length <= 20) : Ens (f144 q) fun r => lens r.Atoms = lens q.Atoms /\ r.Free = q.Free /\ 0 <= r.VariableCount /\ r.VariableCount <= 20 := by
 unfold f144
 rw [copyQ ⟨by omega, fun a ha => by have := ht a ha; omega, by omega⟩, bS]
 refine Ens.bind (Q := fun s : Int × List Atom × List Int × List Int => lens s.2.1 = lens q.Atoms /\ s.2.2.1 = q.Free /\ s.2.2.2.length <= 20) ?_ fun s hs => ?_
 ·refine iter_up (f := f144_0) q.Atoms.length (fun i s => lens s.2.1 = lens q.Atoms /\ s.2.2.1 = q.Free /\ s.2.2.2.1.length <= 3 * i /\ s.2.2.2.2 = (i : Int)) _ (fun i s hi ⟨g1, g2, g3, g4⟩ => ?_) (fun s ⟨g1, g2, g3, g4⟩ => ?_) (q.VariableCount, q.Atoms, q.Free, [], 0) ⟨rfl, rfl, by simp, rfl⟩
  ·obtain ⟨v, xs, fr, nm, k⟩ := s
   simp only at g1 g2 g3 g4
   subst g4
   have hq3 := ht _ (List.getElem_mem hi)
   have hxl : xs.length = q.Atoms.length := by have := congrArg List.length g1; simpa [lens] using this
   obtain ⟨u, e, u1, u2, u3⟩ : Ens (iter (f144_1 (i : Int)) (v, xs, fr, nm, 0)) fun u => lens u.2.1 = lens q.Atoms /\ u.2.2.1 = q.Free /\ u.2.2.2.length <= nm.length + 3 := by
    refine iter_up (f := f144_1 (i : Int)) q.Atoms[i].Terms.length (fun j u => lens u.2.1 = lens q.Atoms /\ u.2.2.1 = q.Free /\ u.2.2.2.1.length <= nm.length + j /\ u.2.2.2.2 = (j : Int)) _ (fun j u hj ⟨k1, k2, k3, k4⟩ => ?_) (fun u ⟨k1, k2, k3, k4⟩ => ?_) (v, xs, fr, nm, 0) ⟨g1, g2, by simp, rfl⟩
    ·obtain ⟨v', xs', fr', nm', m⟩ := u
     simp only at k1 k2 k3 k4
     subst k4
     obtain ⟨hl1, hl2⟩ := lens_get k1 hi
     simp only [f144_1]
     rw [ix_nat hl1, bS, if_pos (by omega), ix_nat (by omega), w64_succ (by omega)]
     simp only [bS]
     by_cases c : xs'[i].Terms[j] < 0
     ·rw [if_pos c, bS]
      exact ⟨_, rfl, k1, k2, by simp only; omega, rfl⟩
     ·obtain ⟨z, z1, z2, z3⟩ := seek (name := nm') (v := xs'[i].Terms[j]) (by omega)
      rw [if_neg c, z1, bS]
      obtain ⟨y, y1, y2⟩ : Ens (if z < 0 then (app 8 nm' ([xs'[i].Terms[j]])).bind fun l_37 => some (l_37, (nm'.length : Int)) else some (nm', z)) fun y => y.1.length <= nm'.length + 1 := by
       refine Ens.ite (fun _ => ?_) fun _ => Ens.of (by simp only; omega)
       rw [app_fits (by simp; omega), bS]
       exact Ens.of (by simp)
      rw [y1, bS, bS]
      refine ⟨_, rfl, ?_, k2, by simp only; omega, rfl⟩
      simp only [Int.toNat_natCast]
      rw [lens_set hl1 (by simp)]; exact k1
    ·obtain ⟨v', xs', fr', nm', m⟩ := u
     simp only at k1 k2 k3 k4
     subst k4
     obtain ⟨hl1, hl2⟩ := lens_get k1 hi
     simp only [f144_1]
     rw [ix_nat hl1, bS, if_neg (by omega)]
     exact ⟨_, rfl, k1, k2, by simp only; omega⟩
   obtain ⟨uv, uxs, ufr, unm⟩ := u
   simp only at u1 u2 u3
   simp only [f144_0]
   rw [if_pos (by omega), e, bS, w64_succ (by omega)]
   exact ⟨_, rfl, u1, u2, by simp only; omega, rfl⟩
  ·obtain ⟨v, xs, fr, nm, k⟩ := s
   simp only at g1 g2 g3 g4
   subst g4
   have hxl : xs.length = q.Atoms.length := by have := congrArg List.length g1; simpa [lens] using this
   simp only [f144_0]
   rw [if_neg (by omega)]
   exact ⟨_, rfl, g1, g2, by simp only; omega⟩
 ·obtain ⟨v, xs, fr, nm⟩ := s
  simp only at hs ⊢
  exact Ens.of ⟨hs.1, hs.2.1, by simp only; omega, by simp only; omega⟩
theorem queryOk {c : L1Cur} (h : Cur c) : Ens (f102 c) fun r => QS r.1 /\ Cur r.2 := by
  unfold f102
  refine Ens.bind (belowOk h) fun o1 h1 => ?_
  refine Ens.bind (belowOk h1.2.2.2) fun o3 h3 => ?_
  refine Ens.bind (belowOk h3.2.2.2) fun o5 h5 => ?_
  have a1 := h1.2.2.1 (by decide)
  have a5 := h5.2.2.1 (by decide)
  have a10 := h1.1
  have a50 := h5.1
  obtain ⟨n, hn⟩ : ∃ n : Nat, 1 + o1.1 = n := ⟨(1 + o1.1).toNat, by omega⟩
  refine Ens.bind (Q := fun s : List Int × Int × Int × Int × List Atom × List Int => Cur ⟨s.1, s.2.1, s.2.2.1⟩ /\ s.2.2.2.2.1.length = n /\ (∀ a ∈ s.2.2.2.2.1, 2 <= a.Terms.length /\ a.Terms.length <= 3) /\ s.2.2.2.2.2 = []) ?_ fun s hs => ?_
  · refine iter_up (f := f102_0 o1 o3 o5) n (fun i s => Cur ⟨s.1, s.2.1, s.2.2.1⟩ /\ s.2.2.2.2.1.length = i /\ (∀ a ∈ s.2.2.2.2.1, 2 <= a.Terms.length /\ a.Terms.length <= 3) /\ s.2.2.2.2.2.1 = [] /\ s.2.2.2.2.2.2 = (i : Int)) _ (fun i s hi ⟨g1, g2, g3, g4, g5⟩ => ?_) (fun s ⟨g1, g2, g3, g4, g5⟩ => ?_) (o5.2.b, o5.2.i, o5.2.h, 0, [], [], 0) ⟨h5.2.2.2, rfl, by simp, rfl, rfl⟩
    · obtain ⟨cb, ci, ch, v, az, fr, k⟩ := s
      simp only at g1 g2 g3 g4 g5
      subst g4 g5
      have hr : 0 <= (o5.1 + (i : Int)).tmod 4 /\ (o5.1 + (i : Int)).tmod 4 < 4 := tmod_lt (by omega) (by decide)
      have hm : 0 <= ((o5.1 + (i : Int)).tmod 4).tdiv 3 /\ ((o5.1 + (i : Int)).tmod 4).tdiv 3 <= 1 := by
        rw [Int.tdiv_eq_ediv_of_nonneg hr.1]; omega
      obtain ⟨p, hp⟩ : ∃ p : Nat, 2 + ((o5.1 + (i : Int)).tmod 4).tdiv 3 = p := ⟨(2 + ((o5.1 + (i : Int)).tmod 4).tdiv 3).toNat, by omega⟩
      simp only [f102_0]
      rw [w64_of (n := 1 + o1.1) (by omega), if_pos (by omega), w64_of (n := o5.1 + (i : Int)) (by omega), w64_of (n := ((o5.1 + (i : Int)).tmod 4).tdiv 3) (by omega), w64_of (n := 2 + ((o5.1 + (i : Int)).tmod 4).tdiv 3) (by omega), hp]
      obtain ⟨u, e, u1, u2⟩ : Ens (iter (f102_1 o3) (cb, ci, ch, (o5.1 + (i : Int)).tmod 4, [], (p : Int))) fun u => Cur ⟨u.1, u.2.1, u.2.2.1⟩ /\ u.2.2.2.2.length = p := by
        refine iter_up (f := f102_1 o3) p (fun j u => Cur ⟨u.1, u.2.1, u.2.2.1⟩ /\ u.2.2.2.2.1.length = j /\ u.2.2.2.2.2 = ((p - j : Nat) : Int)) _ (fun j u hj ⟨k1, k2, k3⟩ => ?_) (fun u ⟨k1, k2, k3⟩ => ?_) _ ⟨g1, rfl, rfl⟩
        · obtain ⟨b, x, y, r, ts, m⟩ := u
          simp only at k1 k2 k3
          subst k3
          simp only [f102_1]
          rw [if_pos (by omega)]
          obtain ⟨z, z1, z2⟩ := onceB (n := 12) k1
          rw [z1, bS]
          obtain ⟨t, t1, t2, t3⟩ : Ens (if z.1 = true then (f20 z.2 2).bind fun o27 => (app 8 ts ([w64 ((-1) - o27.1)])).bind fun l_29 => some (o27.2.b, o27.2.i, o27.2.h, l_29)
              else (f20 z.2 (w64 (1 + o3.1))).bind fun o31 => (app 8 ts ([o31.1])).bind fun l_33 => some (o31.2.b, o31.2.i, o31.2.h, l_33)) fun t => Cur ⟨t.1, t.2.1, t.2.2.1⟩ /\ t.2.2.2.length = j + 1 := by
            refine Ens.ite (fun _ => ?_) fun _ => ?_
            · refine Ens.bind (belowOk z2) fun o ho => ?_
              rw [app_fits (by simp; omega), bS]
              exact Ens.of ⟨ho.2.2.2, by simp; omega⟩
            · refine Ens.bind (belowOk z2) fun o ho => ?_
              rw [app_fits (by simp; omega), bS]
              exact Ens.of ⟨ho.2.2.2, by simp; omega⟩
          rw [t1, bS, w64_of (by omega)]
          exact ⟨_, rfl, t2, t3, by simp only; omega⟩
        · obtain ⟨b, x, y, r, ts, m⟩ := u
          simp only at k1 k2 k3
          subst k3
          simp only [f102_1]
          rw [if_neg (by omega)]
          exact ⟨_, rfl, k1, k2⟩
      obtain ⟨b, x, y, r, ts⟩ := u
      simp only at u1 u2
      rw [e, bS, app_fits (by simp; omega), bS, w64_succ (by omega)]
      refine ⟨_, rfl, u1, by simp; omega, fun a ha => ?_, rfl, rfl⟩
      rcases List.mem_append.1 ha with ha | ha
      · exact g3 a ha
      · rw [List.mem_singleton] at ha
        subst ha
        simp only; omega
    · obtain ⟨cb, ci, ch, v, az, fr, k⟩ := s
      simp only at g1 g2 g3 g4 g5
      subst g4 g5
      simp only [f102_0]
      rw [w64_of (n := 1 + o1.1) (by omega), if_neg (by omega)]
      exact ⟨_, rfl, g1, g2, g3, rfl⟩
  · obtain ⟨cb, ci, ch, v, az, fr⟩ := s
    simp only at hs ⊢
    obtain ⟨s1, s2, s3, s4⟩ := hs
    subst s4
    refine Ens.bind (tightOk (q := ⟨v, az, []⟩) (by simp only; omega) (fun a ha => (s3 a ha).2) (by simp)) fun r ⟨r1, r2, r3, r4⟩ => Ens.of ⟨?_, s1⟩
    show QS r
    have hrl : r.Atoms.length = az.length := by have := congrArg List.length r1; simpa [lens] using this
    refine ⟨by omega, by omega, fun a ha => ?_, by rw [r2]; simp, r3, r4⟩
    obtain ⟨k, hk, rfl⟩ := List.getElem_of_mem ha
    obtain ⟨hl1, hl2⟩ := lens_get (l := r.Atoms) (m := az) r1 (i := k) (by omega)
    have := s3 az[k] (List.getElem_mem _)
    omega
end
section
def SigsG (l : List Relation) : Prop := ∃ a b : Int, l = sg a b /\ (a = 0 \/ a = 1 \/ a = 2) /\ (b = 1 \/ b = 2)
theorem SigsG.small {l : List Relation} (h : SigsG l) : l.length = 4 /\ ∀ x ∈ l, x.Name.length <= 100 := by
 obtain ⟨a, b, rfl, _⟩ := h
 refine ⟨rfl, fun x hx => ?_⟩
 simp only [sg, List.mem_cons, List.not_mem_nil, or_false] at hx
 rcases hx with rfl | rfl | rfl | rfl <;> simp
theorem sigsG {c : L1Cur} (h : Cur c) : Ens (f23 c) fun r => SigsG r.1 /\ Cur r.2 := by
 unfold f23
 refine Ens.bind (pickOk h (by simp)) fun o1 h1 => ?_
 refine Ens.bind (belowOk h1.2) fun o2 h2 => ?_
 have h3 := h2.2.2.1 (by decide)
 have h4 := h2.1
 refine Ens.of ⟨⟨o1.1, 1 + o2.1, ?_, ?_, by omega⟩, h2.2.2.2⟩
 ·rw [w64_of (by omega)]; rfl
 ·have := h1.1
  simp only [List.mem_cons, List.not_mem_nil, or_false] at this
  omega
theorem q0_qs : QS q0 := by
 refine ⟨by decide, by decide, fun a ha => ?_, by decide, by decide, by decide⟩
 simp only [q0, List.mem_cons, List.not_mem_nil, or_false] at ha
 rcases ha with rfl | rfl <;> decide
theorem knownOk {c : L1Cur} {l : List Relation} (h : Cur c) (hl : SigsG l) : Ens (f103 c l) fun r => QS r.1 /\ Cur r.2 := by
 unfold f103
 refine Ens.bind (Q := fun r : List UInt8 × L1Cur => (r.1.length <= 20 /\ r.1 ≠ []) /\ Cur r.2) ?_ fun o1 h1 => ?_
 ·unfold f101
  refine Ens.bind (belowOk h) fun o ho => ?_
  have a1 := ho.1
  have a2 := ho.2.2.1 (by decide)
  rw [ix_of a1, zE (by omega), bS]
  refine Ens.of ⟨?_, ho.2.2.2⟩
  have all : ∀ x ∈ ([[63, 114, 120, 124, 121, 32, 115, 121, 124, 122], [63, 114, 120, 124, 121, 32, 115, 121, 124, 120], [63, 114, 120, 124, 121, 32, 115, 122, 124, 121], [63, 114, 120, 124, 121, 32, 115, 120, 124, 122], [63, 114, 120, 124, 49], [63, 114, 120, 124, 120], [63, 114, 120, 124, 121, 32, 115, 121, 124, 49], [63, 114, 120, 124, 121, 32, 115, 121, 124, 122, 32, 114], [63, 114, 120, 124, 121], [63, 114, 120, 124, 122, 32, 115, 121, 124, 122]] : List (List UInt8)), x.length <= 20 /\ x ≠ [] := by decide
  exact all _ (List.getElem_mem _)
 obtain ⟨m1, m2⟩ := hl.small
 refine Ens.bind (parseOk (by omega) m2 h1.1.1 h1.1.2) fun o3 h3 => ?_
 refine Ens.bind (Q := fun r : Int × List Atom × List Int => QS ⟨r.1, r.2.1, r.2.2⟩) (Ens.ite (fun _ => ?_) fun hc => ?_) fun r hr => Ens.of ⟨hr, h1.2⟩
 ·obtain ⟨a, b, rfl, ha, hb⟩ := hl
  have := parseQ0 (a := a) (b := b) ha hb
  unfold s0 at this
  rw [this, bS]
  exact Ens.of q0_qs
 ·exact Ens.of (h3 (by simpa using hc))
def QB (q : Query) : Prop := q.Atoms.length <= 100 /\ (∀ a ∈ q.Atoms, a.Terms.length <= 100) /\ q.Free.length <= 100
theorem QB.fits {q : Query} (h : QB q) : FitsQ q := ⟨by have := h.1; omega, fun a ha => by have := h.2.1 a ha; omega, by have := h.2.2; omega⟩
theorem drawQ {c : L1Cur} {l : List Relation} (h : Cur c) (hl : SigsG l) : Ens (f64 c l) fun r => (1 <= r.1.Atoms.length /\ r.1.Atoms.length <= 40 /\ (∀ a ∈ r.1.Atoms, 1 <= a.Terms.length /\ a.Terms.length <= 40) /\ r.1.Free.length <= 40) /\ Cur r.2 := by
 unfold f64
 refine Ens.bind (queryOk h) fun o1 h1 => ?_
 refine Ens.bind (onceB h1.2) fun o3 h3 => ?_
 refine Ens.bind (Q := fun s : List Int × Int × Int × Int × List Atom × List Int => QS ⟨s.2.2.2.1, s.2.2.2.2.1, s.2.2.2.2.2⟩ /\ Cur ⟨s.1, s.2.1, s.2.2.1⟩) (Ens.ite (fun _ => ?_) fun _ => Ens.of ⟨h1.1, h3⟩) fun s hs => ?_
 ·exact Ens.bind (knownOk h3 hl) fun o ho => Ens.of ho
 obtain ⟨cb, ci, ch, v, az, fr⟩ := s
 simp only at hs ⊢
 obtain ⟨⟨q1, q2, q3, q4, q5, q6⟩, hc⟩ := hs
 simp only at q1 q2 q3 q4 q5 q6
 refine Ens.bind (onceB hc) fun o6 h6 => ?_
 refine Ens.bind (Q := fun s : List Int × Int × Int × Int × List Atom × List Int => s.2.2.2.2.1 = az /\ s.2.2.2.2.2.length <= 40 /\ Cur ⟨s.1, s.2.1, s.2.2.1⟩) (Ens.ite (fun _ => ?_) fun _ => Ens.of ⟨rfl, by simp only; omega, h6⟩) fun s hs => ?_
 ·refine Ens.bind (Q := fun s : List Int × Int × Int × Int × List Atom × List Int => s.2.2.2.2.1 = az /\ s.2.2.2.2.2.length <= 40 /\ Cur ⟨s.1, s.2.1, s.2.2.1⟩) ?_ fun s hs => Ens.of hs
  obtain ⟨n, hn⟩ : ∃ n : Nat, v = n := ⟨v.toNat, by omega⟩
  subst hn
  refine iter_up (f := f64_0) n (fun i s => s.2.2.2.1 = (n : Int) /\ s.2.2.2.2.1 = az /\ s.2.2.2.2.2.1.length <= 20 + i /\ Cur ⟨s.1, s.2.1, s.2.2.1⟩ /\ s.2.2.2.2.2.2 = (i : Int)) _ (fun i s hi ⟨g1, g2, g3, g4, g5⟩ => ?_) (fun s ⟨g1, g2, g3, g4, g5⟩ => ?_) _ ⟨rfl, rfl, by simp only; omega, h6, rfl⟩
  ·obtain ⟨b, x, y, v, az', fr', k⟩ := s
   simp only at g1 g2 g3 g4 g5
   subst g1 g2 g5
   simp only [f64_0]
   obtain ⟨z, z1, z2⟩ := onceB (n := 3) g4
   rw [if_pos (by omega), z1, bS, w64_succ (by omega)]
   obtain ⟨t, t1, t2⟩ : Ens (if z.1 = true then (app 8 fr' ([((i : Nat) : Int)])).bind fun l_34 => some l_34 else some fr') fun t => t.length <= fr'.length + 1 := by
    refine Ens.ite (fun _ => ?_) fun _ => Ens.of (by omega)
    rw [app_fits (by simp; omega), bS]
    exact Ens.of (by simp)
   rw [t1, bS]
   exact ⟨_, rfl, rfl, rfl, by simp only; omega, z2, rfl⟩
  ·obtain ⟨b, x, y, v, az', fr', k⟩ := s
   simp only at g1 g2 g3 g4 g5
   subst g1 g2 g5
   simp only [f64_0]
   rw [if_neg (by omega)]
   exact ⟨_, rfl, rfl, by simp only; omega, g4⟩
 obtain ⟨b, x, y, v', az', fr'⟩ := s
 simp only at hs ⊢
 obtain ⟨s1, s2, s3⟩ := hs
 subst s1
 exact Ens.of ⟨⟨q1, q2, q3, s2⟩, s3⟩
theorem anyOk {c : L1Cur} {l : List Relation} (h : Cur c) (hl : SigsG l) : Ens (f124 c l) fun r => QB r.1 /\ Cur r.2 := by
 unfold f124
 refine Ens.bind (drawQ h hl) fun o1 ⟨⟨q1, q2, q3, q4⟩, hc⟩ => ?_
 have q3' : ∀ a ∈ o1.1.Atoms, a.Terms.length <= 100 := fun a ha => by have := q3 a ha; omega
 refine Ens.bind (belowOk hc) fun o3 h3 => ?_
 have hc3 := h3.2.2.2
 refine Ens.bind (Q := fun s : List Int × Int × Int × Int × List Atom × List Int => (s.2.2.2.2.1.length <= 100 /\ (∀ a ∈ s.2.2.2.2.1, a.Terms.length <= 100) /\ s.2.2.2.2.2.length <= 100) /\ Cur ⟨s.1, s.2.1, s.2.2.1⟩) (Ens.ite (fun _ => ?_) fun _ => ?_) fun s hs => Ens.of hs
 ·exact Ens.bind (pickOk hc3 (by simp)) fun o ho => Ens.of ⟨⟨by simp only; omega, q3', by simp only; omega⟩, ho.2⟩
 refine Ens.bind (Q := fun s : List Int × Int × Int × List Atom × List Int => (s.2.2.2.1.length <= 100 /\ (∀ a ∈ s.2.2.2.1, a.Terms.length <= 100) /\ s.2.2.2.2.length <= 100) /\ Cur ⟨s.1, s.2.1, s.2.2.1⟩) (Ens.ite (fun _ => ?_) fun _ => ?_) fun s hs => Ens.of hs
 ·refine Ens.bind (belowOk hc3) fun o ho => ?_
  rw [app_fits (by simp; omega), bS]
  refine Ens.of ⟨⟨by simp; omega, fun a ha => ?_, by simp only; omega⟩, ho.2.2.2⟩
  rcases List.mem_append.1 ha with ha | ha
  ·exact q3' a ha
  ·rw [List.mem_singleton] at ha
   subst ha; simp
 refine Ens.bind (Q := fun s : List Int × Int × Int × List Atom × List Int => (s.2.2.2.1.length <= 100 /\ (∀ a ∈ s.2.2.2.1, a.Terms.length <= 100) /\ s.2.2.2.2.length <= 100) /\ Cur ⟨s.1, s.2.1, s.2.2.1⟩) (Ens.ite (fun _ => ?_) fun _ => ?_) fun s hs => Ens.of hs
 ·have i0 : ix o1.1.Atoms 0 = some o1.1.Atoms[0] := ix_nat (i := 0) (by omega)
  have ht := q3 _ (List.getElem_mem (show 0 < o1.1.Atoms.length by omega))
  rw [i0, bS]
  refine Ens.bind (pickOk hc3 (by simp)) fun o ho => ?_
  have i1 : ix o1.1.Atoms[0].Terms 0 = some o1.1.Atoms[0].Terms[0] := ix_nat (i := 0) (by omega)
  rw [i1, bS]
  refine Ens.of ⟨⟨by simp; omega, fun a ha => ?_, by simp only; omega⟩, ho.2⟩
  rcases List.mem_or_eq_of_mem_set ha with ha | rfl
  ·exact q3' a ha
  ·simp; omega
 refine Ens.bind (Q := fun s : List Int × Int × Int × List Int => s.2.2.2.length <= 100 /\ Cur ⟨s.1, s.2.1, s.2.2.1⟩) (Ens.ite (fun _ => ?_) fun _ => ?_) fun s hs => Ens.of ⟨⟨by simp only; omega, q3', hs.1⟩, hs.2⟩
 ·refine Ens.bind (belowOk hc3) fun o ho => ?_
  rw [app_fits (by simp; omega), bS]
  exact Ens.of ⟨by simp; omega, ho.2.2.2⟩
 ·exact Ens.of ⟨by simp only; omega, hc3⟩
end
section
theorem SigsG.sigs {l : List Relation} (h : SigsG l) : Sigs l /\ ∀ x ∈ l, 1 <= x.Arity := by
 obtain ⟨a, b, rfl, _⟩ := h
 refine ⟨⟨rfl, fun x hx => ?_⟩, fun x hx => ?_⟩
 all_goals
  simp only [sg, List.mem_cons, List.not_mem_nil, or_false] at hx
  rcases hx with rfl | rfl | rfl | rfl <;> simp
theorem insRel {d : Database} {f : Fact} {r : Database × Bool} (hf : Fits d) (h : f99 d f = some r) : r.1.Relations = d.Relations := by
 unfold f99 at h
 rw [copySpec hf, bS] at h
 obtain ⟨o3, _, h⟩ := Option.bind_eq_some_iff.1 h
 obtain ⟨x, _, h⟩ := Option.bind_eq_some_iff.1 h
 split at h
 ·cases h; rfl
 ·obtain ⟨_, _, h⟩ := Option.bind_eq_some_iff.1 h
  obtain ⟨_, _, h⟩ := Option.bind_eq_some_iff.1 h
  obtain ⟨_, _, h⟩ := Option.bind_eq_some_iff.1 h
  obtain ⟨_, _, h⟩ := Option.bind_eq_some_iff.1 h
  obtain ⟨_, _, h⟩ := Option.bind_eq_some_iff.1 h
  obtain ⟨_, _, h⟩ := Option.bind_eq_some_iff.1 h
  obtain ⟨_, _, h⟩ := Option.bind_eq_some_iff.1 h
  cases h; rfl
theorem dbG {c : L1Cur} (h : Cur c) : Ens (f60 c) fun r => (Tiny 12 r.1 /\ SigsG r.1.Relations) /\ Cur r.2 := by
 unfold f60
 refine Ens.bind (sigsG h) fun o1 h1 => ?_
 refine Ens.bind (pickOk h1.2 (by simp)) fun o3 h3 => ?_
 refine Ens.bind (belowOk h3.2) fun o5 h5 => ?_
 obtain ⟨a1, _, a2, a3⟩ := h5
 have a4 := a2 (by decide)
 rw [w64_of (by omega)]
 refine Ens.bind (Q := fun s => (Tiny 12 ⟨s.2.2.2.1, s.2.2.2.2⟩ /\ SigsG s.2.2.2.1) /\ Cur ⟨s.1, s.2.1, s.2.2.1⟩) ?_ fun s hs => Ens.of hs
 obtain ⟨n, hn⟩ : ∃ n : Nat, 2 + o5.1 = n := ⟨(2 + o5.1).toNat, by omega⟩
 rw [hn]
 refine iter_up (f := f60_0 o3) n (fun i s => Cur ⟨s.1, s.2.1, s.2.2.1⟩ /\ (Tiny i ⟨s.2.2.2.1, s.2.2.2.2.1⟩ /\ SigsG s.2.2.2.1) /\ s.2.2.2.2.2 = ((n - i : Nat) : Int)) _ (fun i s hi ⟨g1, ⟨g2, gg⟩, g3⟩ => ?_) (fun s ⟨g1, ⟨g2, gg⟩, g3⟩ => ?_) (o5.2.b, o5.2.i, o5.2.h, o1.1, [], ((n : Nat) : Int)) ⟨a3, ⟨⟨h1.1.sigs.1, by simp, by simp⟩, h1.1⟩, rfl⟩
 ·obtain ⟨b, j, hh, rs, fs, k⟩ := s
  simp only at g1 g2 g3 gg
  subst g3
  simp only [f60_0]
  obtain ⟨p, hp, hq1, hq2⟩ := factOk (v := o3.1) g1 g2.1
  obtain ⟨r, hr, hr1⟩ := insOk g2 (by omega) hq1
  have hrel := insRel (g2.fits (by omega)) hr
  simp only at hrel
  rw [if_pos (by omega), hp, bS, hr, bS, w64_of (by omega)]
  exact ⟨_, rfl, hq2, ⟨hr1, by simp only; rw [hrel]; exact gg⟩, by simp only; omega⟩
 ·obtain ⟨b, j, hh, rs, fs, k⟩ := s
  simp only at g1 g2 g3 gg
  subst g3
  simp only [f60_0]
  rw [if_neg (by omega)]
  exact ⟨_, rfl, ⟨⟨g2.1, by have := g2.2.1; simp only at this ⊢; omega, g2.2.2⟩, gg⟩, g1⟩
def Sm (d : Database) : Prop := d.Relations.length <= 4 /\ d.Facts.length <= 13 /\ ∀ x ∈ d.Facts, x.Values.length <= 4
theorem Sm.fits {d : Database} (h : Sm d) : Fits d := ⟨by have := h.1; omega, by have := h.2.1; omega, fun x hx => by have := h.2.2 x hx; omega⟩
end
section
theorem sameI {a : List Int} (h : a.length <= 9223372036854775807) : f15 a a = some true := by
 unfold f15
 rw [if_neg (by simp)]
 rw [iter_ex (List.range a.length) (fun _ => false) false (fun i hi => by
  simp only [f15_0]
  simp only [List.length_range] at hi
  rw [if_pos (by omega), ix_nat hi, w64_succ (by omega)]
  simp) (by
  simp only [f15_0]
  rw [if_neg (by simp)])]
 simp
end
section
theorem db9G {c : L1Cur} (h : Cur c) : Ens (f123 c) fun r => (Tiny 9 r.1 /\ SigsG r.1.Relations) /\ Cur r.2 := by
 unfold f123
 refine Ens.bind (dbG h) fun o1 ⟨⟨h1, hg⟩, h2⟩ => ?_
 refine Ens.bind (Q := fun s => Tiny 9 ⟨s.1, s.2⟩ /\ SigsG s.1) ?_ fun s hs => Ens.of ⟨hs, h2⟩
 refine iter_up (f := f123_0) (o1.1.Facts.length - 9) (fun i s => (Tiny (o1.1.Facts.length - i) ⟨s.1, s.2⟩ /\ SigsG s.1) /\ s.2.length = o1.1.Facts.length - i) _ (fun i s hi ⟨⟨g1, gg⟩, g2⟩ => ?_) (fun s ⟨⟨g1, gg⟩, g2⟩ => ?_) (o1.1.Relations, o1.1.Facts) ⟨⟨⟨h1.1, by simp, h1.2.2⟩, hg⟩, by simp⟩
 ·obtain ⟨rs, fs⟩ := s
  simp only at g1 g2 gg
  simp only [f123_0]
  have := h1.2.1
  rw [if_pos (by omega), w64_of (by omega), show (fs.length : Int) - 1 = ((fs.length - 1 : Nat) : Int) by omega, cutL_ok (by omega) (by omega) (by omega), bS]
  simp only [Int.toNat_zero, List.drop_zero, Int.toNat_natCast]
  refine ⟨_, rfl, ⟨⟨g1.1, ?_, fun x hx => g1.2.2 x (List.mem_of_mem_take hx)⟩, gg⟩, ?_⟩
  ·simp only [List.length_take]; omega
  ·simp only [List.length_take]; omega
 ·obtain ⟨rs, fs⟩ := s
  simp only at g1 g2 gg
  simp only [f123_0]
  have := h1.2.1
  rw [if_neg (by omega)]
  exact ⟨_, rfl, ⟨g1.1, by simp only; omega, g1.2.2⟩, gg⟩
theorem both18 {code : List Int} (h : code.length <= 1048576) : Ens (f82 code) fun r => Cur r.1 /\ Tiny 9 r.2.1 /\ QB r.2.2 := by
 unfold f82
 refine Ens.bind (newOk h) fun c hc => ?_
 refine Ens.bind (db9G hc) fun o3 ⟨⟨h3, hg⟩, hc3⟩ => ?_
 refine Ens.bind (drawQ hc3 hg) fun o5 ⟨⟨q1, q2, q3, q4⟩, hc5⟩ => ?_
 refine Ens.bind (onceOk hc5) fun o7 hc7 => ?_
 have hq : QB o5.1 := ⟨by omega, fun a ha => by have := (q3 a ha).2; omega, by omega⟩
 refine Ens.bind (Q := fun s : List Int × Int × Int × Int × List Atom × List Int => Cur ⟨s.1, s.2.1, s.2.2.1⟩ /\ QB ⟨s.2.2.2.1, s.2.2.2.2.1, s.2.2.2.2.2⟩) (Ens.ite (fun _ => ?_) fun _ => ?_) fun s hs' => Ens.of ⟨hs'.1, h3, hs'.2⟩
 ·exact Ens.bind (anyOk hc7 hg) fun o ho => Ens.of ⟨ho.2, ho.1⟩
 ·exact Ens.of ⟨hc7, hq⟩
variable {d : Database} {q : Query}
end
section
abbrev neg (v : Int) : Int := w64 (-v)
def left (out c : List Int) : List Int := c.filter fun v => !out.contains (neg v)
def hit (out c : List Int) : Bool := c.any out.contains
def scan (out : List Int) : List (List Int) -> Option (Option Int)
 | [] => none
 | c :: l => if hit out c = true then scan out l else match left out c with
  | [] => some none
  | [v] => some (some v)
  | _ => scan out l
def round (out : List Int) (l : List (List Int)) : (List Int × Bool) ⊕ (List Int × Bool) := match scan out l with
 | none => .inl (out, false)
 | some none => .inr (out, true)
 | some (some v) => .inl (out ++ [v], true)
def prop (l : List (List Int)) : Nat -> List Int -> List Int × Bool
 | 0, out => (out, false)
 | k + 1, out => match round out l with
  | .inl (o, true) => prop l k o
  | .inl (o, false) => (o, false)
  | .inr r => r
def up (n : Int) (l : List (List Int)) (s : List Int) : List Int × Bool := if valid n l = true /\ clS n s = true then prop l 15 s else (s, false)
end
section
variable {d : Database} {q : Query}
end
section
section
variable {d : Database} {q : Query} {r : List Int}
end
theorem indep0 {s : List Int} : f160 [] s = some true := by
 unfold f160
 have it := iter_steps (f := f160_0 [] s) (fun _ => 0) 0 (.inl ()) (fun i hi => by omega) (by
  simp only [f160_0]
  rw [if_neg (by simp)])
 rw [it]; rfl
theorem fits0 {s : List Int} {x : Int} (h : s.length <= 1000) : Ens (f128 [] s x) fun _ => True := by
 unfold f128
 rw [hasI (by omega), bS]
 refine Ens.bind (Q := fun _ => True) (Ens.ite (fun _ => ?_) fun _ => Ens.of trivial) fun o _ => Ens.of trivial
 rw [app_fits (by simp; omega), bS, app_fits (by simp; omega), bS, indep0, bS]
 exact Ens.of trivial
end
section
section
variable {d : Database} {q : Query}
theorem certF_good (h : certF d q = true) : good2 d q = true := by
 cases hg : good2 d q
 ·unfold certF fixs at h
  rw [hg] at h
  simp at h
 ·rfl
theorem findD (hf : FitsDQ d q) : Ens (f83 d q) fun r => r.1.length <= 1048576 /\ ∀ x ∈ r.1, x.Facts.length <= 14 := by
 unfold f83
 rw [certSpec hf, bS]
 cases hc : certF d q
 ·exact Ens.of ⟨by simp, by simp⟩
 have hg := certF_good hc
 have hB := bks_ok hf hg
 obtain ⟨f1, f2⟩ := fixs_few (d := d) (q := q)
 rw [if_neg (by simp), fixsSpec hf, bS, witSpec hf, bS, show f58 d = some (bks d) from blocksSpec (good2_of hg).1 hf.1, bS]
 refine Ens.bind (Q := fun o => match o with | .inl l => l.length <= 1048576 /\ ∀ x ∈ l, x.Facts.length <= 14 | .inr r => r.1.length <= 1048576 /\ ∀ x ∈ r.1, x.Facts.length <= 14) ?_ fun o ho => ?_
 ·refine iter_up (f := f83_0 (fixs d q) (wits d q) (bks d)) (fixs d q).length (fun i s => s.1.length <= i /\ (∀ x ∈ s.1, x.Facts.length <= 14) /\ s.2 = (i : Int)) _ (fun i s hi ⟨g1, g2, g3⟩ => ?_) (fun s ⟨g1, g2, g3⟩ => ?_) ([], 0) ⟨by simp, by simp, rfl⟩
  ·obtain ⟨out, x⟩ := s
   simp only at g1 g2 g3
   subst g3
   have hs := f2 _ (List.getElem_mem hi)
   have ht : Few ((fixs d q).take i) := ⟨by rw [List.length_take]; omega, fun x hx => f2 x (List.mem_of_mem_take hx)⟩
   simp only [f83_0]
   rw [if_pos (by omega), ix_nat hi, bS, specCov wits_few.big.1 wits_few.big.2 (by omega), bS]
   obtain ⟨k, hk, _⟩ : Ens ((if ¬(cov (wits d q) (fixs d q)[i] = true) then (cutL (fixs d q) 0 (i : Int)).bind fun l_20 => (f127 l_20 (bks d) (fixs d q)[i]).bind fun o22 => some o22 else some (-1) : Option Int)) fun _ => True := by
    refine Ens.ite (fun _ => ?_) fun _ => Ens.of trivial
    rw [cutL_ok (by omega) (by omega) (by omega), bS]
    have e : ((fixs d q).take ((i : Int)).toNat).drop (0 : Int).toNat = (fixs d q).take i := by simp
    rw [e, stepSpec hB ht (by omega), bS]
    exact Ens.of trivial
   rw [hk, bS, app_fits (by simp; omega), bS, app_fits (by simp; omega), bS, w64_succ (by omega)]
   have hout : ∀ x ∈ out ++ [({ Facts := [] ++ (fixs d q)[i], Block := k } : DerivationStep)], x.Facts.length <= 14 := fun x hx => by
    rcases List.mem_append.1 hx with hx | hx
    ·exact g2 x hx
    ·rw [List.mem_singleton] at hx; subst hx; simpa using hs
   by_cases h0 : ((fixs d q)[i].length : Int) = 0
   ·rw [if_pos h0]
    exact ⟨_, rfl, by simp; omega, hout⟩
   ·rw [if_neg h0]
    exact ⟨_, rfl, by simp; omega, hout, rfl⟩
  ·obtain ⟨out, x⟩ := s
   simp only at g1 g2 g3
   subst g3
   simp only [f83_0]
   rw [if_neg (by omega)]
   exact ⟨_, rfl, by omega, g2⟩
 ·match o, ho with
  | .inl l, ho => exact Ens.of ho
  | .inr r, ho => exact Ens.of ho
end
theorem someOkN {c : L1Cur} {n : Int} (h : Cur c) (h0 : 0 <= n) (hn : n <= 100) : Ens (f84 c n []) fun r => r.1.length <= 101 /\ Cur r.2 := by
 unfold f84
 obtain ⟨m, rfl⟩ : ∃ m : Nat, n = m := ⟨n.toNat, by omega⟩
 refine Ens.bind (Q := fun s : List Int × Int × Int × List Int => s.2.2.2.length <= 100 /\ Cur ⟨s.1, s.2.1, s.2.2.1⟩) ?_ fun s ⟨s1, s2⟩ => ?_
 ·refine iter_up (f := f84_0 (m : Int) []) m (fun i s => Cur ⟨s.1, s.2.1, s.2.2.1⟩ /\ s.2.2.2.1.length <= i /\ s.2.2.2.2 = (i : Int)) _ (fun i s hi ⟨g1, g2, g3⟩ => ?_) (fun s ⟨g1, g2, g3⟩ => ?_) (c.b, c.i, c.h, [], 0) ⟨h, by simp, rfl⟩
  ·obtain ⟨b, j, hh, l, x⟩ := s
   simp only at g1 g2 g3
   subst g3
   simp only [f84_0]
   rw [if_pos (by omega)]
   have key : Ens ((f21 ({ b := b, i := j, h := hh } : L1Cur) 2).bind fun o7 =>
  (((if o7.1 = true then
  (f21 o7.2 8).bind fun o15 =>
  (((if o15.1 = true then
  some true
  else
  (f128 [] l (i : Int)).bind fun o20 =>
  some o20) : Option (Bool))).bind fun x_17 =>
  some (o15.2.b, o15.2.i, o15.2.h, x_17)
  else
  some (o7.2.b, o7.2.i, o7.2.h, false)) : Option ((List Int) × Int × Int × Bool)))) fun s => Cur ⟨s.1, s.2.1, s.2.2.1⟩ := by
    refine Ens.bind (onceOk g1) fun o ho => Ens.ite (fun _ => ?_) fun _ => Ens.of ho
    refine Ens.bind (onceOk ho) fun o2 ho2 => ?_
    refine Ens.bind (Q := fun _ => True) (Ens.ite (fun _ => Ens.of trivial) fun _ => ?_) fun _ _ => Ens.of ho2
    exact Ens.bind (fits0 (by omega)) fun _ _ => Ens.of trivial
   obtain ⟨u, e, hu⟩ := key
   rw [Option.bind_eq_some_iff] at e
   obtain ⟨o7, e1, e2⟩ := e
   rw [e1, bS, e2, bS]
   obtain ⟨u1, u2, u3, u4⟩ := u
   simp only at hu ⊢
   cases u4
   ·rw [if_neg (by simp), bS, w64_succ (by omega)]
    exact ⟨_, rfl, hu, by simp only; omega, rfl⟩
   ·rw [if_pos rfl, app_fits (by simp; omega), bS, bS, w64_succ (by omega)]
    exact ⟨_, rfl, hu, by simp; omega, rfl⟩
  ·obtain ⟨b, j, hh, l, x⟩ := s
   simp only at g1 g2 g3
   subst g3
   simp only [f84_0]
   rw [if_neg (by omega)]
   exact ⟨_, rfl, by simp only; omega, g1⟩
 ·obtain ⟨b, j, hh, l⟩ := s
  simp only at s1 s2 ⊢
  refine Ens.bind (onceOk s2) fun o ho => Ens.ite (fun _ => ?_) fun _ => Ens.of ⟨by simp only; omega, ho⟩
  rw [app_fits (by simp; omega), bS]
  exact Ens.of ⟨by simp; omega, ho⟩
theorem smallOk {code : List Int} (h : code.length <= 1048576) : Ens (f44 code) fun r => Cur r.1 /\ Tiny 9 r.2.1 /\ QB r.2.2 := by
 unfold f44
 refine Ens.bind (both18 h) fun o ⟨hc, ht, hq⟩ => ?_
 refine Ens.bind (Q := fun s : List Relation × List Fact => Tiny 9 ⟨s.1, s.2⟩) ?_ fun s hs => Ens.of ⟨hc, hs, hq⟩
 obtain ⟨t1, t2, t3⟩ := ht
 refine iter_up (f := f44_0) o.2.1.Facts.length (fun i s => Sigs s.1 /\ s.2.length = o.2.1.Facts.length - i /\ ∀ x ∈ s.2, x.Values.length <= 3) _ (fun i s hi ⟨g1, g2, g3⟩ => ?_) (fun s ⟨g1, g2, g3⟩ => ?_) (o.2.1.Relations, o.2.1.Facts) ⟨t1, rfl, t3⟩
 ·obtain ⟨R, l⟩ := s
  simp only at g1 g2 g3
  simp only [f44_0]
  by_cases hl : (l.length : Int) > 7
  ·rw [if_pos hl, w64_of (by omega), cutL_ok (by omega) (by omega) (by omega), bS]
   refine ⟨_, rfl, g1, by simp only [List.length_drop, List.length_take]; omega, fun x hx => g3 x (List.mem_of_mem_take (List.mem_of_mem_drop hx))⟩
  ·rw [if_neg hl]
   exact ⟨_, rfl, g1, by simp only; omega, g3⟩
 ·obtain ⟨R, l⟩ := s
  simp only at g1 g2 g3
  simp only [f44_0]
  rw [if_neg (by omega)]
  exact ⟨_, rfl, g1, by simp only; omega, g3⟩
theorem dlk_ok {α : Type} {bs : Nat} {l : List α} {k : Int} (h0 : 0 <= k) (h1 : k < l.length) (hb : l.length * bs <= 140737488355328) : dlk bs l k = some () := by
 unfold dlk; rw [if_pos ⟨h0, h1, hb⟩]
theorem stepsOk {c : L1Cur} {d : Database} {q : Query} (h : Cur c) (hd : Tiny 9 d) (hf : FitsDQ d q) : Ens (f45 c d q) fun r => r.1.length <= 1048576 /\ ∀ x ∈ r.1, x.Facts.length <= 1048576 := by
 have h9 := hd.2.1
 unfold f45
 refine Ens.bind (findD hf) fun o1 ⟨l1, l2⟩ => Ens.ite (fun _ => ?_) fun hne => ?_
 ·refine Ens.bind (someOkN h (by omega) (by omega)) fun o4 h4 => ?_
  refine Ens.bind (belowOk h4.2) fun o6 h6 => Ens.of ⟨by simp, fun x hx => ?_⟩
  simp only [List.mem_singleton] at hx
  subst hx
  have := h4.1
  simp only; omega
 have l3 : ∀ x ∈ o1.1, x.Facts.length <= 1048576 := fun x hx => by have := l2 x hx; omega
 refine Ens.bind (belowOk h) fun o8 ⟨k1, _, k2, hc8⟩ => ?_
 have k3 := k2 (by omega)
 refine Ens.bind (belowOk hc8) fun o10 h10 => ?_
 have hc10 := h10.2.2.2
 have eix : ix o1.1 o8.1 = some (o1.1[o8.1.toNat]'(by omega)) := by
  rw [ix_of k1, zE]
 refine Ens.bind (Q := fun s : List Int × Int × Int × List DerivationStep => s.2.2.2.length <= 1048576 /\ ∀ x ∈ s.2.2.2, x.Facts.length <= 1048576) (Ens.ite (fun _ => ?_) fun _ => ?_) fun s hs => Ens.of hs
 ·refine Ens.bind (belowOk hc10) fun o15 h15 => ?_
  rw [eix, bS]
  refine Ens.of ⟨by simp only [List.length_set]; exact l1, fun x hx => ?_⟩
  rcases List.mem_or_eq_of_mem_set hx with hx | rfl
  ·exact l3 x hx
  ·show (o1.1[o8.1.toNat]'(by omega)).Facts.length <= 1048576
   exact l3 _ (List.getElem_mem _)
 refine Ens.bind (Q := fun s : List Int × Int × Int × List DerivationStep => s.2.2.2.length <= 1048576 /\ ∀ x ∈ s.2.2.2, x.Facts.length <= 1048576) (Ens.ite (fun _ => ?_) fun _ => ?_) fun s hs => Ens.of hs
 ·refine Ens.bind (someOkN hc10 (by omega) (by omega)) fun o23 h23 => ?_
  rw [eix, bS]
  refine Ens.of ⟨by simp only [List.length_set]; exact l1, fun x hx => ?_⟩
  rcases List.mem_or_eq_of_mem_set hx with hx | rfl
  ·exact l3 x hx
  ·have := h23.1
   simp only; omega
 refine Ens.bind (Q := fun s : List DerivationStep => s.length <= 1048576 /\ ∀ x ∈ s, x.Facts.length <= 1048576) (Ens.ite (fun _ => ?_) fun _ => Ens.of ⟨l1, l3⟩) fun s hs => Ens.of hs
 rw [dlk_ok k1 k3 (by omega), bS]
 refine Ens.of ⟨?_, fun x hx => l3 x (List.mem_of_mem_eraseIdx hx)⟩
 have := List.length_eraseIdx_le o1.1 o8.1.toNat
 omega
end
section
variable {d : Database} {q : Query}
def SzD (L : List DerivationStep) : Prop := L.length <= 1048576 /\ ∀ x ∈ L, x.Facts.length <= 1048576
theorem SzD.erase {L : List DerivationStep} {n : Nat} (h : SzD L) : SzD (L.eraseIdx n) := ⟨by have := List.length_eraseIdx_le L n; have := h.1; omega, fun x hx => h.2 x (List.mem_of_mem_eraseIdx hx)⟩
noncomputable def shr (d : Database) (q : Query) : Nat -> List DerivationStep -> List DerivationStep
 | 0, L => L
 | n + 1, L => shr d q n (if vder d q (L.eraseIdx n) = true then L.eraseIdx n else L)
theorem shr_sz : ∀ {n : Nat} {L : List DerivationStep}, SzD L -> SzD (shr d q n L)
 | 0, L, h => h
 | n + 1, L, h => by
  rw [shr]
  refine shr_sz ?_
  split
  ·exact h.erase
  ·exact h
theorem shr_len : ∀ {n : Nat} {L : List DerivationStep}, (shr d q n L).length <= L.length
 | 0, L => Nat.le_refl _
 | n + 1, L => by
  rw [shr]
  refine Nat.le_trans shr_len ?_
  split
  ·exact List.length_eraseIdx_le _ _
  ·exact Nat.le_refl _
theorem shr_v : ∀ {n : Nat} {L : List DerivationStep}, vder d q L = true -> vder d q (shr d q n L) = true
 | 0, L, h => h
 | n + 1, L, h => by
  rw [shr]
  refine shr_v ?_
  split
  ·assumption
  ·exact h
theorem shrImp (hf : FitsDQ d q) : ∀ {n : Nat} {L : List DerivationStep}, SzD L -> n + 1 <= L.length -> iter (f13_0 d q) (L, (n : Int) - 1) = some (shr d q n L)
 | 0, L, h, hn => by
  rw [iter_eq]
  simp only [f13_0]
  rw [if_neg (by omega), shr]
 | n + 1, L, h, hn => by
  have hl := h.1
  have hel : (L.eraseIdx n).length = L.length - 1 := by rw [List.length_eraseIdx]; rw [if_pos (by omega)]
  rw [iter_eq]
  simp only [f13_0]
  have hd : delN 32 L ((n + 1 : Nat) - 1 : Int) (w64 (((n + 1 : Nat) - 1 : Int) + 1)) = some (L.eraseIdx n) := by
   unfold delN
   rw [w64_of (by omega), if_pos ⟨by omega, by omega, rfl, by omega⟩]
   congr 2
   omega
  unfold f48
  rw [if_pos (by omega), app_fits (by simp; omega), bS, List.nil_append, bS]
  unfold f47
  rw [hd, bS, vderImp hf h.erase, bS, w64_of (by omega), shr]
  cases hv : vder d q (L.eraseIdx n)
  ·rw [if_neg (by simp), if_neg (by simp), bS]
   have := shrImp hf (n := n) h (by omega)
   rw [show ((n + 1 : Nat) : Int) - 1 - 1 = (n : Int) - 1 by omega]
   exact this
  ·rw [if_pos rfl, if_pos rfl, bS]
   have := shrImp hf (n := n) (L := L.eraseIdx n) h.erase (by omega)
   rw [show ((n + 1 : Nat) : Int) - 1 - 1 = (n : Int) - 1 by omega]
   exact this
theorem shrSpec (hf : FitsDQ d q) : ∀ {n : Nat} {L : List DerivationStep}, SzD L -> n + 1 <= L.length -> iter (f14_0 d q) (L, (n : Int) - 1) = some (shr d q n L)
 | 0, L, h, hn => by
  rw [iter_eq]
  simp only [f14_0]
  rw [if_neg (by omega), shr]
 | n + 1, L, h, hn => by
  have hl := h.1
  have hel : (L.eraseIdx n).length = L.length - 1 := by rw [List.length_eraseIdx]; rw [if_pos (by omega)]
  rw [iter_eq]
  simp only [f14_0]
  have e1 : ((n + 1 : Nat) : Int) - 1 = (n : Int) := by omega
  rw [e1, if_pos (by omega), cutL_ok (by omega) (by omega) (by omega), bS, w64_of (n := (n : Int) + 1) (by omega), cutL_ok (by omega) (by omega) (by omega), bS]
  have e2 : (L.take ((n : Int)).toNat).drop (0 : Int).toNat = L.take n := by simp
  have e3 : (L.take ((L.length : Int)).toNat).drop ((n : Int) + 1).toNat = L.drop (n + 1) := by
   rw [Int.toNat_natCast, List.take_length]; congr 1
  have e4 : L.take n ++ L.drop (n + 1) = L.eraseIdx n := by rw [List.eraseIdx_eq_take_drop_succ]
  rw [e2, e3, app_fits (by simp; omega), bS, app_fits (by simp; omega), bS, List.nil_append, e4, vderSpec hf h.erase, bS, w64_of (by omega), shr]
  cases hv : vder d q (L.eraseIdx n)
  ·rw [if_neg (by simp), if_neg (by simp), bS]
   exact shrSpec hf (n := n) h (by omega)
  ·rw [if_pos rfl, if_pos rfl, bS]
   exact shrSpec hf (n := n) (L := L.eraseIdx n) h.erase (by omega)
theorem copyDi {L : List DerivationStep} (h : SzD L) : f46 L = some L := by
 unfold f46
 have it := iter_steps (f := f46_0 L) (fun i => (L.take i, (i : Int))) L.length L (fun i hi => by
  have hx := h.2 _ (List.getElem_mem hi)
  have hl := h.1
  simp only [f46_0]
  rw [if_pos (by omega), ix_nat hi, bS, app_fits (by simp; omega), bS, app_fits (by simp; omega), bS, w64_succ (by omega), take_succ' hi, List.nil_append]) (by
  simp only [f46_0]
  rw [if_neg (by omega), List.take_length])
 simp only [List.take_zero, Int.natCast_zero, Int.ofNat_zero] at it
 rw [it]; rfl
theorem copyDs {L : List DerivationStep} (h : SzD L) : f49 L = some L := by
 unfold f49
 have it := iter_steps (f := f49_0 L) (fun i => (L.take i, (i : Int))) L.length L (fun i hi => by
  have hx := h.2 _ (List.getElem_mem hi)
  have hl := h.1
  simp only [f49_0]
  rw [if_pos (by omega), ix_nat hi, bS, app_fits (by simp; omega), bS, app_fits (by simp; omega), bS, w64_succ (by omega), take_succ' hi, List.nil_append]) (by
  simp only [f49_0]
  rw [if_neg (by omega), List.take_length])
 simp only [List.take_zero, Int.natCast_zero, Int.ofNat_zero] at it
 rw [it]; rfl
noncomputable def shorten (d : Database) (q : Query) (L : List DerivationStep) : List DerivationStep := if vder d q L = true then shr d q (L.length - 1) L else L
theorem vder_pos {L : List DerivationStep} (h : vder d q L = true) : 0 < L.length := by
 unfold vder at h
 simp only [Bool.and_eq_true, Bool.not_eq_true', decide_eq_false_iff_not] at h
 omega
theorem shortImp (hf : FitsDQ d q) {L : List DerivationStep} (h : SzD L) : f13 d q L = some (shorten d q L) := by
 unfold f13 shorten
 have hl := h.1
 rw [copyDi h, bS, vderImp hf h, bS]
 cases hv : vder d q L
 ·rw [if_pos (by simp), if_neg (by simp)]
 ·have hp := vder_pos hv
  rw [if_neg (by simp), if_pos rfl, w64_of (by omega), show (L.length : Int) - 2 = ((L.length - 1 : Nat) : Int) - 1 by omega, shrImp hf h (by omega)]; rfl
theorem shortSpec (hf : FitsDQ d q) {L : List DerivationStep} (h : SzD L) : f14 d q L = some (shorten d q L) := by
 unfold f14 shorten
 have hl := h.1
 rw [copyDs h, bS, vderSpec hf h, bS]
 cases hv : vder d q L
 ·rw [if_pos (by simp), if_neg (by simp)]
 ·have hp := vder_pos hv
  rw [if_neg (by simp), if_pos rfl, w64_of (by omega), show (L.length : Int) - 2 = ((L.length - 1 : Nat) : Int) - 1 by omega, shrSpec hf h (by omega)]; rfl
theorem drawSh {code : List Int} (h : code.length <= 1048576) : Ens (f12 code) fun o => FitsDQ o.1 o.2.1 /\ SzD o.2.2 := by
 unfold f12
 refine Ens.bind (smallOk h) fun o1 ⟨hc, ht, hq⟩ => ?_
 obtain ⟨t1, t2, t3⟩ := ht
 refine Ens.bind (Q := fun s : List Relation × List Fact => Tiny 9 ⟨s.1, s.2⟩) ?_ fun s hs => ?_
 ·refine iter_up (f := f12_0) o1.2.1.Facts.length (fun i s => Sigs s.1 /\ s.2.length = o1.2.1.Facts.length - i /\ ∀ x ∈ s.2, x.Values.length <= 3) _ (fun i s hi ⟨g1, g2, g3⟩ => ?_) (fun s ⟨g1, g2, g3⟩ => ?_) (o1.2.1.Relations, o1.2.1.Facts) ⟨t1, rfl, t3⟩
  ·obtain ⟨R, l⟩ := s
   simp only at g1 g2 g3
   simp only [f12_0]
   by_cases hl : (l.length : Int) > 5
   ·rw [if_pos hl, w64_of (by omega), cutL_ok (by omega) (by omega) (by omega), bS]
    refine ⟨_, rfl, g1, by simp only [List.length_drop, List.length_take]; omega, fun x hx => g3 x (List.mem_of_mem_take (List.mem_of_mem_drop hx))⟩
   ·rw [if_neg hl]
    exact ⟨_, rfl, g1, by simp only; omega, g3⟩
  ·obtain ⟨R, l⟩ := s
   simp only at g1 g2 g3
   simp only [f12_0]
   rw [if_neg (by omega)]
   exact ⟨_, rfl, g1, by simp only; omega, g3⟩
 ·have hf : FitsDQ ⟨s.1, s.2⟩ o1.2.2 := ⟨hs.fits (by decide), hq.fits⟩
  exact Ens.bind (stepsOk hc hs hf) fun o3 ho => Ens.of ⟨hf, ho⟩
end
section
theorem lawFnShortenDerivation (code : List Int) (hcode : ok code) : f4 code = some true := by
 unfold f4 f5
 rw [bS]
 by_cases hb : (code.length : Int) > 1048576
 ·rw [if_pos (by simpa using hb)]
 rw [if_neg (by simpa using hb)]
 obtain ⟨⟨d, q, L⟩, e, hf, hL⟩ := drawSh (code := code) (by omega)
 simp only at hf hL
 rw [e, bS]
 simp only
 have hr : SzD (shorten d q L) := by
  unfold shorten
  split
  ·exact shr_sz hL
  ·exact hL
 have hle : (shorten d q L).length <= L.length := by
  unfold shorten
  split
  ·exact shr_len
  ·exact Nat.le_refl _
 have hv : vder d q (shorten d q L) = vder d q L := by
  unfold shorten
  cases h : vder d q L
  ·rw [if_neg (by simp), h]
  ·rw [if_pos rfl, shr_v h]
 rw [shortImp hf hL, bS, shortSpec hf hL, bS]
 revert hr hle hv
 generalize shorten d q L = r
 intro hr hle hv
 have hl := hr.1
 rw [if_neg (by simp), bS, if_neg (by simp; omega)]
 rw [iter_ex r (fun _ => false) false (fun i hi => by
  have hx := hr.2 _ (List.getElem_mem hi)
  simp only [f4_0]
  rw [if_pos (by omega), ix_nat hi, bS, bS, if_neg (by simp), sameI (by omega), bS, bS, if_neg (by simp), w64_succ (by omega), if_neg (by simp)]) (by
  simp only [f4_0]
  rw [if_neg (by omega)])]
 simp only [List.any_eq_true, Bool.false_eq_true, and_false, exists_const, if_false, bS]
 rw [vderImp hf hr, bS, vderSpec hf hL, bS, hv]
 simp
end
end Go.Proofs.YtamibblcpccjlaaGreatH
