/- Plain laws: valid databases, the same in both programs. -/
import Derived.Test.YtabmomjfdondnaaTd1
import Derived.Test.YtabmomjfdondnaaPb10
set_option linter.unusedVariables false
set_option linter.unusedSimpArgs false
namespace Go.Proofs.YtabmomjfdondnaaH
open Go
variable {α ρ : Type}
/-- Each element is well, and each goes well after the one before it. -/
def good (q : α → Bool) (r : α → α → Bool) (l : List α) : Bool := decide (∀ i (h : i < l.length), (q l[i] && (decide (i = 0) || r (l[i - 1]'(by omega)) l[i])) = true)
theorem good_of {q : α → Bool} {r : α → α → Bool} {l : List α} (h : good q r l = true) {i : Nat} (hi : i < l.length) : q l[i] = true ∧ (0 < i → r (l[i - 1]'(by omega)) l[i] = true) := by
  have := of_decide_eq_true h i hi
  simp only [Bool.and_eq_true, Bool.or_eq_true, decide_eq_true_eq] at this
  exact ⟨this.1, fun hp => this.2.resolve_left (by omega)⟩
theorem iter_adj {f : Int → Option (Int ⊕ (Unit ⊕ ρ))} (q : α → Bool) (r : α → α → Bool) (L : List α) (c : ρ)
    (hs : ∀ (i : Nat) (h : i < L.length), f (i : Int) = some (if (q L[i] && (decide (i = 0) || r (L[i - 1]'(by omega)) L[i])) = true then .inl ((i + 1 : Nat) : Int) else .inr (.inr c)))
    (he : f (L.length : Int) = some (.inr (.inl ()))) : iter f 0 = some (if good q r L = true then .inl () else .inr c) := by
  obtain ⟨o, h1, h2⟩ := iter_up (f := f) L.length (fun i s => s = (i : Int) ∧ ∀ j (h : j < L.length), j < i → (q L[j] && (decide (j = 0) || r (L[j - 1]'(by omega)) L[j])) = true)
    (fun o => o = if good q r L = true then .inl () else .inr c) (fun i s hi ⟨h, hp⟩ => by
      subst h
      refine ⟨_, hs i hi, ?_⟩
      by_cases hc : (q L[i] && (decide (i = 0) || r (L[i - 1]'(by omega)) L[i])) = true
      · rw [if_pos hc]
        refine ⟨rfl, fun j hj hlt => ?_⟩
        by_cases e : j = i
        · subst e; exact hc
        · exact hp j hj (by omega)
      · rw [if_neg hc]
        dsimp only
        rw [if_neg]
        intro hg
        exact hc (of_decide_eq_true hg i hi)) (fun s ⟨h, hp⟩ => by
      subst h
      refine ⟨_, he, ?_⟩
      rw [if_pos]
      exact decide_eq_true fun i hi => hp i hi hi) 0 ⟨rfl, fun j _ h => by omega⟩
  rw [h1, h2]

def btw (x low high : Int) : Bool := decide (low ≤ x) && decide (x ≤ high)
theorem specIn {x a b : Int} : f71 x a b = some (btw x a b) := by
  unfold f71 btw
  by_cases h : a ≤ x
  · rw [if_pos (show x ≥ a from h)]; simp [h]
  · rw [if_neg (show ¬ x ≥ a from h)]; simp [h]
theorem impIn {x a b : Int} : f87 x a b = some (btw x a b) := by
  unfold f87 btw
  by_cases h : a ≤ x
  · rw [if_pos h]; simp [h]
  · rw [if_neg h]; simp [h]
def vRel (r : Relation) : Bool := decide (r.Name.length = 1) && (decide (97 ≤ (r.Name.getD 0 0).toNat) && (decide ((r.Name.getD 0 0).toNat ≤ 122) && (btw r.Arity 1 3 && btw r.KeyLength 0 r.Arity)))
theorem specRel {r : Relation} : f154 r = some (vRel r) := by
  unfold f154 vRel
  by_cases h1 : r.Name.length = 1
  · rw [if_pos (by omega)]
    have e : ix r.Name 0 = some (r.Name.getD 0 0) := by rw [ix_of (by omega)]; simp [List.getElem?_eq_getElem (show 0 < r.Name.length by omega)]
    rw [e, Option.bind_some]
    generalize r.Name.getD 0 0 = c
    by_cases h2 : 97 ≤ c.toNat
    · rw [if_pos (by omega)]
      by_cases h3 : c.toNat ≤ 122
      · rw [if_pos (by omega), specIn, Option.bind_some]
        cases hb : btw r.Arity 1 3
        · simp
        · simp [specIn, h1, h2, h3]
      · rw [if_neg (by omega)]; simp [h3]
    · rw [if_neg (by omega)]; simp [h2]
  · rw [if_neg (by omega)]; simp [h1]
theorem impRel {r : Relation} : f163 r = some (vRel r) := by
  unfold f163 vRel
  by_cases h1 : r.Name.length = 1
  · rw [if_pos (by omega)]
    have e : ix r.Name 0 = some (r.Name.getD 0 0) := by rw [ix_of (by omega)]; simp [List.getElem?_eq_getElem (show 0 < r.Name.length by omega)]
    rw [e, Option.bind_some]
    generalize r.Name.getD 0 0 = c
    by_cases h2 : 97 ≤ c.toNat
    · rw [if_pos (by omega)]
      by_cases h3 : c.toNat ≤ 122
      · rw [if_pos (by omega), impIn, Option.bind_some]
        cases hb : btw r.Arity 1 3
        · simp
        · simp [impIn, h1, h2, h3]
      · rw [if_neg (by omega)]; simp [h3]
    · rw [if_neg (by omega)]; simp [h2]
  · rw [if_neg (by omega)]; simp [h1]
def vRels (l : List Relation) : Bool := good vRel (fun a b => Op.bytesLess a.Name b.Name) l && decide (l.length ≤ 4)
theorem specRels {l : List Relation} (h : Big l.length) : f94 l = some (vRels l) := by
  unfold f94 vRels
  rw [iter_adj vRel (fun a b => Op.bytesLess a.Name b.Name) l false (fun i hi => by
    simp only [f94_0]
    rw [if_pos (by omega), ix_nat hi, w64_succ (by omega)]
    simp only [Option.bind_some, specRel]
    cases vRel l[i]
    · simp
    · by_cases h0 : i = 0
      · subst h0; simp
      · have e : ix l (w64 ((i : Int) - 1)) = some (l[i - 1]'(by omega)) := by rw [w64_of (by omega), show (i : Int) - 1 = ((i - 1 : Nat) : Int) by omega, ix_nat (by omega)]
        simp only [e]
        have : 0 < i := by omega
        cases hb : Op.bytesLess (l[i - 1]'(by omega)).Name l[i].Name <;> simp [h0, this, hb]) (by
    simp only [f94_0]
    rw [if_neg (by omega)])]
  cases good vRel (fun a b => Op.bytesLess a.Name b.Name) l
  · simp
  · simp; omega
theorem impRels {l : List Relation} (h : Big l.length) : f116 l = some (vRels l) := by
  unfold f116 vRels
  rw [iter_adj vRel (fun a b => Op.bytesLess a.Name b.Name) l false (fun i hi => by
    simp only [f116_0]
    rw [if_pos (by omega), ix_nat hi, w64_succ (by omega)]
    simp only [Option.bind_some, impRel]
    cases vRel l[i]
    · simp
    · by_cases h0 : i = 0
      · subst h0; simp
      · have e : ix l (w64 ((i : Int) - 1)) = some (l[i - 1]'(by omega)) := by rw [w64_of (by omega), show (i : Int) - 1 = ((i - 1 : Nat) : Int) by omega, ix_nat (by omega)]
        simp only [e]
        have : 0 < i := by omega
        cases hb : Op.bytesLess (l[i - 1]'(by omega)).Name l[i].Name <;> simp [h0, this, hb]) (by
    simp only [f116_0]
    rw [if_neg (by omega)])]
  cases good vRel (fun a b => Op.bytesLess a.Name b.Name) l
  · simp
  · simp; omega
def arity (l : List Relation) (r : Int) : Int := (l[r.toNat]?.map (·.Arity)).getD 0
def keyLen (l : List Relation) (r : Int) : Int := (l[r.toNat]?.map (·.KeyLength)).getD 0
def vVals (l : List Int) : Bool := l.all fun v => btw v 0 9
def vFact (l : List Relation) (f : Fact) : Bool := btw f.Relation 0 (l.length - 1) && (decide ((f.Values.length : Int) = arity l f.Relation) && vVals f.Values)
theorem ix_rel {l : List Relation} {r : Int} (h : btw r 0 (l.length - 1) = true) : ∃ x, ix l r = some x ∧ x ∈ l ∧ x.Arity = arity l r ∧ x.KeyLength = keyLen l r := by
  unfold btw at h; simp only [Bool.and_eq_true, decide_eq_true_eq] at h
  have e : l[r.toNat]? = some (l[r.toNat]'(by omega)) := List.getElem?_eq_getElem _
  refine ⟨l[r.toNat]'(by omega), ?_, List.getElem_mem _, ?_, ?_⟩
  · rw [ix_of h.1, e]
  · unfold arity; rw [e]; rfl
  · unfold keyLen; rw [e]; rfl
theorem specFact {l : List Relation} {f : Fact} (h : Big l.length) (hf : Big f.Values.length) : f92 l f = some (vRels l && vFact l f) := by
  unfold f92 vFact
  rw [specRels h, Option.bind_some]
  cases vRels l
  · simp
  · rw [w64_of (by omega), specIn]
    cases hb : btw f.Relation 0 (l.length - 1)
    · simp
    · obtain ⟨x, h1, _, h2, _⟩ := ix_rel hb
      rw [h1]
      by_cases ha : (f.Values.length : Int) = arity l f.Relation
      · rw [iter_ex f.Values (fun v => !btw v 0 9) false (fun i hi => by
          simp only [f92_0]
          rw [if_pos (by omega), ix_nat hi, w64_succ (by omega)]
          simp only [Option.bind_some, specIn]
          cases btw f.Values[i] 0 9 <;> simp) (by
          simp only [f92_0]
          rw [if_neg (by omega)])]
        unfold vVals
        rw [any_not]
        cases f.Values.all (fun v => btw v 0 9) <;> simp [h2, ha]
      · simp [h2, ha]
theorem impVals {l : List Int} (h : Big l.length) : f179 l = some (vVals l) := by
  unfold f179
  rw [indexI (p := fun v => !btw v 0 9) h (fun v _ => by
    unfold f195
    rw [impIn]; cases btw v 0 9 <;> simp)]
  unfold vVals
  rw [any_not]
  cases l.all (fun v => btw v 0 9) <;> simp
theorem impFact {l : List Relation} {f : Fact} (h : Big l.length) (hf : Big f.Values.length) : f145 l f = some (vFact l f) := by
  unfold f145 vFact
  rw [w64_of (by omega), impIn]
  cases hb : btw f.Relation 0 (l.length - 1)
  · simp
  · obtain ⟨x, h1, _, h2, _⟩ := ix_rel hb
    rw [h1]
    by_cases ha : (f.Values.length : Int) = arity l f.Relation
    · simp [h2, ha, impVals hf]
    · simp [h2, ha]
/-- The order of lists, as in a dictionary. -/
def cmpL : List Int → List Int → Int
  | [], [] => 0
  | [], _ :: _ => -1
  | _ :: _, [] => 1
  | a :: s, b :: t => if a < b then -1 else if a > b then 1 else cmpL s t
theorem cmpL_step {a b : List Int} {i : Nat} (ha : i < a.length) (hb : i < b.length) : cmpL (a.drop i) (b.drop i) = if a[i] < b[i] then -1 else if a[i] > b[i] then 1 else cmpL (a.drop (i + 1)) (b.drop (i + 1)) := by
  rw [List.drop_eq_getElem_cons ha, List.drop_eq_getElem_cons hb, cmpL]
theorem cmpL_end {a b : List Int} {i : Nat} (h : a.length ≤ i ∨ b.length ≤ i) (hi : i ≤ a.length ∧ i ≤ b.length) : cmpL (a.drop i) (b.drop i) = if a.length < b.length then -1 else if a.length > b.length then 1 else 0 := by
  rcases h with h | h
  · rw [List.drop_of_length_le h]
    by_cases e : b.length ≤ i
    · rw [List.drop_of_length_le e, cmpL, if_neg (by omega), if_neg (by omega)]
    · rw [List.drop_eq_getElem_cons (by omega : i < b.length), cmpL, if_pos (by omega)]
  · rw [List.drop_of_length_le h]
    by_cases e : a.length ≤ i
    · rw [List.drop_of_length_le e, cmpL, if_neg (by omega), if_neg (by omega)]
    · rw [List.drop_eq_getElem_cons (by omega : i < a.length), cmpL, if_neg (by omega), if_pos (by omega)]
theorem specInts {a b : List Int} (ha : Big a.length) (hb : Big b.length) : f153 a b = some (cmpL a b) := by
  unfold f153
  refine Ens.eq (Q := fun r => r = cmpL a b) (Ens.bind (Q := fun o => match o with | .inl _ => (if a.length < b.length then -1 else if a.length > b.length then 1 else 0) = cmpL a b | .inr x => x = cmpL a b) ?_ fun o ho => ?_) _ (fun _ h => h)
  · refine iter_up (f := f153_0 a b) (min a.length b.length) (fun i s => s = (i : Int) ∧ cmpL (a.drop i) (b.drop i) = cmpL a b) _ (fun i s hi ⟨h, hp⟩ => ?_) (fun s ⟨h, hp⟩ => ?_) 0 ⟨rfl, rfl⟩
    · subst h
      have h1 : i < a.length := by omega
      have h2 : i < b.length := by omega
      simp only [f153_0]
      rw [if_pos (by omega), ix_nat h1, ix_nat h2, w64_succ (by omega)]
      rw [cmpL_step h1 h2] at hp
      simp only [Option.bind_some, show (i : Int) < b.length by omega, decide_true, if_true]
      by_cases c1 : a[i] < b[i]
      · rw [if_pos c1] at hp ⊢
        exact ⟨_, rfl, hp⟩
      · rw [if_neg c1] at hp ⊢
        by_cases c2 : a[i] > b[i]
        · rw [if_pos c2] at hp ⊢; exact ⟨_, rfl, hp⟩
        · rw [if_neg c2] at hp ⊢; exact ⟨_, rfl, rfl, hp⟩
    · subst h
      rw [cmpL_end (by omega) (by omega)] at hp
      simp only [f153_0]
      by_cases c : ((min a.length b.length : Nat) : Int) < a.length
      · rw [if_pos c]
        simp only [Option.bind_some, show ¬ ((min a.length b.length : Nat) : Int) < b.length by omega, decide_false]
        exact ⟨_, rfl, hp⟩
      · rw [if_neg c]; exact ⟨_, rfl, hp⟩
  · cases o with
    | inl _ =>
      dsimp only at ho ⊢
      by_cases c1 : a.length < b.length
      · rw [if_pos c1] at ho; rw [if_pos (by omega)]; exact Ens.of ho
      · rw [if_neg c1] at ho; rw [if_neg (by omega)]
        by_cases c2 : a.length > b.length
        · rw [if_pos c2] at ho; rw [if_pos (by omega)]; exact Ens.of ho
        · rw [if_neg c2] at ho; rw [if_neg (by omega)]; exact Ens.of ho
    | inr x => exact Ens.of ho
theorem cmpInt {a b : Int} : f196 a b = some (if a < b then -1 else if a > b then 1 else 0) := by
  unfold f196 f203
  simp only [ne_eq, not_true_eq_false, decide_false, Option.bind_some, Bool.false_eq_true, if_false]
  split
  · rfl
  · split <;> rfl
theorem impInts {a b : List Int} (ha : Big a.length) (hb : Big b.length) : f181 a b = some (cmpL a b) := by
  unfold f181
  refine Ens.eq (Q := fun r => r = cmpL a b) (Ens.bind (Q := fun o => match o with | .inl _ => (if a.length < b.length then -1 else 0) = cmpL a b | .inr x => x = cmpL a b) ?_ fun o ho => ?_) _ (fun _ h => h)
  · refine iter_up (f := f181_0 a b) a.length (fun i s => s = (i : Int) ∧ i ≤ b.length ∧ cmpL (a.drop i) (b.drop i) = cmpL a b) _ (fun i s hi ⟨h, hl, hp⟩ => ?_) (fun s ⟨h, hl, hp⟩ => ?_) 0 ⟨rfl, by omega, rfl⟩
    · subst h
      simp only [f181_0]
      rw [if_pos (by omega), ix_nat hi, w64_succ (by omega)]
      by_cases h2 : i < b.length
      · rw [Option.bind_some, if_neg (by omega), ix_nat h2]
        rw [cmpL_step hi h2] at hp
        simp only [Option.bind_some, cmpInt]
        by_cases c1 : a[i] < b[i]
        · rw [if_pos c1] at hp ⊢
          rw [if_pos (by omega)]; exact ⟨_, rfl, hp⟩
        · rw [if_neg c1] at hp ⊢
          by_cases c2 : a[i] > b[i]
          · rw [if_pos c2] at hp ⊢; rw [if_pos (by omega)]; exact ⟨_, rfl, hp⟩
          · rw [if_neg c2] at hp ⊢; rw [if_neg (by omega)]; exact ⟨_, rfl, rfl, by omega, hp⟩
      · rw [Option.bind_some, if_pos (by omega)]
        rw [cmpL_end (by omega) (by omega), if_neg (by omega), if_pos (by omega)] at hp
        exact ⟨_, rfl, hp⟩
    · subst h
      simp only [f181_0]
      rw [if_neg (by omega)]
      rw [cmpL_end (by omega) (by omega)] at hp
      refine ⟨_, rfl, ?_⟩
      dsimp only
      rw [← hp]
      by_cases c1 : a.length < b.length
      · rw [if_pos c1, if_pos c1]
      · rw [if_neg c1, if_neg c1, if_neg (by omega)]
  · cases o with
    | inl _ =>
      dsimp only at ho ⊢
      by_cases c1 : a.length < b.length
      · rw [if_pos c1] at ho; rw [if_pos (by omega)]; exact Ens.of ho
      · rw [if_neg c1] at ho; rw [if_neg (by omega)]; exact Ens.of ho
    | inr x => exact Ens.of ho
def cmpF (a b : Fact) : Int := if a.Relation < b.Relation then -1 else if a.Relation > b.Relation then 1 else cmpL a.Values b.Values
theorem specCmp {a b : Fact} (ha : Big a.Values.length) (hb : Big b.Values.length) : f93 a b = some (cmpF a b) := by
  unfold f93 cmpF
  rw [specInts ha hb]
  split
  · rfl
  · split <;> rfl
theorem impCmp {a b : Fact} (ha : Big a.Values.length) (hb : Big b.Values.length) : f146 a b = some (cmpF a b) := by
  unfold f146 f180 cmpF
  rw [impInts ha hb]
  by_cases c1 : a.Relation < b.Relation
  · rw [if_pos (by omega), if_pos c1, if_pos c1]; rfl
  · rw [if_neg c1, if_neg c1]
    by_cases c2 : a.Relation > b.Relation
    · rw [if_pos (by omega), if_pos c2, if_pos c2]; rfl
    · rw [if_neg (by omega), if_neg c2]; rfl
/-- Sizes with room for counting. -/
def Room (d : Database) : Prop := Big d.Relations.length ∧ Big d.Facts.length ∧ ∀ x ∈ d.Facts, Big x.Values.length
theorem fits_room {d : Database} (h : Fits d) : Room d := ⟨by have := h.1; omega, by have := h.2.1; omega, fun x hx => by have := h.2.2 x hx; omega⟩
def gFacts (d : Database) : Bool := good (vFact d.Relations) (fun a b => decide (cmpF a b < 0)) d.Facts
def vDb (d : Database) : Bool := vRels d.Relations && (decide (d.Facts.length ≤ 14) && gFacts d)
theorem good_congr {q q' : α → Bool} {r : α → α → Bool} {l : List α} (h : ∀ a ∈ l, q a = q' a) : good q r l = good q' r l := by
  unfold good
  congr 1
  apply propext
  constructor
  · intro g i hi; rw [← h _ (List.getElem_mem hi)]; exact g i hi
  · intro g i hi; rw [h _ (List.getElem_mem hi)]; exact g i hi
theorem specDb {d : Database} (h : Room d) : f36 d = some (vDb d) := by
  obtain ⟨h1, h2, h3⟩ := h
  unfold f36
  rw [iter_adj (fun f => vRels d.Relations && vFact d.Relations f) (fun a b => decide (cmpF a b < 0)) d.Facts false (fun i hi => by
    simp only [f36_0]
    rw [if_pos (by omega), ix_nat hi, w64_succ (by omega)]
    simp only [Option.bind_some, specFact h1 (h3 _ (List.getElem_mem hi))]
    cases (vRels d.Relations && vFact d.Relations d.Facts[i])
    · simp
    · by_cases h0 : i = 0
      · subst h0; simp
      · have e : ix d.Facts (w64 ((i : Int) - 1)) = some (d.Facts[i - 1]'(by omega)) := by rw [w64_of (by omega), show (i : Int) - 1 = ((i - 1 : Nat) : Int) by omega, ix_nat (by omega)]
        simp only [e, Option.bind_some, specCmp (h3 _ (List.getElem_mem (show i - 1 < d.Facts.length by omega))) (h3 _ (List.getElem_mem hi))]
        have : 0 < i := by omega
        by_cases hb : cmpF (d.Facts[i - 1]'(by omega)) d.Facts[i] < 0
        · simp [h0, this, hb, Int.not_le.2 hb]
        · simp [h0, this, hb, show 0 ≤ cmpF (d.Facts[i - 1]'(by omega)) d.Facts[i] by omega]) (by
    simp only [f36_0]
    rw [if_neg (by omega)])]
  unfold vDb
  rw [specRels h1]
  cases hv : vRels d.Relations
  · split <;> simp
  · have e : good (fun f => true && vFact d.Relations f) (fun a b => decide (cmpF a b < 0)) d.Facts = gFacts d := good_congr fun a _ => Bool.true_and _
    rw [e]
    cases gFacts d
    · simp
    · simp; omega
theorem impDb {d : Database} (h : Room d) : f86 d = some (vDb d) := by
  obtain ⟨h1, h2, h3⟩ := h
  unfold f86 vDb
  rw [impRels h1, Option.bind_some]
  cases vRels d.Relations
  · simp
  · by_cases hn : d.Facts.length ≤ 14
    · rw [iter_adj (vFact d.Relations) (fun a b => decide (cmpF a b < 0)) d.Facts false (fun i hi => by
        simp only [f86_0]
        rw [if_pos (by omega), ix_nat hi, w64_succ (by omega)]
        simp only [Option.bind_some, impFact h1 (h3 _ (List.getElem_mem hi))]
        cases vFact d.Relations d.Facts[i]
        · simp
        · by_cases h0 : i = 0
          · subst h0; simp
          · have e : ix d.Facts (w64 ((i : Int) - 1)) = some (d.Facts[i - 1]'(by omega)) := by rw [w64_of (by omega), show (i : Int) - 1 = ((i - 1 : Nat) : Int) by omega, ix_nat (by omega)]
            simp only [e, Option.bind_some, impCmp (h3 _ (List.getElem_mem (show i - 1 < d.Facts.length by omega))) (h3 _ (List.getElem_mem hi))]
            have : 0 < i := by omega
            by_cases hb : cmpF (d.Facts[i - 1]'(by omega)) d.Facts[i] < 0
            · simp [h0, this, hb, Int.not_le.2 hb]
            · simp [h0, this, hb, show 0 ≤ cmpF (d.Facts[i - 1]'(by omega)) d.Facts[i] by omega]) (by
        simp only [f86_0]
        rw [if_neg (by omega)])]
      change _ = some (true && (decide (d.Facts.length ≤ 14) && good (vFact d.Relations) (fun a b => decide (cmpF a b < 0)) d.Facts))
      cases good (vFact d.Relations) (fun a b => decide (cmpF a b < 0)) d.Facts
      · simp
      · simp [hn]; omega
    · simp [hn]; omega
/-- Indices that climb. -/
def asc (n : Int) (l : List Int) : Bool := good (fun v => btw v 0 (n - 1)) (fun a b => decide (a < b)) l
theorem specSet {d : Database} {l : List Int} (hd : Big d.Facts.length) (h : Big l.length) : f96 d l = some (asc d.Facts.length l) := by
  unfold f96
  rw [iter_adj (fun v => btw v 0 ((d.Facts.length : Int) - 1)) (fun a b => decide (a < b)) l false (fun i hi => by
    simp only [f96_0]
    rw [if_pos (by omega), ix_nat hi, w64_succ (by omega), w64_of (n := (d.Facts.length : Int) - 1) (by omega)]
    simp only [Option.bind_some, specIn]
    cases btw l[i] 0 ((d.Facts.length : Int) - 1)
    · simp
    · by_cases h0 : i = 0
      · subst h0; simp
      · have e : ix l (w64 ((i : Int) - 1)) = some (l[i - 1]'(by omega)) := by rw [w64_of (by omega), show (i : Int) - 1 = ((i - 1 : Nat) : Int) by omega, ix_nat (by omega)]
        simp only [e]
        have : 0 < i := by omega
        by_cases hb : l[i - 1]'(by omega) < l[i]
        · simp [h0, this, hb, Int.not_le.2 hb]
        · simp [h0, this, hb, Int.not_lt.1 hb]) (by
    simp only [f96_0]
    rw [if_neg (by omega)])]
  unfold asc
  cases good (fun v => btw v 0 ((d.Facts.length : Int) - 1)) (fun a b => decide (a < b)) l <;> simp
theorem impSet {l : List Int} {n : Nat} (hd : Big n) (h : Big l.length) : f101 l n = some (asc n l) := by
  unfold f101
  rw [iter_adj (fun v => btw v 0 ((n : Int) - 1)) (fun a b => decide (a < b)) l false (fun i hi => by
    simp only [f101_0]
    rw [if_pos (by omega), ix_nat hi, w64_succ (by omega), w64_of (n := (n : Int) - 1) (by omega)]
    simp only [Option.bind_some, impIn]
    cases btw l[i] 0 ((n : Int) - 1)
    · simp
    · by_cases h0 : i = 0
      · subst h0; simp
      · have e : ix l (w64 ((i : Int) - 1)) = some (l[i - 1]'(by omega)) := by rw [w64_of (by omega), show (i : Int) - 1 = ((i - 1 : Nat) : Int) by omega, ix_nat (by omega)]
        simp only [e]
        have : 0 < i := by omega
        by_cases hb : l[i - 1]'(by omega) < l[i]
        · simp [h0, this, hb, Int.not_le.2 hb]
        · simp [h0, this, hb, Int.not_lt.1 hb]) (by
    simp only [f101_0]
    rw [if_neg (by omega)])]
  unfold asc
  cases good (fun v => btw v 0 ((n : Int) - 1)) (fun a b => decide (a < b)) l <;> simp
end Go.Proofs.YtabmomjfdondnaaH

