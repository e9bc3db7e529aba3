import Derived.Test.YtcllfkplpdppiaaTd1
import Derived.Test.YtcllfkplpdppiaaX3
import Derived.Test.YtcllfkplpdppiaaRd1
set_option linter.unusedVariables false
set_option linter.unusedSimpArgs false
set_option linter.defProp false
set_option linter.unusedSectionVars false
namespace Go.Proofs.YtcllfkplpdppiaaH
theorem bS {α β : Type} {a : α} {f : α → Option β} : (some a).bind f = f a := rfl
end Go.Proofs.YtcllfkplpdppiaaH
namespace Go.Proofs.YtcllfkplpdppiaaH
open Go
def Cur (c : L1Cur) : Prop := 0 ≤ c.i ∧ c.i ≤ c.b.length ∧ c.b.length ≤ 1048576
theorem newOk {code : List Int} (h : code.length ≤ 1048576) : Ens (f42 code) Cur := by
 unfold f42
 refine Ens.bind (Q := fun _ => True) ?_ fun a _ => Ens.of ⟨by simp, by simp, h⟩
 refine iter_up (f := f42_0 code) code.length (fun i s => ∃ x, s = (x, (i : Int))) (fun _ => True) (fun i s hi ⟨x, hs⟩ => ?_) (fun s ⟨x, hs⟩ => ?_) _ ⟨_, rfl⟩
 ·subst hs
  simp only [f42_0]
  rw [if_pos (by omega), bS]
  by_cases h4 : (i : Int) < 4000
  ·rw [if_pos (by simpa using h4), ix_nat hi, bS, w64_succ (by omega)]
   exact ⟨_, rfl, _, rfl⟩
  ·rw [if_neg (by simpa using h4)]
   exact ⟨_, rfl, trivial⟩
 ·subst hs
  simp only [f42_0]
  rw [if_neg (by omega), bS, if_neg (by simp)]
  exact ⟨_, rfl, trivial⟩
theorem byteOk {c : L1Cur} (h : Cur c) : Ens (f45 c) fun r => 0 ≤ r.1 ∧ r.1 ≤ 255 ∧ Cur r.2 := by
 unfold f45
 obtain ⟨h0, h1, h2⟩ := h
 refine Ens.bind (Q := fun x : Int × Int => 0 ≤ x.1 ∧ x.1 ≤ (c.b.length : Int) ∧ 0 ≤ x.2 ∧ x.2 ≤ 255) ?_ fun a ha => Ens.of ⟨ha.2.2.1, ha.2.2.2, ha.1, ha.2.1, h2⟩
 refine Ens.ite (fun hc => ?_) fun hc => Ens.of ⟨h0, h1, band_255⟩
 rw [ix_getD (d := 0) h0 hc, bS]
 refine Ens.of ⟨?_, ?_, band_255⟩
 ·rw [w64_of (by omega)]; omega
 ·rw [w64_of (by omega)]; dsimp only; omega
theorem belowOk {c : L1Cur} {n : Int} (h : Cur c) : Ens (f24 c n) fun r => 0 ≤ r.1 ∧ (n ≤ 0 → r.1 = 0) ∧ (0 < n → r.1 < n) ∧ Cur r.2 := by
 unfold f24
 refine Ens.ite (fun hc => Ens.of ⟨by simp, fun _ => rfl, fun h => by omega, h⟩) fun hc => ?_
 refine Ens.ite (fun hd => ?_) fun hd => ?_
 ·refine Ens.bind (byteOk h) fun a ⟨a0, a1, a2⟩ => ?_
  rw [nz_ok (by omega), bS]
  have := tmod_lt (n := n) a0 (by omega)
  exact Ens.of ⟨this.1, fun h => by omega, fun _ => this.2, a2⟩
 ·refine Ens.bind (byteOk h) fun a ⟨a0, a1, a2⟩ => ?_
  refine Ens.bind (byteOk a2) fun b ⟨b0, b1, b2⟩ => ?_
  refine Ens.bind (byteOk b2) fun c ⟨c0, c1, c2⟩ => ?_
  refine Ens.bind (byteOk c2) fun d ⟨d0, d1, d2⟩ => ?_
  rw [nz_ok (by omega), bS]
  rw [w64_of (n := a.1 * 16777216) (by omega), w64_of (n := b.1 * 65536) (by omega), w64_of (n := c.1 * 256) (by omega), w64_of (n := a.1 * 16777216 + b.1 * 65536) (by omega), w64_of (n := a.1 * 16777216 + b.1 * 65536 + c.1 * 256) (by omega), w64_of (by omega)]
  have := tmod_lt (n := n) (a := a.1 * 16777216 + b.1 * 65536 + c.1 * 256 + d.1) (by omega) (by omega)
  exact Ens.of ⟨this.1, fun h => by omega, fun _ => this.2, d2⟩
theorem onceOk {c : L1Cur} {n : Int} (h : Cur c) : Ens (f71 c n) fun r => Cur r.2 := by
 unfold f71
 exact Ens.bind (belowOk h) fun a ha => Ens.of ha.2.2.2
theorem pickOk {c : L1Cur} {l : List Int} (h : Cur c) (hl : 0 < l.length) : Ens (f59 c l) fun r => r.1 ∈ l ∧ Cur r.2 := by
 unfold f59
 refine Ens.bind (belowOk h) fun a ha => ?_
 have h1 := ha.1
 have h2 := ha.2.2.1 (by omega)
 rw [ix_of h1, List.getElem?_eq_getElem (by omega), bS]
 exact Ens.of ⟨List.getElem_mem _, ha.2.2.2⟩
end Go.Proofs.YtcllfkplpdppiaaH
namespace Go.Proofs.YtcllfkplpdppiaaH
open Go
end Go.Proofs.YtcllfkplpdppiaaH
namespace Go.Proofs.YtcllfkplpdppiaaH
open Go
abbrev Big (n : Nat) : Prop := n ≤ 9223372036854775806
theorem hasI {l : List Int} {x : Int} (h : Big l.length) : f32 l x = some (l.contains x) := by
 unfold f32
 rw [iter_ex l (fun a => x == a) true (fun i hi => by
  simp only [f32_0]
  rw [if_pos (by omega), ix_nat hi, w64_succ (by omega)]
  simp only [bS]
  by_cases hc : l[i] = x
  ·rw [if_pos hc, if_pos (by simp [hc])]
  ·rw [if_neg hc, if_neg (by simp; exact fun h => hc h.symm)]) (by
  simp only [f32_0]
  rw [if_neg (by omega)])]
 rw [show l.contains x = l.any (fun a => x == a) from List.any_beq.symm]
 by_cases hc : l.any (fun a => x == a) = true
 ·rw [if_pos hc, hc]; rfl
 ·rw [if_neg hc]; simp only [Bool.not_eq_true] at hc; rw [hc]; rfl
theorem indexI {s : List Int} {f : Int → Option Bool} {p : Int → Bool} (h : Big s.length) (hf : ∀ a ∈ s, f a = some (p a)) : f66 s f = some (s.any p) := by
 unfold f66 f76
 obtain ⟨o, h1, h2⟩ := iter_idx (f := f76_0 s f) s p (fun i hi => by
  simp only [f76_0]
  rw [if_pos (by omega), ix_nat hi, w64_succ (by omega)]
  simp only [bS, hf _ (List.getElem_mem hi)]
  split <;> rfl) (by
  simp only [f76_0]
  rw [if_neg (by omega)])
 rw [h1]
 cases o with
 | inl _ => dsimp only at h2; rw [h2]; rfl
 | inr x => dsimp only at h2; rw [h2.2]; simp; omega
theorem containsI {s : List Int} {v : Int} (h : Big s.length) : f65 s v = some (s.contains v) := by
 unfold f65 f75
 obtain ⟨o, h1, h2⟩ := iter_idx (f := f75_0 s v) s (fun a => v == a) (fun i hi => by
  simp only [f75_0]
  rw [if_pos (by omega), ix_nat hi, w64_succ (by omega)]
  simp only [bS, beq_iff_eq]
  split <;> rfl) (by
  simp only [f75_0]
  rw [if_neg (by omega)])
 rw [h1]
 rw [show s.contains v = s.any (fun a => v == a) from List.any_beq.symm]
 cases o with
 | inl _ => dsimp only at h2; rw [h2]; rfl
 | inr x => dsimp only at h2; rw [h2.2]; simp; omega
theorem subset {a b : List Int} (ha : Big a.length) (hb : Big b.length) : f53 a b = some (a.all b.contains) := by
 unfold f53
 rw [indexI (p := fun x => !b.contains x) ha (fun x _ => by
  unfold f67
  rw [containsI hb]
  simp)]
 rw [any_not]
 simp
end Go.Proofs.YtcllfkplpdppiaaH
namespace Go.Proofs.YtcllfkplpdppiaaH
open Go
def smaller (l : List (List Int)) (k i : Nat) : Bool := decide ((l.getD k []).length < (l.getD i []).length) || (decide (k < i) && decide ((l.getD k []).length = (l.getD i []).length))
def least (l : List (List Int)) (i : Nat) : Bool := (List.range l.length).all fun k => !(smaller l k i && (l.getD k []).all (l.getD i []).contains)
end Go.Proofs.YtcllfkplpdppiaaH
namespace Go.Proofs.YtcllfkplpdppiaaH
open Go
end Go.Proofs.YtcllfkplpdppiaaH
namespace Go.Proofs.YtcllfkplpdppiaaH
open Go
variable {α ρ : Type}
def good (q : α → Bool) (r : α → α → Bool) (l : List α) : Bool := decide (∀ i (h : i < l.length), (q l[i] && (decide (i = 0) || r (l[i - 1]'(by omega)) l[i])) = true)
theorem good_of {q : α → Bool} {r : α → α → Bool} {l : List α} (h : good q r l = true) {i : Nat} (hi : i < l.length) : q l[i] = true ∧ (0 < i → r (l[i - 1]'(by omega)) l[i] = true) := by
 have := of_decide_eq_true h i hi
 simp only [Bool.and_eq_true, Bool.or_eq_true, decide_eq_true_eq] at this
 exact ⟨this.1, fun hp => this.2.resolve_left (by omega)⟩
theorem iter_adj {f : Int → Option (Int ⊕ (Unit ⊕ ρ))} (q : α → Bool) (r : α → α → Bool) (L : List α) (c : ρ)
  (hs : ∀ (i : Nat) (h : i < L.length), f (i : Int) = some (if (q L[i] && (decide (i = 0) || r (L[i - 1]'(by omega)) L[i])) = true then .inl ((i + 1 : Nat) : Int) else .inr (.inr c)))
  (he : f (L.length : Int) = some (.inr (.inl ()))) : iter f 0 = some (if good q r L = true then .inl () else .inr c) := by
 obtain ⟨o, h1, h2⟩ := iter_up (f := f) L.length (fun i s => s = (i : Int) ∧ ∀ j (h : j < L.length), j < i → (q L[j] && (decide (j = 0) || r (L[j - 1]'(by omega)) L[j])) = true)
  (fun o => o = if good q r L = true then .inl () else .inr c) (fun i s hi ⟨h, hp⟩ => by
   subst h
   refine ⟨_, hs i hi, ?_⟩
   by_cases hc : (q L[i] && (decide (i = 0) || r (L[i - 1]'(by omega)) L[i])) = true
   ·rw [if_pos hc]
    refine ⟨rfl, fun j hj hlt => ?_⟩
    by_cases e : j = i
    ·subst e; exact hc
    ·exact hp j hj (by omega)
   ·rw [if_neg hc]
    dsimp only
    rw [if_neg]
    intro hg
    exact hc (of_decide_eq_true hg i hi)) (fun s ⟨h, hp⟩ => by
   subst h
   refine ⟨_, he, ?_⟩
   rw [if_pos]
   exact decide_eq_true fun i hi => hp i hi hi) 0 ⟨rfl, fun j _ h => by omega⟩
 rw [h1, h2]
def btw (x low high : Int) : Bool := decide (low ≤ x) && decide (x ≤ high)
theorem specIn {x a b : Int} : f30 x a b = some (btw x a b) := by
 unfold f30 btw
 by_cases h : a ≤ x
 ·rw [if_pos (show x ≥ a from h)]; simp [h]
 ·rw [if_neg (show ¬ x ≥ a from h)]; simp [h]
theorem impIn {x a b : Int} : f26 x a b = some (btw x a b) := by
 unfold f26 btw
 by_cases h : a ≤ x
 ·rw [if_pos h]; simp [h]
 ·rw [if_neg h]; simp [h]
def vRel (r : Relation) : Bool := decide (r.Name.length = 1) && (decide (97 ≤ (r.Name.getD 0 0).toNat) && (decide ((r.Name.getD 0 0).toNat ≤ 122) && (btw r.Arity 1 3 && btw r.KeyLength 0 r.Arity)))
theorem specRel {r : Relation} : f58 r = some (vRel r) := by
 unfold f58 vRel
 by_cases h1 : r.Name.length = 1
 ·rw [if_pos (by omega)]
  have e : ix r.Name 0 = some (r.Name.getD 0 0) := by rw [ix_of (by omega)]; simp [List.getElem?_eq_getElem (show 0 < r.Name.length by omega)]
  rw [e, bS]
  generalize r.Name.getD 0 0 = c
  by_cases h2 : 97 ≤ c.toNat
  ·rw [if_pos (by omega)]
   by_cases h3 : c.toNat ≤ 122
   ·rw [if_pos (by omega), specIn, bS]
    cases hb : btw r.Arity 1 3
    ·simp
    ·simp [specIn, h1, h2, h3]
   ·rw [if_neg (by omega)]; simp [h3]
  ·rw [if_neg (by omega)]; simp [h2]
 ·rw [if_neg (by omega)]; simp [h1]
theorem impRel {r : Relation} : f61 r = some (vRel r) := by
 unfold f61 vRel
 by_cases h1 : r.Name.length = 1
 ·rw [if_pos (by omega)]
  have e : ix r.Name 0 = some (r.Name.getD 0 0) := by rw [ix_of (by omega)]; simp [List.getElem?_eq_getElem (show 0 < r.Name.length by omega)]
  rw [e, bS]
  generalize r.Name.getD 0 0 = c
  by_cases h2 : 97 ≤ c.toNat
  ·rw [if_pos (by omega)]
   by_cases h3 : c.toNat ≤ 122
   ·rw [if_pos (by omega), impIn, bS]
    cases hb : btw r.Arity 1 3
    ·simp
    ·simp [impIn, h1, h2, h3]
   ·rw [if_neg (by omega)]; simp [h3]
  ·rw [if_neg (by omega)]; simp [h2]
 ·rw [if_neg (by omega)]; simp [h1]
def vRels (l : List Relation) : Bool := good vRel (fun a b => Op.bytesLess a.Name b.Name) l && decide (l.length ≤ 4)
theorem specRels {l : List Relation} (h : Big l.length) : f39 l = some (vRels l) := by
 unfold f39 vRels
 rw [iter_adj vRel (fun a b => Op.bytesLess a.Name b.Name) l false (fun i hi => by
  simp only [f39_0]
  rw [if_pos (by omega), ix_nat hi, w64_succ (by omega)]
  simp only [bS, specRel]
  cases vRel l[i]
  ·simp
  ·by_cases h0 : i = 0
   ·subst h0; simp
   ·have e : ix l (w64 ((i : Int) - 1)) = some (l[i - 1]'(by omega)) := by rw [w64_of (by omega), show (i : Int) - 1 = ((i - 1 : Nat) : Int) by omega, ix_nat (by omega)]
    simp only [e]
    have : 0 < i := by omega
    cases hb : Op.bytesLess (l[i - 1]'(by omega)).Name l[i].Name <;> simp [h0, this, hb]) (by
  simp only [f39_0]
  rw [if_neg (by omega)])]
 cases good vRel (fun a b => Op.bytesLess a.Name b.Name) l
 ·simp
 ·simp; omega
theorem impRels {l : List Relation} (h : Big l.length) : f46 l = some (vRels l) := by
 unfold f46 vRels
 rw [iter_adj vRel (fun a b => Op.bytesLess a.Name b.Name) l false (fun i hi => by
  simp only [f46_0]
  rw [if_pos (by omega), ix_nat hi, w64_succ (by omega)]
  simp only [bS, impRel]
  cases vRel l[i]
  ·simp
  ·by_cases h0 : i = 0
   ·subst h0; simp
   ·have e : ix l (w64 ((i : Int) - 1)) = some (l[i - 1]'(by omega)) := by rw [w64_of (by omega), show (i : Int) - 1 = ((i - 1 : Nat) : Int) by omega, ix_nat (by omega)]
    simp only [e]
    have : 0 < i := by omega
    cases hb : Op.bytesLess (l[i - 1]'(by omega)).Name l[i].Name <;> simp [h0, this, hb]) (by
  simp only [f46_0]
  rw [if_neg (by omega)])]
 cases good vRel (fun a b => Op.bytesLess a.Name b.Name) l
 ·simp
 ·simp; omega
def arity (l : List Relation) (r : Int) : Int := (l[r.toNat]?.map (·.Arity)).getD 0
def keyLen (l : List Relation) (r : Int) : Int := (l[r.toNat]?.map (·.KeyLength)).getD 0
theorem ix_rel {l : List Relation} {r : Int} (h : btw r 0 (l.length - 1) = true) : ∃ x, ix l r = some x ∧ x ∈ l ∧ x.Arity = arity l r ∧ x.KeyLength = keyLen l r := by
 unfold btw at h; simp only [Bool.and_eq_true, decide_eq_true_eq] at h
 have e : l[r.toNat]? = some (l[r.toNat]'(by omega)) := List.getElem?_eq_getElem _
 refine ⟨l[r.toNat]'(by omega), ?_, List.getElem_mem _, ?_, ?_⟩
 ·rw [ix_of h.1, e]
 ·unfold arity; rw [e]; rfl
 ·unfold keyLen; rw [e]; rfl
def asc (n : Int) (l : List Int) : Bool := good (fun v => btw v 0 (n - 1)) (fun a b => decide (a < b)) l
theorem impSet {l : List Int} {n : Nat} (hd : Big n) (h : Big l.length) : f47 l n = some (asc n l) := by
 unfold f47
 rw [iter_adj (fun v => btw v 0 ((n : Int) - 1)) (fun a b => decide (a < b)) l false (fun i hi => by
  simp only [f47_0]
  rw [if_pos (by omega), ix_nat hi, w64_succ (by omega), w64_of (n := (n : Int) - 1) (by omega)]
  simp only [bS, impIn]
  cases btw l[i] 0 ((n : Int) - 1)
  ·simp
  ·by_cases h0 : i = 0
   ·subst h0; simp
   ·have e : ix l (w64 ((i : Int) - 1)) = some (l[i - 1]'(by omega)) := by rw [w64_of (by omega), show (i : Int) - 1 = ((i - 1 : Nat) : Int) by omega, ix_nat (by omega)]
    simp only [e]
    have : 0 < i := by omega
    by_cases hb : l[i - 1]'(by omega) < l[i]
    ·simp [h0, this, hb, Int.not_le.2 hb]
    ·simp [h0, this, hb, Int.not_lt.1 hb]) (by
  simp only [f47_0]
  rw [if_neg (by omega)])]
 unfold asc
 cases good (fun v => btw v 0 ((n : Int) - 1)) (fun a b => decide (a < b)) l <;> simp
end Go.Proofs.YtcllfkplpdppiaaH
namespace Go.Proofs.YtcllfkplpdppiaaH
open Go
variable {α ρ : Type}
theorem nodup_le : ∀ {n : Nat} {H : List Int}, H.Nodup → (∀ v ∈ H, 0 ≤ v ∧ v < n) → H.length ≤ n
 | 0, [], _, _ => by simp
 | 0, a :: H, _, h => by have := h a (by simp); omega
 | n + 1, H, hd, h => by
  have h1 : (H.erase ((n : Nat) : Int)).length ≤ n := nodup_le (hd.erase _) fun v hv => by
   have h2 := h v (List.mem_of_mem_erase hv)
   have h3 := (List.Nodup.mem_erase_iff hd).1 hv
   have := h3.1
   omega
  have h2 := List.length_erase (l := H) (a := ((n : Nat) : Int))
  split at h2 <;> omega
theorem vRel_mem {l : List Relation} (h : vRels l = true) {r : Relation} (hr : r ∈ l) : vRel r = true := by
 unfold vRels at h; simp only [Bool.and_eq_true] at h
 obtain ⟨i, hi, rfl⟩ := List.mem_iff_getElem.1 hr
 exact (good_of h.1 hi).1
variable {n : Nat} {sk : Nat → Nat → Bool}
def pick (c : Int → Bool) (bs : List (List Int)) : List Int := bs.filterMap fun b => b.find? c
def picks (c : Int → Bool) (bs : List (List Int)) : List Int × Bool := if (bs.all fun b => (b.find? c).isSome) = true then (pick c bs, true) else ([], false)
end Go.Proofs.YtcllfkplpdppiaaH
namespace Go.Proofs.YtcllfkplpdppiaaH
open Go
end Go.Proofs.YtcllfkplpdppiaaH
namespace Go.Proofs.YtcllfkplpdppiaaH
open Go
end Go.Proofs.YtcllfkplpdppiaaH
namespace Go.Proofs.YtcllfkplpdppiaaH
open Go
variable {n : Nat} {sk : Nat → Nat → Bool}
theorem asc_of {s : List Int} (h : asc n s = true) : s.Pairwise (· < ·) ∧ ∀ v ∈ s, 0 ≤ v ∧ v < n := by
 have hg := fun i (hi : i < s.length) => good_of h hi
 refine ⟨?_, ?_⟩
 ·rw [List.pairwise_iff_getElem]
  intro i j hi hj hij
  induction j with
  | zero => omega
  | succ j ih =>
   have h1 := (hg (j + 1) hj).2 (by omega)
   simp only [Nat.add_sub_cancel, decide_eq_true_eq] at h1
   by_cases e : i = j
   ·subst e; exact h1
   ·have := ih (by omega) (by omega); omega
 ·intro v hv
  obtain ⟨i, hi, rfl⟩ := List.getElem_of_mem hv
  have h1 := (hg i hi).1
  simp only [btw, Bool.and_eq_true, decide_eq_true_eq] at h1
  omega
theorem up_nodup {s : List Int} (h : s.Pairwise (· < ·)) : s.Nodup := h.imp fun hab e => by omega
theorem asc_len {s : List Int} (h : asc n s = true) : s.length ≤ n := nodup_le (up_nodup (asc_of h).1) (asc_of h).2
end Go.Proofs.YtcllfkplpdppiaaH
namespace Go.Proofs.YtcllfkplpdppiaaH
open Go
theorem flat_take {L : List (List Int)} {i : Nat} : (L.take i).flatten.length ≤ L.flatten.length := by
 conv => rhs; rw [← List.take_append_drop i L, List.flatten_append, List.length_append]
 omega
theorem concatN {L : List (List Int)} (hL : L.length ≤ 1048576) (h : L.flatten.length ≤ 1048576) : f57 L = some L.flatten := by
 unfold f57
 have q : ∀ i (hi : i < L.length), (L.take (i + 1)).flatten = (L.take i).flatten ++ L[i] := fun i hi => by rw [take_succ' hi, List.flatten_append]; simp
 have h1 := iter_steps (f := f57_0 L) (fun i => (((L.take i).flatten.length : Int), (i : Int))) L.length (L.flatten.length : Int) (fun i hi => by
  have e := congrArg List.length (q i hi)
  rw [List.length_append] at e
  have b := flat_take (L := L) (i := i + 1)
  simp only [f57_0]
  rw [if_pos (by omega), ix_nat hi, bS, w64_succ (by omega), w64_of (by omega), if_neg (by omega), bS, e]
  rw [Int.natCast_add (List.take i L).flatten.length]) (by
  simp only [f57_0]
  rw [if_neg (by omega), List.take_of_length_le (Nat.le_refl _)])
 simp only [List.take_zero, List.flatten_nil, List.length_nil, Int.natCast_zero, Int.ofNat_zero] at h1
 erw [h1]
 rw [bS]
 unfold f69 growN
 rw [if_pos ⟨by omega, by unfold room; omega⟩, bS]
 have h2 := iter_steps (f := f57_1 L) (fun i => (L.flatten.length - (L.take i).flatten.length, (L.take i).flatten, (i : Int))) L.length (0, L.flatten) (fun i hi => by
  have e := congrArg List.length (q i hi)
  rw [List.length_append] at e
  have b := flat_take (L := L) (i := i + 1)
  simp only [f57_1]
  rw [if_pos (by omega), ix_nat hi, bS, w64_succ (by omega)]
  unfold apps
  rw [if_pos ⟨by omega, by unfold room; omega⟩, bS, q i hi]
  simp only [List.length_append]
  rw [Nat.sub_sub]) (by
  simp only [f57_1]
  rw [if_neg (by omega), List.take_of_length_le (Nat.le_refl _), Nat.sub_self])
 simp only [List.take_zero, List.flatten_nil, List.length_nil, Nat.sub_zero, Int.natCast_zero, Int.ofNat_zero] at h2
 rw [Int.toNat_natCast]
 erw [h2]
 simp [nsk]
set_option maxRecDepth 10000 in
theorem bitsLen {n : Int} (h0 : 0 ≤ n) (h : n < 256) : Ens (f74 (IntKind.u64.wrap n)) fun _ => True := by
 have e : IntKind.u64.wrap n = n := by
  have : IntKind.u64.wrap n = n % 18446744073709551616 := by simp [IntKind.wrap, IntKind.bits, IntKind.signed]
  omega
 have e8 : w8 n = n := by
  have : w8 n = n % 256 := by simp [w8, IntKind.wrap, IntKind.bits, IntKind.signed]
  omega
 rw [e]
 unfold f74 f90
 rw [if_neg (by omega), bS]
 dsimp only
 rw [if_neg (by omega), bS]
 dsimp only
 rw [if_neg (by omega), bS]
 dsimp only
 rw [e8, ix_of h0, List.getElem?_eq_getElem (by show n.toNat < 256; omega)]
 exact ⟨_, rfl, trivial⟩
def insR : List Int → Int → List Int
 | [], v => [v]
 | a :: r, v => if v < a then a :: insR r v else v :: a :: r
theorem insR_perm : ∀ {r : List Int} {v : Int}, (insR r v).Perm (v :: r)
 | [], v => by simp [insR]
 | a :: r, v => by
  rw [insR]
  split
  ·exact ((insR_perm (r := r) (v := v)).cons a).trans (List.Perm.swap v a r)
  ·exact List.Perm.refl _
theorem insR_down : ∀ {r : List Int} {v : Int}, r.Pairwise (fun a b => b ≤ a) → (insR r v).Pairwise (fun a b => b ≤ a)
 | [], v, h => by simp [insR]
 | a :: r, v, h => by
  rw [insR]
  rw [List.pairwise_cons] at h
  split
  ·refine List.pairwise_cons.2 ⟨fun b hb => ?_, insR_down h.2⟩
   rcases List.mem_cons.1 (insR_perm.mem_iff.1 hb) with rfl | hb
   ·omega
   ·exact h.1 b hb
  ·refine List.pairwise_cons.2 ⟨fun b hb => ?_, List.pairwise_cons.2 h⟩
   rcases List.mem_cons.1 hb with rfl | hb
   ·omega
   ·have := h.1 b hb; omega
theorem cmpLess {x y : Int} : f86 x y = some (decide (x < y)) := by
 unfold f86 f101; simp
theorem insLoop : ∀ (r : List Int) (v : Int) (T : List Int), r.length + T.length ≤ 1048576 → iter (f80_1 0) (r.reverse ++ v :: T, (r.length : Int)) = some ((insR r v).reverse ++ T)
 | [], v, T, hl => by
  rw [iter_eq]
  simp [f80_1, insR]
 | a :: r, v, T, hl => by
  simp only [List.length_cons] at hl
  rw [iter_eq]
  simp only [f80_1]
  have e1 : ((a :: r).reverse ++ v :: T) = r.reverse ++ a :: v :: T := by simp
  have e2 : w64 (((a :: r).length : Int) - 1) = (r.length : Int) := by rw [w64_of (by simp; omega)]; simp
  have e3 : ((a :: r).length : Int) = ((r.length + 1 : Nat) : Int) := rfl
  rw [e1, e2, e3, if_pos (by omega)]
  have i1 : ix (r.reverse ++ a :: v :: T) ((r.length + 1 : Nat) : Int) = some v := by
   rw [ix_cast, List.getElem?_append_right (by simp)]; simp
  have i2 : ix (r.reverse ++ a :: v :: T) ((r.length : Nat) : Int) = some a := by
   rw [ix_cast, List.getElem?_append_right (by simp)]; simp
  have s1 : (r.reverse ++ a :: v :: T).set (r.length + 1) a = r.reverse ++ a :: a :: T := by
   rw [List.set_append_right _ _ (by simp)]; simp
  have i3 : ix (r.reverse ++ a :: a :: T) ((r.length : Nat) : Int) = some a := by
   rw [ix_cast, List.getElem?_append_right (by simp)]; simp
  have s2 : (r.reverse ++ a :: a :: T).set r.length v = r.reverse ++ v :: a :: T := by
   rw [List.set_append_right _ _ (by simp)]; simp
  rw [i1, bS, i2, bS, cmpLess]
  simp only [bS]
  rw [insR]
  by_cases c : v < a
  ·simp only [c, decide_true, if_true, Int.toNat_natCast, bS]
   rw [s1, i3]
   simp only [bS, s2]
   rw [insLoop r v (a :: T) (by simp; omega)]
   simp
  ·simp [c]
theorem insSort {x : List Int} (h : x.length ≤ 1048575) : Ens (f80 x 0 (x.length : Int)) fun r => r.Pairwise (· ≤ ·) ∧ r.Perm x := by
 unfold f80
 refine Ens.bind (Q := fun r => r.Pairwise (· ≤ ·) ∧ r.Perm x) ?_ fun a ha => Ens.of ha
 rw [w64_of (by omega)]
 cases x with
 | nil =>
  refine ⟨[], ?_, by simp, by simp⟩
  rw [iter_eq]; simp [f80_0]
 | cons y x =>
  simp only [List.length_cons] at h
  refine iter_up (f := f80_0 0 ((y :: x).length : Int)) x.length (fun k s => s.2 = ((k + 1 : Nat) : Int) ∧ ∃ r, s.1 = r.reverse ++ x.drop k ∧ r.length = k + 1 ∧ r.Pairwise (fun a b => b ≤ a) ∧ r.Perm (y :: x.take k)) _ (fun k s hk hI => ?_) (fun s hI => ?_) _ ⟨rfl, [y], by simp, by simp, by simp, by simp⟩
  ·obtain ⟨d, j⟩ := s
   obtain ⟨e1, r, e2, e3, e4, e5⟩ := hI
   dsimp only at e1 e2
   subst e1; subst e2
   simp only [f80_0]
   have e : r.reverse ++ x.drop k = r.reverse ++ x[k] :: x.drop (k + 1) := by rw [List.drop_eq_getElem_cons hk]
   rw [if_pos (by simp only [List.length_cons]; omega), e, ← e3, insLoop r x[k] _ (by simp; omega), bS, w64_succ (by omega)]
   refine ⟨_, rfl, by simp only [e3], insR r x[k], rfl, by rw [insR_perm.length_eq]; simp [e3], insR_down e4, ?_⟩
   rw [e3, take_succ' hk]
   refine insR_perm.trans ((e5.cons _).trans ?_)
   have : (x[k] :: (y :: x.take k)).Perm ((y :: x.take k) ++ [x[k]]) := (List.perm_append_singleton _ _).symm
   simpa using this
  ·obtain ⟨d, j⟩ := s
   obtain ⟨e1, r, e2, e3, e4, e5⟩ := hI
   dsimp only at e1 e2
   subst e1; subst e2
   simp only [f80_0]
   rw [if_neg (by simp only [List.length_cons]; omega)]
   refine ⟨_, rfl, ?_, ?_⟩
   ·rw [List.drop_of_length_le (Nat.le_refl _), List.append_nil, List.pairwise_reverse]; exact e4
   ·rw [List.drop_of_length_le (Nat.le_refl _), List.append_nil]
    rw [List.take_of_length_le (Nat.le_refl _)] at e5
    exact (List.reverse_perm r).trans e5
theorem sort12 {x : List Int} (h : x.length ≤ 12) : Ens (f63 x) fun r => r.Pairwise (· ≤ ·) ∧ r.Perm x := by
 unfold f63
 obtain ⟨k, hk, _⟩ := bitsLen (n := (x.length : Int)) (by omega) (by omega)
 rw [hk, bS]
 refine Ens.bind (Q := fun r => r.Pairwise (· ≤ ·) ∧ r.Perm x) ?_ fun a ha => Ens.of ha
 rw [show (64 : Nat) = 63 + 1 from rfl, f73]
 refine Ens.bind (Q := fun r => r.Pairwise (· ≤ ·) ∧ r.Perm x) ?_ fun a ha => Ens.of ha
 rw [iter_eq]
 simp only [f73_0]
 obtain ⟨r, hr, hq⟩ := insSort (x := x) (by omega)
 rw [w64_of (by omega), if_pos (by omega), hr]
 exact ⟨r, rfl, hq⟩
theorem compact_up : ∀ {l : List Int}, l.Pairwise (· ≤ ·) → (compactL l).Pairwise (· < ·) ∧ ∀ y, y ∈ compactL l ↔ y ∈ l
 | [], h => by simp [compactL]
 | [a], h => by simp [compactL]
 | a :: b :: r, h => by
  rw [List.pairwise_cons] at h
  obtain ⟨i1, i2⟩ := compact_up h.2
  rw [compactL]
  split
  ·rename_i e
   subst e
   exact ⟨i1, fun y => by rw [i2]; simp⟩
  ·rename_i e
   refine ⟨List.pairwise_cons.2 ⟨fun y hy => ?_, i1⟩, fun y => by simp [i2]⟩
   rw [i2] at hy
   have h1 := h.1 b (by simp)
   rcases List.mem_cons.1 hy with rfl | hy
   ·omega
   ·have := (List.pairwise_cons.1 h.2).1 y hy; omega
theorem union12 {a b : List Int} (h : a.length + b.length ≤ 12) : Ens (f50 a b) fun r => r.Pairwise (· < ·) ∧ (∀ y, y ∈ r ↔ y ∈ a ∨ y ∈ b) ∧ r.length ≤ 12 := by
 unfold f50
 have e : [a, b].flatten = a ++ b := by simp
 rw [concatN (by simp) (by rw [e]; simp; omega), e, bS]
 refine Ens.bind (sort12 (by simp; omega)) fun r hr => ?_
 have hl := hr.2.length_eq
 simp only [List.length_append] at hl
 unfold f64 compactN
 rw [if_pos (by omega)]
 obtain ⟨c1, c2⟩ := compact_up hr.1
 exact Ens.of ⟨c1, fun y => by rw [c2, hr.2.mem_iff, List.mem_append], by have := compactL_len r; omega⟩
theorem up_ext : ∀ {a b : List Int}, a.Pairwise (· < ·) → b.Pairwise (· < ·) → (∀ y, y ∈ a ↔ y ∈ b) → a = b
 | [], [], _, _, _ => rfl
 | [], y :: b, _, _, h => by have := (h y).2 (by simp); cases this
 | x :: a, [], _, _, h => by have := (h x).1 (by simp); cases this
 | x :: a, y :: b, ha, hb, h => by
  rw [List.pairwise_cons] at ha hb
  have e : x = y := by
   have h1 := (h x).1 (by simp)
   have h2 := (h y).2 (by simp)
   rcases List.mem_cons.1 h1 with e | h1
   ·exact e
   ·rcases List.mem_cons.1 h2 with e | h2
    ·exact e.symm
    ·have := ha.1 y h2; have := hb.1 x h1; omega
  subst e
  congr 1
  refine up_ext ha.2 hb.2 fun y => ?_
  have := h y
  constructor
  ·intro hy
   have q := ha.1 y hy
   rcases List.mem_cons.1 (this.1 (List.mem_cons.2 (.inr hy))) with e | e
   ·omega
   ·exact e
  ·intro hy
   have q := hb.1 y hy
   rcases List.mem_cons.1 (this.2 (List.mem_cons.2 (.inr hy))) with e | e
   ·omega
   ·exact e
end Go.Proofs.YtcllfkplpdppiaaH
namespace Go.Proofs.YtcllfkplpdppiaaH
open Go
def avars (t : List Int) : List Int := (List.range 4).flatMap fun v => if t.contains ((v : Nat) : Int) = true then [((v : Nat) : Int)] else []
theorem avars_up {t : List Int} : (avars t).Pairwise (· < ·) := by
 unfold avars
 simp only [List.range, List.range.loop, List.flatMap_cons, List.flatMap_nil, List.append_nil]
 generalize t.contains ((0 : Nat) : Int) = a
 generalize t.contains ((1 : Nat) : Int) = b
 generalize t.contains ((2 : Nat) : Int) = c
 generalize t.contains ((3 : Nat) : Int) = d
 cases a <;> cases b <;> cases c <;> cases d <;> simp
theorem avars_mem {t : List Int} {y : Int} : y ∈ avars t ↔ y ∈ t ∧ btw y 0 3 = true := by
 unfold avars btw
 simp only [List.mem_flatMap, List.mem_range, Bool.and_eq_true, decide_eq_true_eq]
 constructor
 ·rintro ⟨v, hv, h⟩
  by_cases c : t.contains ((v : Nat) : Int) = true
  ·rw [if_pos c, List.mem_singleton] at h
   subst h
   exact ⟨by simpa using c, by omega, by omega⟩
  ·rw [if_neg c] at h; cases h
 ·rintro ⟨h, h1, h2⟩
  refine ⟨y.toNat, by omega, ?_⟩
  rw [Int.toNat_of_nonneg h1, if_pos (by simpa using h)]
  simp
theorem avars_len {t : List Int} : (avars t).length ≤ 4 := by
 unfold avars
 simp only [List.range, List.range.loop, List.flatMap_cons, List.flatMap_nil, List.append_nil, List.length_append]
 split <;> split <;> split <;> split <;> simp
theorem specVars {a : Atom} (h : Big a.Terms.length) : f31 a = some (avars a.Terms) := by
 unfold f31
 rw [iter_flat (List.range 4) (fun v => if a.Terms.contains ((v : Nat) : Int) = true then [((v : Nat) : Int)] else []) id (fun k hk => by
  simp only [List.length_range] at hk
  have el : (((List.range 4).take k).flatMap fun v => if a.Terms.contains ((v : Nat) : Int) = true then [((v : Nat) : Int)] else []).length ≤ k := by
   have := take_flat_le (l := List.range 4) (i := k) (g := fun v => if a.Terms.contains ((v : Nat) : Int) = true then [((v : Nat) : Int)] else []) (m := 1) (fun a => by split <;> simp)
   omega
  generalize ((List.range 4).take k).flatMap (fun v => if a.Terms.contains ((v : Nat) : Int) = true then [((v : Nat) : Int)] else []) = out at el ⊢
  simp only [List.getElem_range]
  simp only [f31_0]
  rw [if_pos (by omega), hasI h, bS, w64_succ (by omega)]
  by_cases c : a.Terms.contains ((k : Nat) : Int) = true
  ·rw [if_pos c, if_pos c, app_fits (by simp; omega)]; rfl
  ·rw [if_neg c, if_neg c]; simp) (by
  simp only [f31_0]
  rw [if_neg (by simp)]; rfl)]
 rfl
theorem impVars {a : Atom} (h : a.Terms.length ≤ 12) : f51 a = some (avars a.Terms) := by
 unfold f51
 rw [iter_flat a.Terms (fun v => if btw v 0 3 = true then [v] else []) id (fun k hk => by
  have el : ((a.Terms.take k).flatMap fun v => if btw v 0 3 = true then [v] else []).length ≤ k := by
   have := take_flat_le (l := a.Terms) (i := k) (g := fun v => if btw v 0 3 = true then [v] else []) (m := 1) (fun a => by split <;> simp)
   omega
  generalize (a.Terms.take k).flatMap (fun v => if btw v 0 3 = true then [v] else []) = out at el ⊢
  simp only [f51_0]
  rw [if_pos (by omega), ix_nat hk, bS, impIn, bS, w64_succ (by omega)]
  by_cases c : btw a.Terms[k] 0 3 = true
  ·rw [if_pos c, if_pos c, app_fits (by simp; omega)]; rfl
  ·rw [if_neg c, if_neg c]; simp) (by
  simp only [f51_0]
  rw [if_neg (by omega)]; rfl)]
 rw [bS]
 dsimp only [id]
 have el : (a.Terms.flatMap fun v => if btw v 0 3 = true then [v] else []).length ≤ a.Terms.length := by
  have := take_flat_le (l := a.Terms) (i := a.Terms.length) (g := fun v => if btw v 0 3 = true then [v] else []) (m := 1) (fun a => by split <;> simp)
  rw [List.take_of_length_le (Nat.le_refl _)] at this
  omega
 obtain ⟨r, h1, h2, h3, _⟩ := union12 (a := a.Terms.flatMap fun v => if btw v 0 3 = true then [v] else []) (b := []) (by rw [List.length_nil]; omega)
 rw [h1, bS]
 congr 1
 refine up_ext h2 avars_up fun y => ?_
 rw [h3, avars_mem, List.mem_flatMap]
 constructor
 ·rintro (⟨v, hv, h⟩ | h)
  ·by_cases c : btw v 0 3 = true
   ·rw [if_pos c, List.mem_singleton] at h; subst h; exact ⟨hv, c⟩
   ·rw [if_neg c] at h; cases h
  ·cases h
 ·rintro ⟨h, c⟩
  exact .inl ⟨y, h, by rw [if_pos c]; simp⟩
def kvars (l : List Relation) (a : Atom) : List Int := if (btw a.Relation 0 (l.length - 1) && btw (keyLen l a.Relation) 0 a.Terms.length) = true then avars (a.Terms.take (keyLen l a.Relation).toNat) else []
theorem kvars_len {l : List Relation} {a : Atom} : (kvars l a).length ≤ 4 := by
 unfold kvars; split
 ·exact avars_len
 ·simp
theorem specKV {l : List Relation} {a : Atom} (hl : Big l.length) (h : Big a.Terms.length) : f34 l a = some (kvars l a) := by
 unfold f34 kvars
 rw [w64_of (by omega), specIn, bS]
 cases hb : btw a.Relation 0 (l.length - 1)
 ·simp
 ·obtain ⟨x, h1, _, _, h2⟩ := ix_rel hb
  rw [h1]
  simp only [not_true_eq_false, if_false, bS, specIn, h2]
  cases hk : btw (keyLen l a.Relation) 0 a.Terms.length
  ·simp
  ·unfold btw at hk; simp only [Bool.and_eq_true, decide_eq_true_eq] at hk
   simp only [not_true_eq_false, decide_false, Bool.false_eq_true, if_false, Bool.and_self, if_true]
   rw [cutL_ok (by omega) hk.1 hk.2, bS, specVars (by simp; omega)]; rfl
theorem impKV {l : List Relation} {a : Atom} (hl : Big l.length) (h : a.Terms.length ≤ 12) : f29 l a = some (kvars l a) := by
 unfold f29 kvars
 rw [w64_of (by omega), impIn, bS]
 cases hb : btw a.Relation 0 (l.length - 1)
 ·simp
 ·obtain ⟨x, h1, _, _, h2⟩ := ix_rel hb
  rw [h1]
  simp only [not_true_eq_false, if_false, bS, impIn, h2]
  cases hk : btw (keyLen l a.Relation) 0 a.Terms.length
  ·simp
  ·unfold btw at hk; simp only [Bool.and_eq_true, decide_eq_true_eq] at hk
   simp only [not_true_eq_false, decide_false, Bool.false_eq_true, if_false, Bool.and_self, if_true]
   rw [cutL_ok (by omega) hk.1 hk.2, bS, impVars (by simp; omega)]; rfl
theorem has14 {l w : List Int} (hl : Big l.length) (hw : Big w.length) : f55 l w = some (w.all l.contains) := by
 unfold f55
 rw [iter_ex w (fun v => !l.contains v) false (fun i hi => by
  simp only [f55_0]
  rw [if_pos (by omega), ix_nat hi, w64_succ (by omega)]
  simp only [bS, hasI hl]
  cases l.contains w[i] <;> simp) (by
  simp only [f55_0]
  rw [if_neg (by omega)])]
 rw [any_not]
 cases w.all l.contains <;> simp
theorem vRels_arity {l : List Relation} {r : Int} (h : vRels l = true) (hb : btw r 0 (l.length - 1) = true) : arity l r ≤ 3 := by
 obtain ⟨x, h1, h2, h3, _⟩ := ix_rel hb
 unfold vRels at h; simp only [Bool.and_eq_true] at h
 obtain ⟨i, hi, rfl⟩ := List.mem_iff_getElem.1 h2
 have := (good_of h.1 hi).1
 unfold vRel btw at this
 simp only [Bool.and_eq_true, decide_eq_true_eq] at this
 omega
end Go.Proofs.YtcllfkplpdppiaaH
namespace Go.Proofs.YtcllfkplpdppiaaH
open Go
def nfl (X : Int → Bool) : List Int := (List.range 4).flatMap fun v => if X ((v : Nat) : Int) = true then [((v : Nat) : Int)] else []
def In4 (X : Int → Bool) : Prop := ∀ v, X v = true → btw v 0 3 = true
def Le4 (X Y : Int → Bool) : Prop := ∀ v, X v = true → Y v = true
def cupX (X Y : Int → Bool) : Int → Bool := fun v => X v || Y v
theorem Le4.refl {X : Int → Bool} : Le4 X X := fun _ h => h
theorem Le4.trans {X Y Z : Int → Bool} (h : Le4 X Y) (g : Le4 Y Z) : Le4 X Z := fun v hv => g v (h v hv)
theorem Le4.antisymm {X Y : Int → Bool} (h : Le4 X Y) (g : Le4 Y X) : X = Y := by
 funext v
 rw [Bool.eq_iff_iff]
 exact ⟨h v, g v⟩
theorem avars_nfl {t : List Int} : avars t = nfl t.contains := rfl
theorem nfl_mem {X : Int → Bool} {y : Int} : y ∈ nfl X ↔ X y = true ∧ btw y 0 3 = true := by
 unfold nfl btw
 simp only [List.mem_flatMap, List.mem_range, Bool.and_eq_true, decide_eq_true_eq]
 constructor
 ·rintro ⟨v, hv, h⟩
  by_cases c : X ((v : Nat) : Int) = true
  ·rw [if_pos c, List.mem_singleton] at h
   subst h
   exact ⟨c, by omega, by omega⟩
  ·rw [if_neg c] at h; cases h
 ·rintro ⟨h, h1, h2⟩
  refine ⟨y.toNat, by omega, ?_⟩
  rw [Int.toNat_of_nonneg h1, if_pos h]
  simp
theorem nfl_up {X : Int → Bool} : (nfl X).Pairwise (· < ·) := by
 unfold nfl
 simp only [List.range, List.range.loop, List.flatMap_cons, List.flatMap_nil, List.append_nil]
 generalize X ((0 : Nat) : Int) = a
 generalize X ((1 : Nat) : Int) = b
 generalize X ((2 : Nat) : Int) = c
 generalize X ((3 : Nat) : Int) = d
 cases a <;> cases b <;> cases c <;> cases d <;> simp
theorem nfl_len {X : Int → Bool} : (nfl X).length ≤ 4 := by
 unfold nfl
 simp only [List.range, List.range.loop, List.flatMap_cons, List.flatMap_nil, List.append_nil, List.length_append]
 split <;> split <;> split <;> split <;> simp
theorem nfl_has {X : Int → Bool} (h : In4 X) : (nfl X).contains = X := by
 funext v
 rw [Bool.eq_iff_iff, List.contains_iff_mem, nfl_mem]
 exact ⟨fun h => h.1, fun hv => ⟨hv, h v hv⟩⟩
theorem nfl_congr {X Y : Int → Bool} (h : ∀ v, btw v 0 3 = true → X v = Y v) : nfl X = nfl Y := by
 refine up_ext nfl_up nfl_up fun y => ?_
 rw [nfl_mem, nfl_mem]
 constructor <;> rintro ⟨a, b⟩ <;> exact ⟨by rw [← a, h y b], b⟩
theorem nfl_in {X : Int → Bool} : In4 (nfl X).contains := fun v hv => by
 rw [List.contains_iff_mem, nfl_mem] at hv; exact hv.2
theorem nfl_nil : nfl (fun _ => false) = [] := by simp [nfl]
theorem cup_in {X Y : Int → Bool} (h : In4 X) (g : In4 Y) : In4 (cupX X Y) := fun v hv => by
 unfold cupX at hv
 rcases Bool.or_eq_true _ _ ▸ hv with a | a
 ·exact h v a
 ·exact g v a
theorem nfl_idem {X : Int → Bool} : nfl (nfl X).contains = nfl X := nfl_congr fun v hv => by
 rw [Bool.eq_iff_iff, List.contains_iff_mem, nfl_mem]
 exact ⟨fun h => h.1, fun h => ⟨h, hv⟩⟩
theorem unionI {a b : List Int} (h : a.length + b.length ≤ 12) (ha : In4 a.contains) (hb : In4 b.contains) : f50 a b = some (nfl (cupX a.contains b.contains)) := by
 obtain ⟨r, h1, h2, h3, _⟩ := union12 h
 rw [h1]
 congr 1
 refine up_ext h2 nfl_up fun y => ?_
 rw [h3, nfl_mem]
 unfold cupX
 simp only [Bool.or_eq_true, List.contains_iff_mem]
 constructor
 ·intro hy
  refine ⟨hy, ?_⟩
  rcases hy with hy | hy
  ·exact ha y (by rw [List.contains_iff_mem]; exact hy)
  ·exact hb y (by rw [List.contains_iff_mem]; exact hy)
 ·exact fun h => h.1
theorem bothS {a b : List Int} (ha : Big a.length) (hb : Big b.length) : f37 a b = some (nfl (cupX a.contains b.contains)) := by
 unfold f37
 rw [iter_flat (List.range 4) (fun v => if cupX a.contains b.contains ((v : Nat) : Int) = true then [((v : Nat) : Int)] else []) id (fun k hk => by
  simp only [List.length_range] at hk
  have el : (((List.range 4).take k).flatMap fun v => if cupX a.contains b.contains ((v : Nat) : Int) = true then [((v : Nat) : Int)] else []).length ≤ k := by
   have := take_flat_le (l := List.range 4) (i := k) (g := fun v => if cupX a.contains b.contains ((v : Nat) : Int) = true then [((v : Nat) : Int)] else []) (m := 1) (fun a => by split <;> simp)
   omega
  generalize ((List.range 4).take k).flatMap (fun v => if cupX a.contains b.contains ((v : Nat) : Int) = true then [((v : Nat) : Int)] else []) = out at el ⊢
  simp only [List.getElem_range]
  simp only [f37_0]
  rw [if_pos (by omega), hasI ha, hasI hb, w64_succ (by omega)]
  unfold cupX
  cases a.contains ((k : Nat) : Int)
  ·cases b.contains ((k : Nat) : Int)
   ·simp
   ·simp only [bS, Bool.false_eq_true, if_false, if_true, Bool.false_or]
    rw [app_fits (by simp; omega)]; rfl
  ·simp only [bS, if_true, Bool.true_or]
   rw [app_fits (by simp; omega)]; rfl) (by
  simp only [f37_0]
  rw [if_neg (by simp)]; rfl)]
 rfl
structure Rule where
 c : (Int → Bool) → Bool
 a : Int → Bool
def Rule.mono (r : Rule) : Prop := ∀ X Y, Le4 X Y → r.c X = true → r.c Y = true
def fire (X : Int → Bool) (r : Rule) : Int → Bool := if r.c X = true then cupX X r.a else X
def pass (L : List Rule) (X : Int → Bool) : Int → Bool := L.foldl fire X
def passes (L : List Rule) : Nat → (Int → Bool) → Int → Bool
 | 0, X => X
 | n + 1, X => pass L (passes L n X)
def Clo (L : List Rule) (X : Int → Bool) : Prop := ∀ r ∈ L, r.c X = true → Le4 r.a X
theorem fire_le {X : Int → Bool} {r : Rule} : Le4 X (fire X r) := fun v hv => by
 unfold fire; split
 ·unfold cupX; rw [hv]; rfl
 ·exact hv
theorem pass_le {L : List Rule} {X : Int → Bool} : Le4 X (pass L X) := by
 induction L generalizing X with
 | nil => exact Le4.refl
 | cons r L ih => exact fire_le.trans ih
theorem fire_clo {X : Int → Bool} {r : Rule} (h : r.c X = true → Le4 r.a X) : fire X r = X := by
 unfold fire; split
 ·rename_i hc
  refine Le4.antisymm (fun v hv => ?_) (fun v hv => by unfold cupX; rw [hv]; rfl)
  unfold cupX at hv
  rcases Bool.or_eq_true _ _ ▸ hv with a | a
  ·exact a
  ·exact h hc v a
 ·rfl
theorem pass_clo {L : List Rule} {X : Int → Bool} (h : Clo L X) : pass L X = X := by
 induction L with
 | nil => rfl
 | cons r L ih =>
  unfold pass
  rw [List.foldl_cons, fire_clo (h r (by simp))]
  exact ih fun q hq => h q (by simp [hq])
theorem pass_fires {L : List Rule} (hm : ∀ r ∈ L, r.mono) {X : Int → Bool} {r : Rule} (hr : r ∈ L) (hc : r.c X = true) : Le4 r.a (pass L X) := by
 induction L generalizing X with
 | nil => cases hr
 | cons q L ih =>
  unfold pass
  rw [List.foldl_cons]
  rcases List.mem_cons.1 hr with rfl | hr
  ·refine Le4.trans (fun v hv => ?_) (pass_le (L := L))
   unfold fire; rw [if_pos hc]; unfold cupX; rw [hv, Bool.or_true]
  ·exact ih (fun r h => hm r (by simp [h])) hr (hm r (by simp [hr]) _ _ fire_le hc)
theorem clo_of_pass {L : List Rule} (hm : ∀ r ∈ L, r.mono) {X : Int → Bool} (h : pass L X = X) : Clo L X := fun r hr hc => by
 have := pass_fires hm hr hc
 rwa [h] at this
theorem pass_least {L : List Rule} (hm : ∀ r ∈ L, r.mono) {X Z : Int → Bool} (hz : Clo L Z) (h : Le4 X Z) : Le4 (pass L X) Z := by
 induction L generalizing X with
 | nil => exact h
 | cons q L ih =>
  unfold pass
  rw [List.foldl_cons]
  refine ih (fun r h => hm r (by simp [h])) (fun r hr => hz r (by simp [hr])) ?_
  unfold fire; split
  ·rename_i hc
   intro v hv
   unfold cupX at hv
   rcases Bool.or_eq_true _ _ ▸ hv with a | a
   ·exact h v a
   ·exact hz q (by simp) (hm q (by simp) _ _ h hc) v a
  ·exact h
theorem passes_le {L : List Rule} {n : Nat} {X : Int → Bool} : Le4 X (passes L n X) := by
 induction n with
 | zero => exact Le4.refl
 | succ n ih => exact ih.trans pass_le
theorem passes_least {L : List Rule} (hm : ∀ r ∈ L, r.mono) {X Z : Int → Bool} (hz : Clo L Z) (h : Le4 X Z) {n : Nat} : Le4 (passes L n X) Z := by
 induction n with
 | zero => exact h
 | succ n ih => exact pass_least hm hz ih
noncomputable def spent (L : List Rule) (X : Int → Bool) : Nat := by
 classical exact (L.map fun r => if Le4 r.a X then 1 else 0).sum
theorem spent_le {L : List Rule} {X : Int → Bool} : spent L X ≤ L.length := by
 unfold spent
 induction L with
 | nil => simp
 | cons r L ih => simp only [List.map_cons, List.sum_cons, List.length_cons]; split <;> omega
theorem spent_mono {L : List Rule} {X Y : Int → Bool} (h : Le4 X Y) : spent L X ≤ spent L Y := by
 unfold spent
 induction L with
 | nil => simp
 | cons r L ih =>
  simp only [List.map_cons, List.sum_cons]
  split
  ·rename_i a
   rw [if_pos (a.trans h)]; omega
  ·split <;> omega
theorem spent_lt {L : List Rule} {X Y : Int → Bool} (h : Le4 X Y) {r : Rule} (hr : r ∈ L) (h1 : ¬ Le4 r.a X) (h2 : Le4 r.a Y) : spent L X < spent L Y := by
 induction L with
 | nil => cases hr
 | cons q L ih =>
  have hm := spent_mono (L := L) h
  unfold spent at ih hm ⊢
  simp only [List.map_cons, List.sum_cons]
  rcases List.mem_cons.1 hr with rfl | hr
  ·rw [if_neg h1, if_pos h2]; omega
  ·have := ih hr
   split
   ·rename_i a
    rw [if_pos (a.trans h)]; omega
   ·split <;> omega
theorem spent_full {L : List Rule} {X : Int → Bool} (h : L.length ≤ spent L X) : Clo L X := by
 intro r hr _
 apply Classical.byContradiction
 intro hn
 have : spent L X < spent L (fun _ => true) := spent_lt (fun _ _ => rfl) hr hn (fun _ _ => rfl)
 have := spent_le (L := L) (X := fun _ => true)
 omega
theorem passes_spent {L : List Rule} (hm : ∀ r ∈ L, r.mono) {X : Int → Bool} {n : Nat} : Clo L (passes L n X) ∨ n ≤ spent L (passes L n X) := by
 induction n with
 | zero => exact .inr (by omega)
 | succ n ih =>
  rw [passes]
  rcases ih with h | h
  ·rw [pass_clo h]; exact .inl h
  ·by_cases c : Clo L (passes L n X)
   ·rw [pass_clo c]; exact .inl c
   ·right
    have : ∃ r ∈ L, r.c (passes L n X) = true ∧ ¬ Le4 r.a (passes L n X) := by
     apply Classical.byContradiction
     intro hn
     exact c fun r hr hc => Classical.byContradiction fun h => hn ⟨r, hr, hc, h⟩
    obtain ⟨r, hr, hc, hn⟩ := this
    have := spent_lt (pass_le (L := L)) hr hn (pass_fires hm hr hc)
    omega
theorem passes_clo {L : List Rule} (hm : ∀ r ∈ L, r.mono) {X : Int → Bool} {n : Nat} (h : L.length ≤ n) : Clo L (passes L n X) := by
 rcases passes_spent hm (X := X) (n := n) with c | c
 ·exact c
 ·exact spent_full (by omega)
def cl (L : List Rule) (X : Int → Bool) : Int → Bool := passes L L.length X
theorem cl_uniq {L : List Rule} (hm : ∀ r ∈ L, r.mono) {X Y : Int → Bool} (h1 : Clo L Y) (h2 : Le4 X Y) (h3 : ∀ Z, Clo L Z → Le4 X Z → Le4 Y Z) : Y = cl L X :=
 (h3 _ (passes_clo hm (Nat.le_refl _)) passes_le).antisymm (passes_least hm h1 h2)
theorem passes_cl {L : List Rule} (hm : ∀ r ∈ L, r.mono) {X : Int → Bool} {n : Nat} (h : L.length ≤ n) : passes L n X = cl L X :=
 cl_uniq hm (passes_clo hm h) passes_le fun Z hz hx => passes_least hm hz hx
theorem passes_stop {L : List Rule} (hm : ∀ r ∈ L, r.mono) {X : Int → Bool} {n : Nat} (h : pass L (passes L n X) = passes L n X) : passes L n X = cl L X :=
 cl_uniq hm (clo_of_pass hm h) passes_le fun Z hz hx => passes_least hm hz hx
theorem fire_in {X : Int → Bool} {r : Rule} (h : In4 X) (g : In4 r.a) : In4 (fire X r) := by
 unfold fire; split
 ·exact cup_in h g
 ·exact h
theorem pass_in {L : List Rule} {X : Int → Bool} (h : In4 X) (g : ∀ r ∈ L, In4 r.a) : In4 (pass L X) := by
 induction L generalizing X with
 | nil => exact h
 | cons r L ih => exact ih (fire_in h (g r (by simp))) fun q hq => g q (by simp [hq])
theorem passes_in {L : List Rule} {n : Nat} {X : Int → Bool} (h : In4 X) (g : ∀ r ∈ L, In4 r.a) : In4 (passes L n X) := by
 induction n with
 | zero => exact h
 | succ n ih => exact pass_in ih g
theorem pass_take {L : List Rule} {X : Int → Bool} {i : Nat} (h : i < L.length) : pass (L.take (i + 1)) X = fire (pass (L.take i) X) L[i] := by
 unfold pass; rw [take_succ' h, List.foldl_append]; rfl
theorem nfl_inj {X Y : Int → Bool} (hx : In4 X) (hy : In4 Y) (h : nfl X = nfl Y) : X = Y := by rw [← nfl_has hx, ← nfl_has hy, h]
theorem nfl_len_lt {X Y : Int → Bool} (h : Le4 X Y) (he : (nfl Y).length ≤ (nfl X).length) (hy : In4 Y) : X = Y := by
 have hx : In4 X := fun v hv => hy v (h v hv)
 refine nfl_inj hx hy ?_
 have h0 := h 0
 have h1 := h 1
 have h2 := h 2
 have h3 := h 3
 unfold nfl at he ⊢
 simp only [List.range, List.range.loop, List.flatMap_cons, List.flatMap_nil, List.append_nil, List.length_append, Int.ofNat_zero, Int.natCast_zero, Int.natCast_one] at he ⊢
 have e2 : ((2 : Nat) : Int) = 2 := rfl
 have e3 : ((3 : Nat) : Int) = 3 := rfl
 rw [e2, e3] at he ⊢
 generalize X 0 = a0 at *
 generalize X 1 = a1 at *
 generalize X 2 = a2 at *
 generalize X 3 = a3 at *
 generalize Y 0 = b0 at *
 generalize Y 1 = b1 at *
 generalize Y 2 = b2 at *
 generalize Y 3 = b3 at *
 revert h0 h1 h2 h3 he
 cases a0 <;> cases a1 <;> cases a2 <;> cases a3 <;> cases b0 <;> cases b1 <;> cases b2 <;> cases b3 <;> simp
end Go.Proofs.YtcllfkplpdppiaaH
namespace Go.Proofs.YtcllfkplpdppiaaH
open Go
def FitsQ (q : Query) : Prop := q.Atoms.length ≤ 1048576 ∧ (∀ a ∈ q.Atoms, a.Terms.length ≤ 1048576) ∧ q.Free.length ≤ 1048576
def vAt (l : List Relation) (n : Int) (before : List Atom) (a : Atom) : Bool :=
 btw a.Relation 0 (l.length - 1) && (decide ((a.Terms.length : Int) = arity l a.Relation) && ((a.Terms.all fun v => btw v (-10) (n - 1)) && !(before.any fun b => decide (b.Relation = a.Relation))))
def vAtom (l : List Relation) (q : Query) (i : Nat) : Bool := match q.Atoms[i]? with
 | none => true
 | some a => vAt l q.VariableCount (q.Atoms.take i) a
def occ (az : List Atom) : Int → Bool := fun v => az.any fun a => a.Terms.contains v
def vQuery (l : List Relation) (q : Query) : Bool :=
 vRels l && (btw q.VariableCount 0 4 && (btw q.Atoms.length 1 3 && (((List.range q.Atoms.length).all (vAtom l q)) && (((List.range 4).all fun v => decide (q.VariableCount ≤ ((v : Nat) : Int)) || occ q.Atoms ((v : Nat) : Int)) && asc q.VariableCount q.Free))))
theorem vAtom_get {l : List Relation} {q : Query} {i : Nat} (h : i < q.Atoms.length) : vAtom l q i = vAt l q.VariableCount (q.Atoms.take i) q.Atoms[i] := by
 unfold vAtom; rw [List.getElem?_eq_getElem h]
theorem all_false {n i : Nat} {p : Nat → Bool} (h : i < n) (hp : p i = false) : (List.range n).all p = false := by
 rw [Bool.eq_false_iff]
 intro ha
 have := List.all_eq_true.1 ha i (List.mem_range.2 h)
 rw [hp] at this; cases this
theorem occ_succ {az : List Atom} {i : Nat} (h : i < az.length) {v : Int} : occ (az.take (i + 1)) v = (occ (az.take i) v || az[i].Terms.contains v) := by
 unfold occ; rw [take_succ' h, List.any_append]; simp
theorem has_succ {t : List Int} {k : Nat} (h : k < t.length) {v : Int} : (t.take (k + 1)).contains v = ((t.take k).contains v || decide (v = t[k])) := by
 rw [Bool.eq_iff_iff, List.contains_iff_mem, take_succ' h, List.mem_append, List.mem_singleton, Bool.or_eq_true, List.contains_iff_mem, decide_eq_true_eq]
section
variable {l : List Relation} {q : Query}
theorem specTerms {a : Atom} {mt : List Bool} {X : Int → Bool} (ht : a.Terms.length ≤ 1048576) (hn : 0 ≤ q.VariableCount ∧ q.VariableCount ≤ 4) (hm : mt.length = 4) (hx : ∀ v, v < 4 → mt[v]? = some (X ((v : Nat) : Int))) :
  Ens (iter (f19_4 q a) (mt, 0)) fun o => match o with
   | .inl m => (a.Terms.all fun v => btw v (-10) (q.VariableCount - 1)) = true ∧ m.length = 4 ∧ ∀ v, v < 4 → m[v]? = some (X ((v : Nat) : Int) || a.Terms.contains ((v : Nat) : Int))
   | .inr b => b = false ∧ (a.Terms.all fun v => btw v (-10) (q.VariableCount - 1)) = false := by
 refine iter_up (f := f19_4 q a) a.Terms.length (fun k s => s.2 = (k : Int) ∧ ((a.Terms.take k).all fun v => btw v (-10) (q.VariableCount - 1)) = true ∧ s.1.length = 4 ∧ ∀ v, v < 4 → s.1[v]? = some (X ((v : Nat) : Int) || (a.Terms.take k).contains ((v : Nat) : Int))) _ (fun k s hk hI => ?_) (fun s hI => ?_) (mt, 0) ⟨rfl, by simp, hm, fun v hv => by simp [hx v hv]⟩
 ·obtain ⟨m, x⟩ := s
  obtain ⟨e1, e2, e3, e4⟩ := hI
  dsimp only at e1 e3 e4
  subst e1
  simp only [f19_4]
  rw [if_pos (by omega), ix_nat hk, bS, w64_of (by omega), specIn, bS]
  cases hb : btw a.Terms[k] (-10) (q.VariableCount - 1)
  ·refine ⟨_, rfl, rfl, ?_⟩
   rw [Bool.eq_false_iff]
   intro ha
   have := List.all_eq_true.1 ha _ (List.getElem_mem hk)
   rw [hb] at this; cases this
  ·have hb' := hb
   unfold btw at hb'; simp only [Bool.and_eq_true, decide_eq_true_eq] at hb'
   have ha : ((a.Terms.take (k + 1)).all fun v => btw v (-10) (q.VariableCount - 1)) = true := by
    rw [take_succ' hk, List.all_append, e2]; simp [hb]
   simp only [not_true_eq_false, if_false]
   rw [w64_succ (by omega)]
   by_cases c : a.Terms[k] ≥ 0
   ·have hi : ix m a.Terms[k] = some (m[a.Terms[k].toNat]'(by omega)) := by rw [ix_of c, List.getElem?_eq_getElem (by omega)]
    rw [if_pos c, hi]
    simp only [bS]
    refine ⟨_, rfl, rfl, ha, by simp [e3], fun v hv => ?_⟩
    dsimp only
    rw [List.getElem?_set]
    by_cases e : a.Terms[k].toNat = v
    ·rw [if_pos e, if_pos (by omega)]
     have : ((v : Nat) : Int) = a.Terms[k] := by omega
     rw [has_succ hk]
     simp [this]
    ·rw [if_neg e, e4 v hv, has_succ hk]
     have : ¬ ((v : Nat) : Int) = a.Terms[k] := by omega
     simp [this]
   ·rw [if_neg c]
    simp only [bS]
    refine ⟨_, rfl, rfl, ha, e3, fun v hv => ?_⟩
    dsimp only
    rw [e4 v hv, has_succ hk]
    have : ¬ ((v : Nat) : Int) = a.Terms[k] := by omega
    simp [this]
 ·obtain ⟨m, x⟩ := s
  obtain ⟨e1, e2, e3, e4⟩ := hI
  dsimp only at e1 e3 e4
  subst e1
  rw [List.take_of_length_le (Nat.le_refl _)] at e2 e4
  simp only [f19_4]
  rw [if_neg (by omega)]
  exact ⟨_, rfl, e2, e3, e4⟩
theorem specEarlier {a : Atom} {i : Nat} (hi : i ≤ q.Atoms.length) (hq : q.Atoms.length ≤ 1048576) : iter (f19_3 q (i : Int) a) 0 = some (if ((q.Atoms.take i).any fun b => decide (b.Relation = a.Relation)) = true then .inr false else .inl ()) := by
 have e : (q.Atoms.take i).length = i := by simp; omega
 refine iter_ex (q.Atoms.take i) (fun b => decide (b.Relation = a.Relation)) false (fun k hk => ?_) ?_
 ·rw [e] at hk
  simp only [f19_3]
  rw [if_pos (by omega), ix_nat (by omega : k < q.Atoms.length), bS, w64_succ (by omega), List.getElem_take]
  by_cases c : q.Atoms[k].Relation = a.Relation
  ·rw [if_pos c, if_pos (by simp [c])]
  ·rw [if_neg c, if_neg (by simp [c])]
 ·simp only [f19_3]
  rw [e, if_neg (by omega)]
theorem specAtoms (hl : Big l.length) (hq : FitsQ q) (hn : 0 ≤ q.VariableCount ∧ q.VariableCount ≤ 4) :
  Ens (iter (f19_0 l q) ([false, false, false, false], 0)) fun o => match o with
   | .inl m => (List.range q.Atoms.length).all (vAtom l q) = true ∧ m.length = 4 ∧ ∀ v, v < 4 → m[v]? = some (occ q.Atoms ((v : Nat) : Int))
   | .inr b => b = false ∧ (List.range q.Atoms.length).all (vAtom l q) = false := by
 obtain ⟨q1, q2, q3⟩ := hq
 refine iter_up (f := f19_0 l q) q.Atoms.length (fun i s => s.2 = (i : Int) ∧ (∀ j, j < i → vAtom l q j = true) ∧ s.1.length = 4 ∧ ∀ v, v < 4 → s.1[v]? = some (occ (q.Atoms.take i) ((v : Nat) : Int))) _ (fun i s hi hI => ?_) (fun s hI => ?_) _ ⟨rfl, fun j hj => by omega, rfl, fun v hv => ?_⟩
 ·obtain ⟨m, x⟩ := s
  obtain ⟨e1, e2, e3, e4⟩ := hI
  dsimp only at e1 e3 e4
  subst e1
  have hv := vAtom_get (l := l) hi
  simp only [f19_0]
  rw [if_pos (by omega), ix_nat hi, bS, w64_of (by omega), specIn, bS]
  have ht := q2 _ (List.getElem_mem hi)
  unfold vAt at hv
  cases hb : btw q.Atoms[i].Relation 0 (l.length - 1)
  ·rw [hb] at hv
   exact ⟨_, rfl, rfl, all_false hi (by rw [hv]; rfl)⟩
  ·obtain ⟨x, h1, _, h2, _⟩ := ix_rel hb
   rw [hb] at hv
   rw [h1]
   simp only [not_true_eq_false, if_false, bS]
   rw [h2]
   by_cases ha : (q.Atoms[i].Terms.length : Int) = arity l q.Atoms[i].Relation
   ·simp only [ha, not_true_eq_false, if_false, bS, ne_eq, decide_false, Bool.false_eq_true]
    rw [specEarlier (by omega) q1]
    cases hd : (q.Atoms.take i).any fun b => decide (b.Relation = q.Atoms[i].Relation)
    ·simp only [Bool.false_eq_true, if_false, bS]
     obtain ⟨o, ho, hQ⟩ := specTerms (q := q) (a := q.Atoms[i]) (mt := m) (X := occ (q.Atoms.take i)) ht hn e3 e4
     rw [ho]
     cases o with
     | inl m' =>
      obtain ⟨g1, g2, g3⟩ := hQ
      simp only [bS]
      rw [w64_succ (by omega)]
      refine ⟨_, rfl, rfl, fun j hj => ?_, g2, fun v hv => ?_⟩
      ·by_cases e : j = i
       ·subst e; rw [hv, ha, g1, hd]; simp
       ·exact e2 j (by omega)
      ·rw [g3 v hv, occ_succ hi]
     | inr b =>
      obtain ⟨rfl, g⟩ := hQ
      exact ⟨_, rfl, rfl, all_false hi (by rw [hv, g]; simp)⟩
    ·simp only [if_true, bS]
     exact ⟨_, rfl, rfl, all_false hi (by rw [hv, hd]; simp)⟩
   ·simp only [ha, not_true_eq_false, not_false_eq_true, if_false, bS, ne_eq, decide_true, if_true]
    exact ⟨_, rfl, rfl, all_false hi (by rw [hv]; simp [ha])⟩
 ·obtain ⟨m, x⟩ := s
  obtain ⟨e1, e2, e3, e4⟩ := hI
  dsimp only at e1 e3 e4
  subst e1
  rw [List.take_of_length_le (Nat.le_refl _)] at e4
  simp only [f19_0]
  rw [if_neg (by omega)]
  exact ⟨_, rfl, List.all_eq_true.2 fun j hj => e2 j (List.mem_range.1 hj), e3, e4⟩
 ·simp only [List.take_zero, occ, List.any_nil]
  rcases v with _ | _ | _ | _ | v
  ·rfl
  ·rfl
  ·rfl
  ·rfl
  ·omega
theorem specQ (hl : Big l.length) (hq : FitsQ q) : f19 l q = some (vQuery l q) := by
 unfold f19 vQuery
 rw [specRels hl, bS]
 cases vRels l
 ·simp
 simp only [not_true_eq_false, if_false, specIn, bS, Bool.true_and]
 cases hc : btw q.VariableCount 0 4
 ·simp
 cases hn : btw (q.Atoms.length : Int) 1 3
 ·simp
 have hc' := hc
 unfold btw at hc'; simp only [Bool.and_eq_true, decide_eq_true_eq] at hc'
 simp only [not_true_eq_false, if_false, bS, decide_false, Bool.false_eq_true, Bool.true_and]
 rw [mkl_ok (by omega) (by omega) (by omega), bS, show List.replicate (4 : Int).toNat false = [false, false, false, false] from rfl]
 obtain ⟨o, ho, hQ⟩ := specAtoms hl hq hc'
 rw [ho]
 cases o with
 | inr b => obtain ⟨rfl, g⟩ := hQ; rw [g]; simp
 | inl m =>
  obtain ⟨g1, g2, g3⟩ := hQ
  rw [g1]
  simp only [bS, Bool.true_and]
  rw [iter_ex (List.range q.VariableCount.toNat) (fun v => !occ q.Atoms ((v : Nat) : Int)) false (fun v hv => by
   simp only [List.length_range] at hv
   simp only [List.getElem_range]
   simp only [f19_1]
   rw [if_pos (by omega), ix_cast, g3 v (by omega), bS, w64_succ (by omega)]
   cases occ q.Atoms ((v : Nat) : Int) <;> simp) (by
   simp only [f19_1, List.length_range]
   rw [if_neg (by omega)])]
  have ea : ((List.range 4).all fun v => decide (q.VariableCount ≤ ((v : Nat) : Int)) || occ q.Atoms ((v : Nat) : Int)) = !((List.range q.VariableCount.toNat).any fun v => !occ q.Atoms ((v : Nat) : Int)) := by
   rw [any_not, Bool.not_not, Bool.eq_iff_iff, List.all_eq_true, List.all_eq_true]
   simp only [List.mem_range, Bool.or_eq_true, decide_eq_true_eq]
   constructor
   ·intro h v hv
    exact (h v (by omega)).resolve_left (by omega)
   ·intro h v hv
    by_cases c : q.VariableCount ≤ ((v : Nat) : Int)
    ·exact .inl c
    ·exact .inr (h v (by omega))
  rw [ea]
  cases (List.range q.VariableCount.toNat).any fun v => !occ q.Atoms ((v : Nat) : Int)
  ·simp only [Bool.false_eq_true, if_false, bS, Bool.not_false, Bool.true_and]
   have hF := hq.2.2
   rw [iter_adj (fun v => btw v 0 (q.VariableCount - 1)) (fun a b => decide (a < b)) q.Free false (fun i hi => by
    simp only [f19_2]
    rw [if_pos (by omega), ix_nat hi, w64_succ (by omega), w64_of (n := q.VariableCount - 1) (by omega)]
    simp only [bS, specIn]
    cases btw q.Free[i] 0 (q.VariableCount - 1)
    ·simp
    ·by_cases h0 : i = 0
     ·subst h0; simp
     ·have e : ix q.Free (w64 ((i : Int) - 1)) = some (q.Free[i - 1]'(by omega)) := by rw [w64_of (by omega), show (i : Int) - 1 = ((i - 1 : Nat) : Int) by omega, ix_nat (by omega)]
      simp only [e]
      have : 0 < i := by omega
      by_cases hb : q.Free[i - 1]'(by omega) < q.Free[i]
      ·simp [h0, this, hb, Int.not_le.2 hb]
      ·simp [h0, this, hb, Int.not_lt.1 hb]) (by
    simp only [f19_2]
    rw [if_neg (by omega)])]
   unfold asc
   cases good (fun v => btw v 0 (q.VariableCount - 1)) (fun a b => decide (a < b)) q.Free <;> simp
  ·simp
theorem containsA {s : List Atom} {f : Atom → Option Bool} {p : Atom → Bool} (h : Big s.length) (hf : ∀ a ∈ s, f a = some (p a)) : f48 s f = some (s.any p) := by
 unfold f48 f62
 obtain ⟨o, h1, h2⟩ := iter_idx (f := f62_0 s f) s p (fun i hi => by
  simp only [f62_0]
  rw [if_pos (by omega), ix_nat hi, w64_succ (by omega)]
  simp only [bS, hf _ (List.getElem_mem hi)]
  split <;> rfl) (by
  simp only [f62_0]
  rw [if_neg (by omega)])
 rw [h1]
 cases o with
 | inl _ => dsimp only at h2; rw [h2]; rfl
 | inr x => dsimp only at h2; rw [h2.2]; simp; omega
theorem impAtoms (hl : Big l.length) (hv : vRels l = true) (hq : FitsQ q) (hn : 0 ≤ q.VariableCount ∧ q.VariableCount ≤ 4) :
  Ens (iter (f25_0 l q) ([], 0)) fun o => match o with
   | .inl m => (List.range q.Atoms.length).all (vAtom l q) = true ∧ m = nfl (occ q.Atoms)
   | .inr b => b = false ∧ (List.range q.Atoms.length).all (vAtom l q) = false := by
 obtain ⟨q1, q2, q3⟩ := hq
 refine iter_up (f := f25_0 l q) q.Atoms.length (fun i s => s.2 = (i : Int) ∧ (∀ j, j < i → vAtom l q j = true) ∧ s.1 = nfl (occ (q.Atoms.take i))) _ (fun i s hi hI => ?_) (fun s hI => ?_) _ ⟨rfl, fun j hj => by omega, nfl_nil.symm⟩
 ·obtain ⟨m, x⟩ := s
  obtain ⟨e1, e2, e3⟩ := hI
  dsimp only at e1 e3
  subst e1; subst e3
  have hva := vAtom_get (l := l) hi
  simp only [f25_0]
  rw [if_pos (by omega), ix_nat hi, bS, w64_of (by omega), impIn, bS]
  have ht := q2 _ (List.getElem_mem hi)
  unfold vAt at hva
  cases hb : btw q.Atoms[i].Relation 0 (l.length - 1)
  ·rw [hb] at hva
   exact ⟨_, rfl, rfl, all_false hi (by rw [hva]; rfl)⟩
  ·obtain ⟨x, h1, _, h2, _⟩ := ix_rel hb
   rw [hb] at hva
   rw [h1]
   simp only [not_true_eq_false, if_false, bS]
   rw [h2]
   by_cases ha : (q.Atoms[i].Terms.length : Int) = arity l q.Atoms[i].Relation
   ·have h3 := vRels_arity hv hb
    have e0 : (q.Atoms.take ((i : Nat) : Int).toNat).drop (0 : Int).toNat = q.Atoms.take i := by simp
    rw [if_neg (by simp [ha]), cutL_ok (by omega) (by omega) (by omega), e0, bS]
    rw [containsA (p := fun b => decide (b.Relation = q.Atoms[i].Relation)) (by simp; omega) (fun b _ => by
     unfold f49
     exact congrArg some (decide_eq_decide.2 ⟨fun h => by first | exact h | exact h.symm, fun h => by first | exact h | exact h.symm⟩))]
    cases hd : (q.Atoms.take i).any fun b => decide (b.Relation = q.Atoms[i].Relation)
    ·simp only [Bool.false_eq_true, if_false, bS]
     rw [iter_ex q.Atoms[i].Terms (fun v => !btw v (-10) (q.VariableCount - 1)) false (fun k hk => by
      simp only [f25_1]
      rw [if_pos (by omega), ix_nat hk, w64_succ (by omega), w64_of (n := q.VariableCount - 1) (by omega)]
      simp only [bS, impIn]
      cases btw q.Atoms[i].Terms[k] (-10) (q.VariableCount - 1) <;> simp) (by
      simp only [f25_1]
      rw [if_neg (by omega)]), any_not]
     cases g1 : q.Atoms[i].Terms.all fun v => btw v (-10) (q.VariableCount - 1)
     ·simp only [Bool.not_false, if_true, bS]
      exact ⟨_, rfl, rfl, all_false hi (by rw [hva, g1]; simp)⟩
     ·simp only [Bool.not_true, Bool.false_eq_true, if_false, bS]
      have n1 := nfl_len (X := occ (q.Atoms.take i))
      have n2 := nfl_len (X := q.Atoms[i].Terms.contains)
      rw [impVars (by omega), bS, avars_nfl, unionI (by omega) nfl_in nfl_in, bS, w64_succ (by omega)]
      refine ⟨_, rfl, rfl, fun j hj => ?_, ?_⟩
      ·by_cases e : j = i
       ·subst e; rw [hva, ha, g1, hd]; simp
       ·exact e2 j (by omega)
      ·refine nfl_congr fun v hv => ?_
       rw [occ_succ hi]
       unfold cupX
       congr 1
       ·rw [Bool.eq_iff_iff, List.contains_iff_mem, nfl_mem]; exact ⟨fun h => h.1, fun h => ⟨h, hv⟩⟩
       ·rw [Bool.eq_iff_iff, List.contains_iff_mem, nfl_mem]; exact ⟨fun h => h.1, fun h => ⟨h, hv⟩⟩
    ·simp only [if_true, bS]
     exact ⟨_, rfl, rfl, all_false hi (by rw [hva, hd]; simp)⟩
   ·rw [if_pos ha]
    exact ⟨_, rfl, rfl, all_false hi (by rw [hva]; simp [ha])⟩
 ·obtain ⟨m, x⟩ := s
  obtain ⟨e1, e2, e3⟩ := hI
  dsimp only at e1 e3
  subst e1; subst e3
  simp only [f25_0]
  rw [if_neg (by omega)]
  exact ⟨_, rfl, List.all_eq_true.2 fun j hj => e2 j (List.mem_range.1 hj), by rw [List.take_of_length_le (Nat.le_refl _)]⟩
theorem nfl_count {X : Int → Bool} {n : Int} (h0 : 0 ≤ n) (h4 : n ≤ 4) (h : ∀ v, 0 ≤ v → v < 4 → X v = true → v < n) : decide (((nfl X).length : Int) = n) = ((List.range 4).all fun v => decide (n ≤ ((v : Nat) : Int)) || X ((v : Nat) : Int)) := by
 have h0' := h 0
 have h1 := h 1
 have h2 := h 2
 have h3 := h 3
 unfold nfl
 simp only [List.range, List.range.loop, List.flatMap_cons, List.flatMap_nil, List.append_nil, List.length_append, Int.ofNat_zero, Int.natCast_zero, Int.natCast_one, List.all_cons, List.all_nil]
 have e2 : ((2 : Nat) : Int) = 2 := rfl
 have e3 : ((3 : Nat) : Int) = 3 := rfl
 rw [e2, e3]
 generalize X 0 = a0 at *
 generalize X 1 = a1 at *
 generalize X 2 = a2 at *
 generalize X 3 = a3 at *
 have : n = 0 ∨ n = 1 ∨ n = 2 ∨ n = 3 ∨ n = 4 := by omega
 rcases this with rfl | rfl | rfl | rfl | rfl <;> revert h0' h1 h2 h3 <;> cases a0 <;> cases a1 <;> cases a2 <;> cases a3 <;> simp
theorem impQ (hl : Big l.length) (hq : FitsQ q) : f25 l q = some (vQuery l q) := by
 unfold f25 vQuery
 rw [impRels hl, bS]
 cases hv : vRels l
 ·simp
 simp only [not_true_eq_false, if_false, impIn, bS, Bool.true_and]
 cases hc : btw q.VariableCount 0 4
 ·simp
 cases hn : btw (q.Atoms.length : Int) 1 3
 ·simp
 have hc' := hc
 unfold btw at hc'; simp only [Bool.and_eq_true, decide_eq_true_eq] at hc'
 have hF := hq.2.2
 have eS := impSet (l := q.Free) (n := q.VariableCount.toNat) (by omega) (by omega)
 rw [Int.toNat_of_nonneg hc'.1] at eS
 simp only [not_true_eq_false, if_false, bS, Bool.false_eq_true, Bool.true_and, eS]
 cases asc q.VariableCount q.Free
 ·simp
 simp only [not_true_eq_false, decide_false, if_false, bS, Bool.false_eq_true, Bool.and_true]
 obtain ⟨o, ho, hQ⟩ := impAtoms hl hv hq hc'
 rw [ho]
 cases o with
 | inr b => obtain ⟨rfl, g⟩ := hQ; rw [g]; simp
 | inl m =>
  obtain ⟨g1, rfl⟩ := hQ
  rw [g1]
  simp only [bS, Bool.true_and]
  congr 1
  refine nfl_count hc'.1 hc'.2 fun v h0 h4 hx => ?_
  unfold occ at hx
  obtain ⟨a, ha, hx⟩ := List.any_eq_true.1 hx
  obtain ⟨i, hi, rfl⟩ := List.mem_iff_getElem.1 ha
  have := List.all_eq_true.1 g1 i (List.mem_range.2 hi)
  rw [vAtom_get hi] at this
  unfold vAt at this
  simp only [Bool.and_eq_true] at this
  have := List.all_eq_true.1 this.2.2.1 v (by simpa using hx)
  unfold btw at this; simp only [Bool.and_eq_true, decide_eq_true_eq] at this
  omega
end
end Go.Proofs.YtcllfkplpdppiaaH
namespace Go.Proofs.YtcllfkplpdppiaaH
open Go
theorem vq_len {l : List Relation} {q : Query} (h : vQuery l q = true) : q.Atoms.length ≤ 3 ∧ 1 ≤ q.Atoms.length := by
 unfold vQuery at h
 simp only [Bool.and_eq_true, btw, decide_eq_true_eq] at h
 omega
theorem vq_vars {l : List Relation} {q : Query} (h : vQuery l q = true) : 0 ≤ q.VariableCount ∧ q.VariableCount ≤ 4 := by
 unfold vQuery at h
 simp only [Bool.and_eq_true, btw, decide_eq_true_eq] at h
 omega
theorem vq_atom {l : List Relation} {q : Query} (h : vQuery l q = true) {k : Nat} (hk : k < q.Atoms.length) : (q.Atoms[k].Terms.length : Int) = arity l q.Atoms[k].Relation ∧ ∀ t ∈ q.Atoms[k].Terms, -10 ≤ t ∧ t < q.VariableCount := by
 unfold vQuery at h
 simp only [Bool.and_eq_true] at h
 have h1 := List.all_eq_true.1 h.2.2.2.1 k (List.mem_range.2 hk)
 rw [vAtom_get hk] at h1
 unfold vAt at h1
 simp only [Bool.and_eq_true, decide_eq_true_eq] at h1
 refine ⟨h1.2.1, fun t ht => ?_⟩
 have := List.all_eq_true.1 h1.2.2.1 t ht
 simp only [btw, Bool.and_eq_true, decide_eq_true_eq] at this
 omega
end Go.Proofs.YtcllfkplpdppiaaH
namespace Go.Proofs.YtcllfkplpdppiaaH
open Go
end Go.Proofs.YtcllfkplpdppiaaH
namespace Go.Proofs.YtcllfkplpdppiaaH
open Go
theorem digit {n : Int} (h0 : 0 ≤ n) (h9 : n ≤ 9) : f106 n = some [UInt8.ofNat (48 + n.toNat)] := by
 have : n = 0 ∨ n = 1 ∨ n = 2 ∨ n = 3 ∨ n = 4 ∨ n = 5 ∨ n = 6 ∨ n = 7 ∨ n = 8 ∨ n = 9 := by omega
 unfold f106
 rcases this with rfl | rfl | rfl | rfl | rfl | rfl | rfl | rfl | rfl | rfl
 ·rfl
 ·rw [if_neg (by decide), iter_of (f := f106_0) (n := 2) (r := [UInt8.ofNat (48 + 1)]) (by decide)]; rfl
 ·rw [if_neg (by decide), iter_of (f := f106_0) (n := 2) (r := [UInt8.ofNat (48 + 2)]) (by decide)]; rfl
 ·rw [if_neg (by decide), iter_of (f := f106_0) (n := 2) (r := [UInt8.ofNat (48 + 3)]) (by decide)]; rfl
 ·rw [if_neg (by decide), iter_of (f := f106_0) (n := 2) (r := [UInt8.ofNat (48 + 4)]) (by decide)]; rfl
 ·rw [if_neg (by decide), iter_of (f := f106_0) (n := 2) (r := [UInt8.ofNat (48 + 5)]) (by decide)]; rfl
 ·rw [if_neg (by decide), iter_of (f := f106_0) (n := 2) (r := [UInt8.ofNat (48 + 6)]) (by decide)]; rfl
 ·rw [if_neg (by decide), iter_of (f := f106_0) (n := 2) (r := [UInt8.ofNat (48 + 7)]) (by decide)]; rfl
 ·rw [if_neg (by decide), iter_of (f := f106_0) (n := 2) (r := [UInt8.ofNat (48 + 8)]) (by decide)]; rfl
 ·rw [if_neg (by decide), iter_of (f := f106_0) (n := 2) (r := [UInt8.ofNat (48 + 9)]) (by decide)]; rfl
def ftm (t : Int) : List UInt8 := if t < 0 then (if -10 ≤ t then [UInt8.ofNat (48 + (-1 - t).toNat)] else []) else (([120, 121, 122, 119] : List UInt8).drop t.toNat).take 1
theorem fterm {t : Int} (h0 : -1000 ≤ t) (h1 : t ≤ 1000) : f102 t = some (ftm t) := by
 unfold f102 f105 ftm
 by_cases c : t < 0
 ·rw [if_neg (by omega), w64_of (n := -1 - t) (by omega), specIn, bS, bS, if_pos c]
  by_cases c2 : -10 ≤ t
  ·rw [show btw (-1 - t) 0 9 = true by simp [btw]; omega, if_neg (by simp), bS, if_pos rfl, digit (by omega) (by omega), if_pos c2]; rfl
  ·rw [show btw (-1 - t) 0 9 = false by simp [btw]; omega, if_pos (by simp), bS, if_neg (by simp), specIn, bS, show btw t 0 3 = false by simp [btw]; omega, if_pos (by simp), if_neg c2]
 ·rw [if_pos (by omega), bS, if_pos rfl, bS, if_neg (by simp), specIn, bS, if_neg c]
  by_cases c2 : t ≤ 3
  ·rw [show btw t 0 3 = true by simp [btw]; omega, if_neg (by simp), w64_of (by omega), cutL_ok (by omega) (by omega) (by simp; omega), bS]
   have : t = 0 ∨ t = 1 ∨ t = 2 ∨ t = 3 := by omega
   rcases this with rfl | rfl | rfl | rfl <;> rfl
  ·rw [show btw t 0 3 = false by simp [btw]; omega, if_pos (by simp), List.drop_of_length_le (by simp; omega)]; rfl
theorem ftm_len {t : Int} : (ftm t).length ≤ 1 := by
 unfold ftm
 split
 ·split <;> simp
 ·rw [List.length_take]; omega
def ptm (s : List UInt8) : Int × Bool := match (List.range 14).find? fun k => decide (ftm ((k : Nat) - 10) = s) with
 | some k => ((k : Nat) - 10, true)
 | none => (0, false)
theorem pterm {s : List UInt8} : f93 s = some (ptm s) := by
 unfold f93 ptm
 obtain ⟨o, h1, h2⟩ := iter_up (f := f93_0 s) 14 (fun i t => t = ((i : Nat) : Int) - 10 ∧ ∀ j, j < i → ftm ((j : Nat) - 10) ≠ s)
  (fun o => o = (match (List.range 14).find? fun k => decide (ftm ((k : Nat) - 10) = s) with | some k => .inr (((k : Nat) : Int) - 10, true) | none => .inl ())) (fun i t hi ⟨e, hp⟩ => by
   subst e
   simp only [f93_0]
   rw [if_pos (by omega), fterm (by omega) (by omega), bS]
   by_cases c : ftm ((i : Nat) - 10) = s
   ·rw [if_pos c]
    refine ⟨_, rfl, ?_⟩
    dsimp only
    have : (List.range 14).find? (fun k => decide (ftm ((k : Nat) - 10) = s)) = some i := by
     rw [List.find?_range_eq_some]
     exact ⟨by simpa using c, by simpa using hi, fun j hj => by simpa using hp j hj⟩
    rw [this]
   ·rw [if_neg c, w64_of (by omega)]
    refine ⟨_, rfl, by omega, fun j hj => ?_⟩
    by_cases e : j = i
    ·subst e; exact c
    ·exact hp j (by omega)) (fun t ⟨e, hp⟩ => by
   subst e
   simp only [f93_0]
   rw [if_neg (by omega)]
   refine ⟨_, rfl, ?_⟩
   have : (List.range 14).find? (fun k => decide (ftm ((k : Nat) - 10) = s)) = none := by
    rw [List.find?_eq_none]
    intro k hk
    have := hp k (List.mem_range.1 hk)
    simpa using this
   rw [this]) (-10) ⟨by simp, fun j hj => by omega⟩
 rw [h1, h2]
 cases (List.range 14).find? fun k => decide (ftm ((k : Nat) - 10) = s) <;> rfl
theorem ptm_rng {s : List UInt8} : -10 ≤ (ptm s).1 ∧ (ptm s).1 ≤ 3 := by
 unfold ptm
 split
 ·rename_i k h
  have := List.mem_range.1 (List.mem_of_find?_eq_some h)
  simp only; omega
 ·simp
end Go.Proofs.YtcllfkplpdppiaaH
namespace Go.Proofs.YtcllfkplpdppiaaH
open Go
theorem cutOk {s : List UInt8} {sign : Int} (h : s.length ≤ 1000) : Ens (f92 s sign) fun r => r.length ≤ s.length + 1 ∧ ∀ x ∈ r, x.length ≤ s.length := by
 unfold f92
 refine Ens.bind (Q := fun o : List (List UInt8) × Int => o.1.length ≤ s.length ∧ (∀ x ∈ o.1, x.length ≤ s.length) ∧ 0 ≤ o.2 ∧ o.2 ≤ s.length) ?_ fun o ⟨h1, h2, h3, h4⟩ => ?_
 ·refine iter_up (f := f92_0 s sign) s.length (fun i t => t.1.length ≤ i ∧ (∀ x ∈ t.1, x.length ≤ s.length) ∧ 0 ≤ t.2.1 ∧ t.2.1 ≤ i ∧ t.2.2 = (i : Int)) _ (fun i t hi ⟨g1, g2, g3, g4, g5⟩ => ?_) (fun t ⟨g1, g2, g3, g4, g5⟩ => ?_) ([], 0, 0) ⟨by simp, by simp, by simp, by simp, rfl⟩
  ·obtain ⟨out, from_, k⟩ := t
   simp only at g1 g2 g3 g4 g5
   subst g5
   simp only [f92_0]
   rw [if_pos (by omega), ix_nat hi, bS, w64_succ (by omega)]
   by_cases c : (s[i].toNat : Int) = sign
   ·rw [if_pos c, cutL_ok g3 g4 (by omega), bS, app_fits (by simp; omega), bS]
    refine ⟨_, rfl, by simp; omega, fun x hx => ?_, by simp only; omega, by simp only; omega, rfl⟩
    rcases List.mem_append.1 hx with hx | hx
    ·exact g2 x hx
    ·rw [List.mem_singleton] at hx
     subst hx
     rw [List.length_drop, List.length_take]; omega
   ·rw [if_neg c]
    exact ⟨_, rfl, by simp only; omega, g2, g3, by simp only; omega, rfl⟩
  ·obtain ⟨out, from_, k⟩ := t
   simp only at g1 g2 g3 g4 g5
   subst g5
   simp only [f92_0]
   rw [if_neg (by omega)]
   exact ⟨_, rfl, g1, g2, g3, g4⟩
 ·obtain ⟨out, from_⟩ := o
  simp only at h1 h2 h3 h4 ⊢
  rw [cutL_ok h3 h4 (by omega), bS, app_fits (by simp; omega), bS]
  refine Ens.of ⟨by simp; omega, fun x hx => ?_⟩
  rcases List.mem_append.1 hx with hx | hx
  ·exact h2 x hx
  ·rw [List.mem_singleton] at hx
   subst hx
   rw [List.length_drop, List.length_take]; omega
theorem relIdx {l : List Relation} {s : List UInt8} (h : l.length ≤ 1000) : Ens (f94 l s) fun r => -1 ≤ r ∧ r < l.length := by
 unfold f94
 refine Ens.bind (Q := fun o => match o with | .inl _ => True | .inr r => -1 ≤ r ∧ r < l.length) ?_ fun o ho => by
  cases o with
  | inl _ => exact Ens.of ⟨by omega, by omega⟩
  | inr r => exact Ens.of ho
 refine iter_up (f := f94_0 l s) l.length (fun i t => t = (i : Int)) _ (fun i t hi e => ?_) (fun t e => ?_) 0 rfl
 ·subst e
  simp only [f94_0]
  rw [if_pos (by omega), ix_nat hi, bS, w64_succ (by omega)]
  by_cases c : l[i].Name = s
  ·rw [if_pos c]; exact ⟨_, rfl, by omega, by omega⟩
  ·rw [if_neg c]; exact ⟨_, rfl, rfl⟩
 ·subst e
  simp only [f94_0]
  rw [if_neg (by omega)]; exact ⟨_, rfl, trivial⟩
def QS (q : Query) : Prop := 1 ≤ q.Atoms.length ∧ q.Atoms.length ≤ 40 ∧ (∀ a ∈ q.Atoms, 1 ≤ a.Terms.length ∧ a.Terms.length ≤ 40) ∧ q.Free.length ≤ 20 ∧ 0 ≤ q.VariableCount ∧ q.VariableCount ≤ 20
def QM (q : Query) : Prop := q.Atoms.length ≤ 40 ∧ (∀ a ∈ q.Atoms, a.Terms.length ≤ 40) ∧ q.Free.length ≤ 40
theorem QM.fits {q : Query} (h : QM q) : FitsQ q := ⟨by have := h.1; omega, fun a ha => by have := h.2.1 a ha; omega, by have := h.2.2; omega⟩
theorem vq_qs {l : List Relation} {q : Query} (h : vQuery l q = true) : QS q := by
 have hl := vq_len h
 have hv := vq_vars h
 have h0 := h
 unfold vQuery at h0
 simp only [Bool.and_eq_true] at h0
 obtain ⟨r1, _, _, r4, _, r6⟩ := h0
 have hfree : q.Free.length ≤ 4 := by
  have := asc_len (n := q.VariableCount.toNat) (s := q.Free) (by
   have e : ((q.VariableCount.toNat : Nat) : Int) = q.VariableCount := by omega
   rw [e]; exact r6)
  omega
 refine ⟨hl.2, by omega, fun a ha => ?_, by omega, hv.1, by omega⟩
 obtain ⟨k, hk, rfl⟩ := List.getElem_of_mem ha
 have ht := (vq_atom h hk).1
 have h1 := List.all_eq_true.1 r4 k (List.mem_range.2 hk)
 rw [vAtom_get hk] at h1
 unfold vAt at h1
 simp only [Bool.and_eq_true] at h1
 obtain ⟨x, _, hx, hx2, _⟩ := ix_rel h1.1
 have hr := vRel_mem r1 hx
 unfold vRel at hr
 simp only [btw, Bool.and_eq_true, decide_eq_true_eq] at hr
 omega
theorem fatomOk {l : List Relation} {a : Atom} (hv : btw a.Relation 0 (l.length - 1) = true) (hl : l.length ≤ 1000) (hn : ∀ x ∈ l, x.Name.length ≤ 100) (ht : a.Terms.length ≤ 40 ∧ ∀ t ∈ a.Terms, -1000 ≤ t ∧ t ≤ 1000) : Ens (f103 l a) fun s => s.length ≤ 300 := by
 obtain ⟨x, h1, h2, _, _⟩ := ix_rel hv
 have hx := hn x h2
 unfold f103
 rw [h1, bS]
 refine Ens.bind (Q := fun s => s.length ≤ 300) ?_ fun s hs => Ens.of hs
 refine iter_up (f := f103_0 l a) a.Terms.length (fun i t => t.1.length ≤ 100 + 2 * i ∧ t.2 = (i : Int)) _ (fun i t hi ⟨g1, g2⟩ => ?_) (fun t ⟨g1, g2⟩ => ?_) (x.Name, 0) ⟨by simp only; omega, rfl⟩
 ·obtain ⟨s, k⟩ := t
  simp only at g1 g2
  subst g2
  have hb := ht.2 _ (List.getElem_mem hi)
  have hf := ftm_len (t := a.Terms[i])
  simp only [f103_0]
  rw [if_pos (by omega), h1, bS, w64_succ (by omega)]
  obtain ⟨s2, e2, q2⟩ : Ens (if ((i : Nat) : Int) = x.KeyLength then (cat s [124]).bind fun s_11 => some s_11 else some s) fun s2 => s2.length ≤ s.length + 1 := by
   refine Ens.ite (fun _ => ?_) fun _ => Ens.of (by omega)
   rw [cat_ok (by simp; omega)]
   exact Ens.of (by simp)
  rw [e2, bS, ix_nat hi, bS, fterm hb.1 hb.2, bS, cat_ok (by omega), bS]
  exact ⟨_, rfl, by simp only [List.length_append]; omega, rfl⟩
 ·obtain ⟨s, k⟩ := t
  simp only at g1 g2
  subst g2
  simp only [f103_0]
  rw [if_neg (by omega)]
  exact ⟨_, rfl, by omega⟩
theorem fmtOk {l : List Relation} {q : Query} (hl : l.length ≤ 1000) (hn : ∀ x ∈ l, x.Name.length ≤ 100) (hq : QM q) : Ens (f95 l q) fun s => s ≠ [] → vQuery l q = true := by
 unfold f95
 rw [specQ (by omega) hq.fits, bS]
 cases hv : vQuery l q
 ·rw [if_pos (by simp)]
  exact Ens.of fun h => absurd rfl h
 ·have hs := vq_qs hv
  have hv4 := vq_vars hv
  rw [if_neg (by simp)]
  have free : ∀ t ∈ q.Free, -1000 ≤ t ∧ t ≤ 1000 := by
   have h0 := hv
   unfold vQuery at h0
   simp only [Bool.and_eq_true] at h0
   intro t ht
   have := (asc_of (n := q.VariableCount.toNat) (s := q.Free) (by
    have e : ((q.VariableCount.toNat : Nat) : Int) = q.VariableCount := by omega
    rw [e]; exact h0.2.2.2.2.2)).2 t ht
   omega
  have atm : ∀ a ∈ q.Atoms, btw a.Relation 0 (l.length - 1) = true ∧ a.Terms.length ≤ 40 ∧ ∀ t ∈ a.Terms, -1000 ≤ t ∧ t ≤ 1000 := fun a ha => by
   obtain ⟨k, hk, rfl⟩ := List.getElem_of_mem ha
   have h0 := hv
   unfold vQuery at h0
   simp only [Bool.and_eq_true] at h0
   have h1 := List.all_eq_true.1 h0.2.2.2.1 k (List.mem_range.2 hk)
   rw [vAtom_get hk] at h1
   unfold vAt at h1
   simp only [Bool.and_eq_true] at h1
   refine ⟨h1.1, (hs.2.2.1 _ ha).2, fun t ht => ?_⟩
   have := (vq_atom hv hk).2 t ht
   omega
  have hs4 := hs.2.2.2.1
  have hs2 := hs.2.1
  refine Ens.bind (Q := fun s => s.length ≤ 40) ?_ fun s1 h1 => ?_
  ·refine iter_up (f := f95_0 q) q.Free.length (fun i t => t.1.length ≤ i ∧ t.2 = (i : Int)) _ (fun i t hi ⟨g1, g2⟩ => ?_) (fun t ⟨g1, g2⟩ => ?_) ([], 0) ⟨by simp, rfl⟩
   ·obtain ⟨s, k⟩ := t
    simp only at g1 g2
    subst g2
    have hb := free _ (List.getElem_mem hi)
    have hf := ftm_len (t := q.Free[i])
    simp only [f95_0]
    rw [if_pos (by omega), ix_nat hi, bS, fterm hb.1 hb.2, bS, cat_ok (by omega), bS, w64_succ (by omega)]
    exact ⟨_, rfl, by simp only [List.length_append]; omega, rfl⟩
   ·obtain ⟨s, k⟩ := t
    simp only at g1 g2
    subst g2
    simp only [f95_0]
    rw [if_neg (by omega)]
    exact ⟨_, rfl, by omega⟩
  rw [cat_ok (by simp; omega), bS]
  refine Ens.bind (Q := fun _ => True) ?_ fun s2 _ => Ens.of fun _ => rfl
  refine iter_up (f := f95_1 l q) q.Atoms.length (fun i t => t.1.length ≤ 41 + 301 * i ∧ t.2 = (i : Int)) _ (fun i t hi ⟨g1, g2⟩ => ?_) (fun t ⟨g1, g2⟩ => ?_) (s1 ++ [63], 0) ⟨by simp; omega, rfl⟩
  ·obtain ⟨s, k⟩ := t
   simp only at g1 g2
   subst g2
   obtain ⟨a1, a2⟩ := atm _ (List.getElem_mem hi)
   obtain ⟨z, z1, z2⟩ := fatomOk a1 hl hn a2
   simp only [f95_1]
   obtain ⟨s2, e2, q2⟩ : Ens (if ((i : Nat) : Int) > 0 then (cat s [32]).bind fun s_24 => some s_24 else some s) fun s2 => s2.length ≤ s.length + 1 := by
    refine Ens.ite (fun _ => ?_) fun _ => Ens.of (by omega)
    rw [cat_ok (by simp; omega)]
    exact Ens.of (by simp)
   rw [if_pos (by omega), e2, bS, ix_nat hi, bS, z1, bS, cat_ok (by omega), bS, w64_succ (by omega)]
   exact ⟨_, rfl, by simp only [List.length_append]; omega, rfl⟩
  ·obtain ⟨s, k⟩ := t
   simp only at g1 g2
   subst g2
   simp only [f95_1]
   rw [if_neg (by omega)]
   exact ⟨_, rfl, trivial⟩
end Go.Proofs.YtcllfkplpdppiaaH
namespace Go.Proofs.YtcllfkplpdppiaaH
open Go
theorem parseOk {l : List Relation} {s : List UInt8} (hl : l.length ≤ 1000) (hn : ∀ x ∈ l, x.Name.length ≤ 100) (hs : s.length ≤ 20) (h0 : s ≠ []) : Ens (f78 l s) fun r => r.2 = true → QS r.1 := by
  unfold f78
  refine Ens.bind (cutOk (sign := 63) (show s.length ≤ 1000 by omega)) fun o1 ⟨c1, c2⟩ => ?_
  refine Ens.ite (fun _ => Ens.of fun h => by cases h) fun h2 => ?_
  have h2 : o1.length = 2 := by simp only [ne_eq, Classical.not_not] at h2; omega
  have w0 := c2 o1[0] (List.getElem_mem _)
  have w1 := c2 o1[1] (List.getElem_mem _)
  have i0 : ix o1 0 = some o1[0] := ix_nat (i := 0) (by omega)
  have i1 : ix o1 1 = some o1[1] := ix_nat (i := 1) (by omega)
  refine Ens.bind (Q := fun t : Int × List Atom × List Int => t.2.1 = [] ∧ t.2.2.length ≤ 20) ?_ fun t1 ⟨a1, a2⟩ => ?_
  · refine iter_up (f := f78_0 o1) o1[0].length (fun i t => t.2.1 = [] ∧ t.2.2.1.length ≤ i ∧ t.2.2.2 = (i : Int)) _ (fun i t hi ⟨g1, g2, g3⟩ => ?_) (fun t ⟨g1, g2, g3⟩ => ?_) (0, [], [], 0) ⟨rfl, by simp, rfl⟩
    · obtain ⟨v, az, fr, k⟩ := t
      simp only at g1 g2 g3
      subst g3
      simp only [f78_0]
      rw [i0, bS, if_pos (by omega), w64_succ (by omega), cutL_ok (by omega) (by omega) (by omega), bS, pterm, bS, app_fits (by simp; omega), bS]
      exact ⟨_, rfl, g1, by simp; omega, rfl⟩
    · obtain ⟨v, az, fr, k⟩ := t
      simp only at g1 g2 g3
      subst g3
      simp only [f78_0]
      rw [i0, bS, if_neg (by omega)]
      exact ⟨_, rfl, g1, by simp only; omega⟩
  obtain ⟨v1, as1, fr1⟩ := t1
  simp only at a1 a2 ⊢
  subst a1
  rw [i1, bS]
  refine Ens.bind (cutOk (sign := 32) (show o1[1].length ≤ 1000 by omega)) fun o2 ⟨d1, d2⟩ => ?_
  refine Ens.bind (Q := fun t : Int × List Atom × List Int => QM ⟨t.1, t.2.1, t.2.2⟩) ?_ fun t2 b2 => ?_
  · refine iter_up (f := f78_1 l o2) o2.length (fun i t => t.2.1.length ≤ i ∧ (∀ a ∈ t.2.1, a.Terms.length ≤ 20) ∧ t.2.2.1.length ≤ 20 ∧ t.2.2.2 = (i : Int)) _ (fun i t hi ⟨g1, g2, g3, g4⟩ => ?_) (fun t ⟨g1, g2, g3, g4⟩ => ?_) (v1, [], fr1, 0) ⟨by simp, by simp, a2, rfl⟩
    · obtain ⟨v, az, fr, k⟩ := t
      simp only at g1 g2 g3 g4
      subst g4
      have hw := d2 _ (List.getElem_mem hi)
      have ii : ix o2 (i : Int) = some o2[i] := ix_nat hi
      obtain ⟨u, e, u1, u2, u3⟩ : Ens (iter (f78_2 l o2 (i : Int)) (v, az, fr, 0, [], 0)) fun u => u.2.1 = az ∧ u.2.2.1 = fr ∧ u.2.2.2.2.length ≤ 20 := by
        refine iter_up (f := f78_2 l o2 (i : Int)) o2[i].length (fun j u => u.2.1 = az ∧ u.2.2.1 = fr ∧ u.2.2.2.2.1.length ≤ j ∧ u.2.2.2.2.2 = (j : Int)) _ (fun j u hj ⟨k1, k2, k3, k4⟩ => ?_) (fun u ⟨k1, k2, k3, k4⟩ => ?_) (v, az, fr, 0, [], 0) ⟨rfl, rfl, by simp, rfl⟩
        · obtain ⟨v', az', fr', r, ts, m⟩ := u
          simp only at k1 k2 k3 k4
          subst k1 k2 k4
          simp only [f78_2]
          rw [ii, bS, if_pos (by omega), w64_succ (by omega)]
          obtain ⟨z, z1, z2⟩ : Ens (if ((j : Nat) : Int) = 0 then (cutL o2[i] 0 1).bind fun l_43 => (f94 l l_43).bind fun o45 => some (v', o45, ts)
              else (ix o2[i] (j : Int)).bind fun c_47 => if (c_47.toNat : Int) = 124 then some (v', r, ts)
                else (cutL o2[i] (j : Int) ((j + 1 : Nat) : Int)).bind fun l_50 => (f93 l_50).bind fun o52 => (app 8 ts ([o52.1])).bind fun l_54 => some (if w64 (o52.1 + 1) > v' then w64 (o52.1 + 1) else v', r, l_54)) fun z => z.2.2.length ≤ j + 1 := by
            refine Ens.ite (fun _ => ?_) fun _ => ?_
            · rw [cutL_ok (by omega) (by omega) (by omega), bS]
              exact Ens.bind (relIdx hl) fun o _ => Ens.of (by simp only; omega)
            · rw [ix_nat hj, bS]
              refine Ens.ite (fun _ => Ens.of (by simp only; omega)) fun _ => ?_
              rw [cutL_ok (by omega) (by omega) (by omega), bS, pterm, bS, app_fits (by simp; omega), bS]
              exact Ens.of (by simp; omega)
          rw [z1, bS]
          exact ⟨_, rfl, rfl, rfl, z2, rfl⟩
        · obtain ⟨v', az', fr', r, ts, m⟩ := u
          simp only at k1 k2 k3 k4
          subst k1 k2 k4
          simp only [f78_2]
          rw [ii, bS, if_neg (by omega)]
          exact ⟨_, rfl, rfl, rfl, by simp only; omega⟩
      obtain ⟨v', az', fr', r, ts⟩ := u
      simp only at u1 u2 u3
      subst u1 u2
      simp only [f78_1]
      rw [if_pos (by omega), e, bS, app_fits (by simp; omega), bS, w64_succ (by omega)]
      refine ⟨_, rfl, by simp; omega, fun a ha => ?_, g3, rfl⟩
      rcases List.mem_append.1 ha with ha | ha
      · exact g2 a ha
      · rw [List.mem_singleton] at ha
        subst ha; exact u3
    · obtain ⟨v, az, fr, k⟩ := t
      simp only at g1 g2 g3 g4
      subst g4
      simp only [f78_1]
      rw [if_neg (by omega)]
      exact ⟨_, rfl, by simp only; omega, fun a ha => by have := g2 a ha; omega, by simp only; omega⟩
  obtain ⟨v2, as2, fr2⟩ := t2
  simp only at b2 ⊢
  refine Ens.bind (fmtOk hl hn b2) fun o3 h3 => ?_
  refine Ens.ite (fun _ => Ens.of fun h => by cases h) fun he => Ens.of fun _ => ?_
  simp only [ne_eq, Classical.not_not] at he
  exact vq_qs (h3 (by rw [he]; exact h0))
end Go.Proofs.YtcllfkplpdppiaaH
namespace Go.Proofs.YtcllfkplpdppiaaH
open Go
def sg (a b : Int) : List Relation := [⟨[114], 2, 1⟩, ⟨[115], 2, 1⟩, ⟨[116], 2, a⟩, ⟨[117], 3, b⟩]
def q0 : Query := ⟨3, [⟨0, [0, 1]⟩, ⟨1, [1, 2]⟩], []⟩
def s0 : List UInt8 := [63, 114, 120, 124, 121, 32, 115, 121, 124, 122]
variable {a b : Int}
theorem cutA : f92 s0 63 = some [[], [114, 120, 124, 121, 32, 115, 121, 124, 122]] := by
 unfold f92
 rw [iter_of (f := f92_0 s0 63) (n := 12) (r := ([[]], 1)) (by decide)]
 rfl
theorem cutB : f92 [114, 120, 124, 121, 32, 115, 121, 124, 122] 32 = some [[114, 120, 124, 121], [115, 121, 124, 122]] := by
 unfold f92
 rw [iter_of (f := f92_0 [114, 120, 124, 121, 32, 115, 121, 124, 122] 32) (n := 12) (r := ([[114, 120, 124, 121]], 5)) (by decide)]
 rfl
theorem ri0 : f94 (sg a b) [114] = some 0 := by
 unfold f94
 rw [iter_of (f := f94_0 (sg a b) [114]) (n := 3) (r := .inr 0) (by rfl)]
 rfl
theorem ri1 : f94 (sg a b) [115] = some 1 := by
 unfold f94
 rw [iter_of (f := f94_0 (sg a b) [115]) (n := 3) (r := .inr 1) (by rfl)]
 rfl
section
variable {l : List Relation} {o : List (List UInt8)} {i : Nat} {w : List UInt8} {v : Int} {az : List Atom} {fr ts : List Int} {r : Int} {j : Nat}
theorem stp0 (hw : ix o (i : Int) = some w) (hj : 0 < w.length) {x : Int} (hx : f94 l (w.take 1) = some x) : f78_2 l o (i : Int) (v, az, fr, r, ts, 0) = some (.inl (v, az, fr, x, ts, 1)) := by
 simp only [f78_2]
 rw [hw, bS, if_pos (by omega), if_pos trivial, cutL_ok (by omega) (by omega) (by omega), bS]
 have : (w.take (1 : Int).toNat).drop (0 : Int).toNat = w.take 1 := by simp
 rw [this, hx]; rfl
theorem stpB (hw : ix o (i : Int) = some w) (hj : j < w.length) (h0 : j ≠ 0) (hc : w[j] = 124) (hl : j < 1000) : f78_2 l o (i : Int) (v, az, fr, r, ts, (j : Int)) = some (.inl (v, az, fr, r, ts, ((j + 1 : Nat) : Int))) := by
 simp only [f78_2]
 rw [hw, bS, if_pos (by omega), if_neg (by omega), ix_nat hj, bS, hc, if_pos (by decide), w64_succ (by omega)]; rfl
theorem stpT (hw : ix o (i : Int) = some w) (hj : j < w.length) (h0 : j ≠ 0) (hc : (w[j].toNat : Int) ≠ 124) (hl : j < 1000) (ht : ts.length < 1000) : f78_2 l o (i : Int) (v, az, fr, r, ts, (j : Int)) = some (.inl (if (ptm [w[j]]).1 + 1 > v then (ptm [w[j]]).1 + 1 else v, az, fr, r, ts ++ [(ptm [w[j]]).1], ((j + 1 : Nat) : Int))) := by
 have hr := ptm_rng (s := [w[j]])
 simp only [f78_2]
 rw [hw, bS, if_pos (by omega), if_neg (by omega), ix_nat hj, bS, if_neg hc, w64_succ (by omega), cutL_ok (by omega) (by omega) (by omega), bS]
 have : (w.take ((j + 1 : Nat) : Int).toNat).drop ((j : Nat) : Int).toNat = [w[j]] := by
  simp only [Int.toNat_natCast]
  rw [List.drop_take, show j + 1 - j = 1 by omega, List.drop_eq_getElem_cons hj]; rfl
 rw [this, pterm, bS, app_fits (by simp; omega), bS, w64_of (by omega)]; rfl
theorem stpE (hw : ix o (i : Int) = some w) : f78_2 l o (i : Int) (v, az, fr, r, ts, (w.length : Int)) = some (.inr (v, az, fr, r, ts)) := by
 simp only [f78_2]
 rw [hw, bS, if_neg (by omega)]
end
theorem wordA {az : List Atom} : iter (f78_2 (sg a b) [[114, 120, 124, 121], [115, 121, 124, 122]] 0) (0, az, [], 0, [], 0) = some (2, az, [], 0, [0, 1]) := by
 have hw : ix [[114, 120, 124, 121], [115, 121, 124, (122 : UInt8)]] ((0 : Nat) : Int) = some [114, 120, 124, 121] := rfl
 have e1 := stp0 (l := sg a b) (v := 0) (az := az) (fr := []) (r := 0) (ts := []) hw (by decide) ri0
 have e2 := stpT (l := sg a b) (v := 0) (az := az) (fr := []) (r := 0) (ts := []) (j := 1) hw (by decide) (by decide) (by decide) (by decide) (by decide)
 have e3 := stpB (l := sg a b) (v := 1) (az := az) (fr := []) (r := 0) (ts := [0]) (j := 2) hw (by decide) (by decide) (by decide) (by decide)
 have e4 := stpT (l := sg a b) (v := 1) (az := az) (fr := []) (r := 0) (ts := [0]) (j := 3) hw (by decide) (by decide) (by decide) (by decide) (by decide)
 have e5 := stpE (l := sg a b) (v := 2) (az := az) (fr := []) (r := 0) (ts := [0, 1]) hw
 rw [iter_eq]; erw [e1]; dsimp only
 rw [iter_eq]; erw [e2]; dsimp only
 rw [iter_eq]; erw [e3]; dsimp only
 rw [iter_eq]; erw [e4]; dsimp only
 rw [iter_eq]; erw [e5]
theorem wordB {az : List Atom} : iter (f78_2 (sg a b) [[114, 120, 124, 121], [115, 121, 124, 122]] 1) (2, az, [], 0, [], 0) = some (3, az, [], 1, [1, 2]) := by
 have hw : ix [[114, 120, 124, 121], [115, 121, 124, (122 : UInt8)]] ((1 : Nat) : Int) = some [115, 121, 124, 122] := rfl
 have e1 := stp0 (l := sg a b) (v := 2) (az := az) (fr := []) (r := 0) (ts := []) hw (by decide) ri1
 have e2 := stpT (l := sg a b) (v := 2) (az := az) (fr := []) (r := 1) (ts := []) (j := 1) hw (by decide) (by decide) (by decide) (by decide) (by decide)
 have e3 := stpB (l := sg a b) (v := 2) (az := az) (fr := []) (r := 1) (ts := [1]) (j := 2) hw (by decide) (by decide) (by decide) (by decide)
 have e4 := stpT (l := sg a b) (v := 2) (az := az) (fr := []) (r := 1) (ts := [1]) (j := 3) hw (by decide) (by decide) (by decide) (by decide) (by decide)
 have e5 := stpE (l := sg a b) (v := 3) (az := az) (fr := []) (r := 1) (ts := [1, 2]) hw
 rw [iter_eq]; erw [e1]; dsimp only
 rw [iter_eq]; erw [e2]; dsimp only
 rw [iter_eq]; erw [e3]; dsimp only
 rw [iter_eq]; erw [e4]; dsimp only
 rw [iter_eq]; erw [e5]
theorem q0_v (ha : a = 0 ∨ a = 1 ∨ a = 2) (hb : b = 1 ∨ b = 2) : vQuery (sg a b) q0 = true := by
 rcases ha with rfl | rfl | rfl <;> rcases hb with rfl | rfl <;> decide
end Go.Proofs.YtcllfkplpdppiaaH
namespace Go.Proofs.YtcllfkplpdppiaaH
open Go
variable {a b : Int}
theorem stpA {l : List Relation} {at_ : Atom} {i : Nat} {x : Relation} {s : List UInt8} (hi : i < at_.Terms.length) (hx : ix l at_.Relation = some x) (ht : -1000 ≤ at_.Terms[i] ∧ at_.Terms[i] ≤ 1000) (hs : s.length ≤ 300) (hil : i < 1000) :
  f103_0 l at_ (s, (i : Int)) = some (.inl ((if (i : Int) = x.KeyLength then s ++ [124] else s) ++ ftm at_.Terms[i], ((i + 1 : Nat) : Int))) := by
 have hf := ftm_len (t := at_.Terms[i])
 simp only [f103_0]
 rw [if_pos (by omega), hx, bS, w64_succ (by omega), ix_nat hi]
 by_cases c : (i : Int) = x.KeyLength
 ·rw [if_pos c, if_pos c, cat_ok (by simp; omega), bS, bS, bS, fterm ht.1 ht.2, bS, cat_ok (by simp; omega)]; rfl
 ·rw [if_neg c, if_neg c, bS, bS, fterm ht.1 ht.2, bS, cat_ok (by omega)]; rfl
theorem atomA : f103 (sg a b) ⟨0, [0, 1]⟩ = some [114, 120, 124, 121] := by
 unfold f103
 have hx : ix (sg a b) 0 = some ⟨[114], 2, 1⟩ := rfl
 have e1 := stpA (l := sg a b) (at_ := ⟨0, [0, 1]⟩) (i := 0) (s := [114]) (by decide) hx (by decide) (by decide) (by decide)
 have e2 := stpA (l := sg a b) (at_ := ⟨0, [0, 1]⟩) (i := 1) (s := [114, 120]) (by decide) hx (by decide) (by decide) (by decide)
 have e3 : f103_0 (sg a b) ⟨0, [0, 1]⟩ ([114, 120, 124, 121], 2) = some (.inr [114, 120, 124, 121]) := rfl
 have it : iter (f103_0 (sg a b) ⟨0, [0, 1]⟩) ([114], 0) = some [114, 120, 124, 121] := by
  rw [iter_eq]; erw [e1]; dsimp only
  rw [iter_eq]; erw [e2]; dsimp only
  rw [iter_eq]; erw [e3]
 show ((ix (sg a b) 0).bind fun v => (iter (f103_0 (sg a b) ⟨0, [0, 1]⟩) (v.Name, 0)).bind fun s => some s) = _
 rw [hx, bS, it]; rfl
theorem atomB : f103 (sg a b) ⟨1, [1, 2]⟩ = some [115, 121, 124, 122] := by
 unfold f103
 have hx : ix (sg a b) 1 = some ⟨[115], 2, 1⟩ := rfl
 have e1 := stpA (l := sg a b) (at_ := ⟨1, [1, 2]⟩) (i := 0) (s := [115]) (by decide) hx (by decide) (by decide) (by decide)
 have e2 := stpA (l := sg a b) (at_ := ⟨1, [1, 2]⟩) (i := 1) (s := [115, 121]) (by decide) hx (by decide) (by decide) (by decide)
 have e3 : f103_0 (sg a b) ⟨1, [1, 2]⟩ ([115, 121, 124, 122], 2) = some (.inr [115, 121, 124, 122]) := rfl
 have it : iter (f103_0 (sg a b) ⟨1, [1, 2]⟩) ([115], 0) = some [115, 121, 124, 122] := by
  rw [iter_eq]; erw [e1]; dsimp only
  rw [iter_eq]; erw [e2]; dsimp only
  rw [iter_eq]; erw [e3]
 show ((ix (sg a b) 1).bind fun v => (iter (f103_0 (sg a b) ⟨1, [1, 2]⟩) (v.Name, 0)).bind fun s => some s) = _
 rw [hx, bS, it]; rfl
theorem fmtQ0 (ha : a = 0 ∨ a = 1 ∨ a = 2) (hb : b = 1 ∨ b = 2) : f95 (sg a b) q0 = some s0 := by
 unfold f95
 rw [specQ (by simp [sg]) (QM.fits ⟨by simp [q0], by simp [q0], by simp [q0]⟩), q0_v ha hb, bS, if_neg (by simp)]
 rw [iter_of (f := f95_0 q0) (n := 1) (r := []) (by rfl), bS, cat_ok (by decide), bS]
 have e1 : f95_1 (sg a b) q0 ([63], 0) = some (.inl ([63, 114, 120, 124, 121], 1)) := by
  show ((Option.bind (some [63]) fun s_26 => (ix q0.Atoms 0).bind fun v_27 => (f103 (sg a b) v_27).bind fun o29 => (cat s_26 o29).bind fun s_31 => some (Sum.inl (s_31, w64 (0 + 1))))) = _
  show ((f103 (sg a b) ⟨0, [0, 1]⟩).bind fun o29 => (cat [63] o29).bind fun s_31 => some (Sum.inl (s_31, w64 (0 + 1)))) = _
  rw [atomA]; rfl
 have e2 : f95_1 (sg a b) q0 ([63, 114, 120, 124, 121], 1) = some (.inl (s0, 2)) := by
  show ((f103 (sg a b) ⟨1, [1, 2]⟩).bind fun o29 => (cat [63, 114, 120, 124, 121, 32] o29).bind fun s_31 => some (Sum.inl (s_31, w64 (1 + 1)))) = _
  rw [atomB]; rfl
 have e3 : f95_1 (sg a b) q0 (s0, 2) = some (.inr s0) := rfl
 have it : iter (f95_1 (sg a b) q0) ([63], 0) = some s0 := by
  rw [iter_eq, e1]; dsimp only
  rw [iter_eq, e2]; dsimp only
  rw [iter_eq, e3]
 erw [it]; rfl
theorem parseQ0 (ha : a = 0 ∨ a = 1 ∨ a = 2) (hb : b = 1 ∨ b = 2) : f78 (sg a b) s0 = some (q0, true) := by
 unfold f78
 rw [cutA, bS, if_neg (by decide)]
 rw [iter_of (f := f78_0 [[], [114, 120, 124, 121, 32, 115, 121, 124, 122]]) (n := 1) (r := (0, [], [])) (by rfl), bS]
 dsimp only
 rw [show ix [[], [114, 120, 124, 121, 32, 115, 121, 124, (122 : UInt8)]] 1 = some [114, 120, 124, 121, 32, 115, 121, 124, 122] from rfl, bS, cutB, bS]
 have e1 : f78_1 (sg a b) [[114, 120, 124, 121], [115, 121, 124, 122]] (0, [], [], 0) = some (.inl (2, [⟨0, [0, 1]⟩], [], 1)) := by
  show ((iter (f78_2 (sg a b) [[114, 120, 124, 121], [115, 121, 124, 122]] 0) (0, [], [], 0, [], 0)).bind fun (q_61, q_62, q_63, a_64, a_65) => (app 32 q_62 ([({ Relation := a_64, Terms := a_65 } : Atom)])).bind fun l_66 => some (Sum.inl (q_61, l_66, q_63, w64 (0 + 1)))) = _
  rw [wordA]; rfl
 have e2 : f78_1 (sg a b) [[114, 120, 124, 121], [115, 121, 124, 122]] (2, [⟨0, [0, 1]⟩], [], 1) = some (.inl (3, q0.Atoms, [], 2)) := by
  show ((iter (f78_2 (sg a b) [[114, 120, 124, 121], [115, 121, 124, 122]] 1) (2, [⟨0, [0, 1]⟩], [], 0, [], 0)).bind fun (q_61, q_62, q_63, a_64, a_65) => (app 32 q_62 ([({ Relation := a_64, Terms := a_65 } : Atom)])).bind fun l_66 => some (Sum.inl (q_61, l_66, q_63, w64 (1 + 1)))) = _
  rw [wordB]; rfl
 have e3 : f78_1 (sg a b) [[114, 120, 124, 121], [115, 121, 124, 122]] (3, q0.Atoms, [], 2) = some (.inr (3, q0.Atoms, [])) := rfl
 have it : iter (f78_1 (sg a b) [[114, 120, 124, 121], [115, 121, 124, 122]]) (0, [], [], 0) = some (3, q0.Atoms, []) := by
  rw [iter_eq, e1]; dsimp only
  rw [iter_eq, e2]; dsimp only
  rw [iter_eq, e3]
 rw [it, bS]
 show (f95 (sg a b) q0).bind _ = _
 rw [fmtQ0 ha hb, bS, if_neg (by simp)]; rfl
end Go.Proofs.YtcllfkplpdppiaaH
namespace Go.Proofs.YtcllfkplpdppiaaH
open Go
theorem copyQ {q : Query} (h : QM q) : f91 q = some q := by
 unfold f91
 have h1 := h.1
 have h3 := h.2.2
 rw [app_fits (by simp; omega), bS, List.nil_append]
 have it := iter_steps (f := f91_0 q) (fun i => (q.VariableCount, q.Atoms.take i, q.Free, (i : Int))) q.Atoms.length (q.VariableCount, q.Atoms, q.Free) (fun i hi => by
  have h2 := h.2.1 _ (List.getElem_mem hi)
  simp only [f91_0]
  rw [if_pos (by omega), ix_nat hi, bS, app_fits (by simp; omega), bS, app_fits (by simp; omega), bS, w64_succ (by omega), take_succ' hi]
  simp) (by
  simp only [f91_0]
  rw [if_neg (by omega), List.take_of_length_le (Nat.le_refl _)])
 simp only [List.take_zero, Int.natCast_zero, Int.ofNat_zero] at it
 erw [it]
 rfl
theorem onceB {c : L1Cur} {n : Int} (h : Cur c) : Ens (f71 c n) fun r => Cur r.2 := onceOk h
def lens (l : List Atom) : List Nat := l.map (·.Terms.length)
theorem lens_set {l : List Atom} {i : Nat} {x : Atom} (hi : i < l.length) (h : x.Terms.length = l[i].Terms.length) : lens (l.set i x) = lens l := by
 unfold lens
 rw [List.map_set]
 apply List.ext_getElem
 ·simp
 ·intro j h1 h2
  rw [List.getElem_set]
  split
  ·rename_i e; subst e; simp [h]
  ·rfl
theorem lens_get {l m : List Atom} (h : lens l = lens m) {i : Nat} (hi : i < m.length) : ∃ hl : i < l.length, l[i].Terms.length = m[i].Terms.length := by
 have hl : l.length = m.length := by have := congrArg List.length h; simpa [lens] using this
 refine ⟨by omega, ?_⟩
 have := congrArg (fun z => z[i]?) h
 simp only [lens, List.getElem?_map] at this
 rw [List.getElem?_eq_getElem (by omega), List.getElem?_eq_getElem hi] at this
 exact Option.some.inj this
theorem seek {name : List Int} {v : Int} (h : name.length ≤ 2000) : Ens (iter (f77_2 name v) (-1, 0)) fun r => -1 ≤ r ∧ r < name.length := by
 refine iter_up (f := f77_2 name v) name.length (fun i s => -1 ≤ s.1 ∧ s.1 < name.length ∧ s.2 = (i : Int)) _ (fun i s hi ⟨g1, g2, g3⟩ => ?_) (fun s ⟨g1, g2, g3⟩ => ?_) (-1, 0) ⟨by simp, by simp only; omega, rfl⟩
 ·obtain ⟨x, k⟩ := s
  simp only at g1 g2 g3
  subst g3
  simp only [f77_2]
  rw [if_pos (by omega), ix_nat hi, bS, w64_succ (by omega)]
  by_cases c : name[i] = v
  ·rw [if_pos c, bS]; exact ⟨_, rfl, by simp only; omega, by simp only; omega, rfl⟩
  ·rw [if_neg c, bS]; exact ⟨_, rfl, g1, g2, rfl⟩
 ·obtain ⟨x, k⟩ := s
  simp only at g1 g2 g3
  subst g3
  simp only [f77_2]
  rw [if_neg (by omega)]; exact ⟨_, rfl, g1, g2⟩
theorem tightOk {q : Query} (h : q.Atoms.length ≤ 3) (ht : ∀ a ∈ q.Atoms, a.Terms.length ≤ 3) (hfr : q.Free.length ≤ 20) : Ens (f77 q) fun r => lens r.Atoms = lens q.Atoms ∧ r.Free = q.Free ∧ 0 ≤ r.VariableCount ∧ r.VariableCount ≤ 20 := by
 unfold f77
 rw [copyQ ⟨by omega, fun a ha => by have := ht a ha; omega, by omega⟩, bS]
 refine Ens.bind (Q := fun s : Int × List Atom × List Int × List Int => lens s.2.1 = lens q.Atoms ∧ s.2.2.1 = q.Free ∧ s.2.2.2.length ≤ 20) ?_ fun s hs => ?_
 ·refine iter_up (f := f77_0) q.Atoms.length (fun i s => lens s.2.1 = lens q.Atoms ∧ s.2.2.1 = q.Free ∧ s.2.2.2.1.length ≤ 3 * i ∧ s.2.2.2.2 = (i : Int)) _ (fun i s hi ⟨g1, g2, g3, g4⟩ => ?_) (fun s ⟨g1, g2, g3, g4⟩ => ?_) (q.VariableCount, q.Atoms, q.Free, [], 0) ⟨rfl, rfl, by simp, rfl⟩
  ·obtain ⟨v, xs, fr, nm, k⟩ := s
   simp only at g1 g2 g3 g4
   subst g4
   have hq3 := ht _ (List.getElem_mem hi)
   have hxl : xs.length = q.Atoms.length := by have := congrArg List.length g1; simpa [lens] using this
   obtain ⟨u, e, u1, u2, u3⟩ : Ens (iter (f77_1 (i : Int)) (v, xs, fr, nm, 0)) fun u => lens u.2.1 = lens q.Atoms ∧ u.2.2.1 = q.Free ∧ u.2.2.2.length ≤ nm.length + 3 := by
    refine iter_up (f := f77_1 (i : Int)) q.Atoms[i].Terms.length (fun j u => lens u.2.1 = lens q.Atoms ∧ u.2.2.1 = q.Free ∧ u.2.2.2.1.length ≤ nm.length + j ∧ u.2.2.2.2 = (j : Int)) _ (fun j u hj ⟨k1, k2, k3, k4⟩ => ?_) (fun u ⟨k1, k2, k3, k4⟩ => ?_) (v, xs, fr, nm, 0) ⟨g1, g2, by simp, rfl⟩
    ·obtain ⟨v', xs', fr', nm', m⟩ := u
     simp only at k1 k2 k3 k4
     subst k4
     obtain ⟨hl1, hl2⟩ := lens_get k1 hi
     simp only [f77_1]
     rw [ix_nat hl1, bS, if_pos (by omega), ix_nat (by omega), w64_succ (by omega)]
     simp only [bS]
     by_cases c : xs'[i].Terms[j] < 0
     ·rw [if_pos c, bS]
      exact ⟨_, rfl, k1, k2, by simp only; omega, rfl⟩
     ·obtain ⟨z, z1, z2, z3⟩ := seek (name := nm') (v := xs'[i].Terms[j]) (by omega)
      rw [if_neg c, z1, bS]
      obtain ⟨y, y1, y2⟩ : Ens (if z < 0 then (app 8 nm' ([xs'[i].Terms[j]])).bind fun l_37 => some (l_37, (nm'.length : Int)) else some (nm', z)) fun y => y.1.length ≤ nm'.length + 1 := by
       refine Ens.ite (fun _ => ?_) fun _ => Ens.of (by simp only; omega)
       rw [app_fits (by simp; omega), bS]
       exact Ens.of (by simp)
      rw [y1, bS, bS]
      refine ⟨_, rfl, ?_, k2, by simp only; omega, rfl⟩
      simp only [Int.toNat_natCast]
      rw [lens_set hl1 (by simp)]; exact k1
    ·obtain ⟨v', xs', fr', nm', m⟩ := u
     simp only at k1 k2 k3 k4
     subst k4
     obtain ⟨hl1, hl2⟩ := lens_get k1 hi
     simp only [f77_1]
     rw [ix_nat hl1, bS, if_neg (by omega)]
     exact ⟨_, rfl, k1, k2, by simp only; omega⟩
   obtain ⟨uv, uxs, ufr, unm⟩ := u
   simp only at u1 u2 u3
   simp only [f77_0]
   rw [if_pos (by omega), e, bS, w64_succ (by omega)]
   exact ⟨_, rfl, u1, u2, by simp only; omega, rfl⟩
  ·obtain ⟨v, xs, fr, nm, k⟩ := s
   simp only at g1 g2 g3 g4
   subst g4
   have hxl : xs.length = q.Atoms.length := by have := congrArg List.length g1; simpa [lens] using this
   simp only [f77_0]
   rw [if_neg (by omega)]
   exact ⟨_, rfl, g1, g2, by simp only; omega⟩
 ·obtain ⟨v, xs, fr, nm⟩ := s
  simp only at hs ⊢
  exact Ens.of ⟨hs.1, hs.2.1, by simp only; omega, by simp only; omega⟩
theorem queryOk {c : L1Cur} (h : Cur c) : Ens (f70 c) fun r => QS r.1 ∧ Cur r.2 := by
  unfold f70
  refine Ens.bind (belowOk h) fun o1 h1 => ?_
  refine Ens.bind (belowOk h1.2.2.2) fun o3 h3 => ?_
  refine Ens.bind (belowOk h3.2.2.2) fun o5 h5 => ?_
  have a1 := h1.2.2.1 (by decide)
  have a5 := h5.2.2.1 (by decide)
  have a10 := h1.1
  have a50 := h5.1
  obtain ⟨n, hn⟩ : ∃ n : Nat, 1 + o1.1 = n := ⟨(1 + o1.1).toNat, by omega⟩
  refine Ens.bind (Q := fun s : List Int × Int × Int × Int × List Atom × List Int => Cur ⟨s.1, s.2.1, s.2.2.1⟩ ∧ s.2.2.2.2.1.length = n ∧ (∀ a ∈ s.2.2.2.2.1, 2 ≤ a.Terms.length ∧ a.Terms.length ≤ 3) ∧ s.2.2.2.2.2 = []) ?_ fun s hs => ?_
  · refine iter_up (f := f70_0 o1 o3 o5) n (fun i s => Cur ⟨s.1, s.2.1, s.2.2.1⟩ ∧ s.2.2.2.2.1.length = i ∧ (∀ a ∈ s.2.2.2.2.1, 2 ≤ a.Terms.length ∧ a.Terms.length ≤ 3) ∧ s.2.2.2.2.2.1 = [] ∧ s.2.2.2.2.2.2 = (i : Int)) _ (fun i s hi ⟨g1, g2, g3, g4, g5⟩ => ?_) (fun s ⟨g1, g2, g3, g4, g5⟩ => ?_) (o5.2.b, o5.2.i, o5.2.h, 0, [], [], 0) ⟨h5.2.2.2, rfl, by simp, rfl, rfl⟩
    · obtain ⟨cb, ci, ch, v, az, fr, k⟩ := s
      simp only at g1 g2 g3 g4 g5
      subst g4 g5
      have hr : 0 ≤ (o5.1 + (i : Int)).tmod 4 ∧ (o5.1 + (i : Int)).tmod 4 < 4 := tmod_lt (by omega) (by decide)
      have hm : 0 ≤ ((o5.1 + (i : Int)).tmod 4).tdiv 3 ∧ ((o5.1 + (i : Int)).tmod 4).tdiv 3 ≤ 1 := by
        rw [Int.tdiv_eq_ediv_of_nonneg hr.1]; omega
      obtain ⟨p, hp⟩ : ∃ p : Nat, 2 + ((o5.1 + (i : Int)).tmod 4).tdiv 3 = p := ⟨(2 + ((o5.1 + (i : Int)).tmod 4).tdiv 3).toNat, by omega⟩
      simp only [f70_0]
      rw [w64_of (n := 1 + o1.1) (by omega), if_pos (by omega), w64_of (n := o5.1 + (i : Int)) (by omega), w64_of (n := ((o5.1 + (i : Int)).tmod 4).tdiv 3) (by omega), w64_of (n := 2 + ((o5.1 + (i : Int)).tmod 4).tdiv 3) (by omega), hp]
      obtain ⟨u, e, u1, u2⟩ : Ens (iter (f70_1 o3) (cb, ci, ch, (o5.1 + (i : Int)).tmod 4, [], (p : Int))) fun u => Cur ⟨u.1, u.2.1, u.2.2.1⟩ ∧ u.2.2.2.2.length = p := by
        refine iter_up (f := f70_1 o3) p (fun j u => Cur ⟨u.1, u.2.1, u.2.2.1⟩ ∧ u.2.2.2.2.1.length = j ∧ u.2.2.2.2.2 = ((p - j : Nat) : Int)) _ (fun j u hj ⟨k1, k2, k3⟩ => ?_) (fun u ⟨k1, k2, k3⟩ => ?_) _ ⟨g1, rfl, rfl⟩
        · obtain ⟨b, x, y, r, ts, m⟩ := u
          simp only at k1 k2 k3
          subst k3
          simp only [f70_1]
          rw [if_pos (by omega)]
          obtain ⟨z, z1, z2⟩ := onceB (n := 12) k1
          rw [z1, bS]
          obtain ⟨t, t1, t2, t3⟩ : Ens (if z.1 = true then (f24 z.2 2).bind fun o27 => (app 8 ts ([w64 ((-1) - o27.1)])).bind fun l_29 => some (o27.2.b, o27.2.i, o27.2.h, l_29)
              else (f24 z.2 (w64 (1 + o3.1))).bind fun o31 => (app 8 ts ([o31.1])).bind fun l_33 => some (o31.2.b, o31.2.i, o31.2.h, l_33)) fun t => Cur ⟨t.1, t.2.1, t.2.2.1⟩ ∧ t.2.2.2.length = j + 1 := by
            refine Ens.ite (fun _ => ?_) fun _ => ?_
            · refine Ens.bind (belowOk z2) fun o ho => ?_
              rw [app_fits (by simp; omega), bS]
              exact Ens.of ⟨ho.2.2.2, by simp; omega⟩
            · refine Ens.bind (belowOk z2) fun o ho => ?_
              rw [app_fits (by simp; omega), bS]
              exact Ens.of ⟨ho.2.2.2, by simp; omega⟩
          rw [t1, bS, w64_of (by omega)]
          exact ⟨_, rfl, t2, t3, by simp only; omega⟩
        · obtain ⟨b, x, y, r, ts, m⟩ := u
          simp only at k1 k2 k3
          subst k3
          simp only [f70_1]
          rw [if_neg (by omega)]
          exact ⟨_, rfl, k1, k2⟩
      obtain ⟨b, x, y, r, ts⟩ := u
      simp only at u1 u2
      rw [e, bS, app_fits (by simp; omega), bS, w64_succ (by omega)]
      refine ⟨_, rfl, u1, by simp; omega, fun a ha => ?_, rfl, rfl⟩
      rcases List.mem_append.1 ha with ha | ha
      · exact g3 a ha
      · rw [List.mem_singleton] at ha
        subst ha
        simp only; omega
    · obtain ⟨cb, ci, ch, v, az, fr, k⟩ := s
      simp only at g1 g2 g3 g4 g5
      subst g4 g5
      simp only [f70_0]
      rw [w64_of (n := 1 + o1.1) (by omega), if_neg (by omega)]
      exact ⟨_, rfl, g1, g2, g3, rfl⟩
  · obtain ⟨cb, ci, ch, v, az, fr⟩ := s
    simp only at hs ⊢
    obtain ⟨s1, s2, s3, s4⟩ := hs
    subst s4
    refine Ens.bind (tightOk (q := ⟨v, az, []⟩) (by simp only; omega) (fun a ha => (s3 a ha).2) (by simp)) fun r ⟨r1, r2, r3, r4⟩ => Ens.of ⟨?_, s1⟩
    show QS r
    have hrl : r.Atoms.length = az.length := by have := congrArg List.length r1; simpa [lens] using this
    refine ⟨by omega, by omega, fun a ha => ?_, by rw [r2]; simp, r3, r4⟩
    obtain ⟨k, hk, rfl⟩ := List.getElem_of_mem ha
    obtain ⟨hl1, hl2⟩ := lens_get (l := r.Atoms) (m := az) r1 (i := k) (by omega)
    have := s3 az[k] (List.getElem_mem _)
    omega
end Go.Proofs.YtcllfkplpdppiaaH
namespace Go.Proofs.YtcllfkplpdppiaaH
open Go
def SigsG (l : List Relation) : Prop := ∃ a b : Int, l = sg a b ∧ (a = 0 ∨ a = 1 ∨ a = 2) ∧ (b = 1 ∨ b = 2)
theorem SigsG.small {l : List Relation} (h : SigsG l) : l.length = 4 ∧ ∀ x ∈ l, x.Name.length ≤ 100 := by
 obtain ⟨a, b, rfl, _⟩ := h
 refine ⟨rfl, fun x hx => ?_⟩
 simp only [sg, List.mem_cons, List.not_mem_nil, or_false] at hx
 rcases hx with rfl | rfl | rfl | rfl <;> simp
theorem sigsG {c : L1Cur} (h : Cur c) : Ens (f43 c) fun r => SigsG r.1 ∧ Cur r.2 := by
 unfold f43
 refine Ens.bind (pickOk h (by simp)) fun o1 h1 => ?_
 refine Ens.bind (belowOk h1.2) fun o2 h2 => ?_
 have h3 := h2.2.2.1 (by decide)
 have h4 := h2.1
 refine Ens.of ⟨⟨o1.1, 1 + o2.1, ?_, ?_, by omega⟩, h2.2.2.2⟩
 ·rw [w64_of (by omega)]; rfl
 ·have := h1.1
  simp only [List.mem_cons, List.not_mem_nil, or_false] at this
  omega
theorem q0_qs : QS q0 := by
 refine ⟨by decide, by decide, fun a ha => ?_, by decide, by decide, by decide⟩
 simp only [q0, List.mem_cons, List.not_mem_nil, or_false] at ha
 rcases ha with rfl | rfl <;> decide
theorem knownOk {c : L1Cur} {l : List Relation} (h : Cur c) (hl : SigsG l) : Ens (f72 c l) fun r => QS r.1 ∧ Cur r.2 := by
 unfold f72
 refine Ens.bind (Q := fun r : List UInt8 × L1Cur => (r.1.length ≤ 20 ∧ r.1 ≠ []) ∧ Cur r.2) ?_ fun o1 h1 => ?_
 ·unfold f79
  refine Ens.bind (belowOk h) fun o ho => ?_
  have a1 := ho.1
  have a2 := ho.2.2.1 (by decide)
  rw [ix_of a1, List.getElem?_eq_getElem (by omega), bS]
  refine Ens.of ⟨?_, ho.2.2.2⟩
  have all : ∀ x ∈ ([[63, 114, 120, 124, 121, 32, 115, 121, 124, 122], [63, 114, 120, 124, 121, 32, 115, 121, 124, 120], [63, 114, 120, 124, 121, 32, 115, 122, 124, 121], [63, 114, 120, 124, 121, 32, 115, 120, 124, 122], [63, 114, 120, 124, 49], [63, 114, 120, 124, 120], [63, 114, 120, 124, 121, 32, 115, 121, 124, 49], [63, 114, 120, 124, 121, 32, 115, 121, 124, 122, 32, 114], [63, 114, 120, 124, 121], [63, 114, 120, 124, 122, 32, 115, 121, 124, 122]] : List (List UInt8)), x.length ≤ 20 ∧ x ≠ [] := by decide
  exact all _ (List.getElem_mem _)
 obtain ⟨m1, m2⟩ := hl.small
 refine Ens.bind (parseOk (by omega) m2 h1.1.1 h1.1.2) fun o3 h3 => ?_
 refine Ens.bind (Q := fun r : Int × List Atom × List Int => QS ⟨r.1, r.2.1, r.2.2⟩) (Ens.ite (fun _ => ?_) fun hc => ?_) fun r hr => Ens.of ⟨hr, h1.2⟩
 ·obtain ⟨a, b, rfl, ha, hb⟩ := hl
  have := parseQ0 (a := a) (b := b) ha hb
  unfold s0 at this
  rw [this, bS]
  exact Ens.of q0_qs
 ·exact Ens.of (h3 (by simpa using hc))
def QB (q : Query) : Prop := q.Atoms.length ≤ 100 ∧ (∀ a ∈ q.Atoms, a.Terms.length ≤ 100) ∧ q.Free.length ≤ 100
theorem QB.fits {q : Query} (h : QB q) : FitsQ q := ⟨by have := h.1; omega, fun a ha => by have := h.2.1 a ha; omega, by have := h.2.2; omega⟩
theorem drawQ {c : L1Cur} {l : List Relation} (h : Cur c) (hl : SigsG l) : Ens (f60 c l) fun r => (1 ≤ r.1.Atoms.length ∧ r.1.Atoms.length ≤ 40 ∧ (∀ a ∈ r.1.Atoms, 1 ≤ a.Terms.length ∧ a.Terms.length ≤ 40) ∧ r.1.Free.length ≤ 40) ∧ Cur r.2 := by
 unfold f60
 refine Ens.bind (queryOk h) fun o1 h1 => ?_
 refine Ens.bind (onceB h1.2) fun o3 h3 => ?_
 refine Ens.bind (Q := fun s : List Int × Int × Int × Int × List Atom × List Int => QS ⟨s.2.2.2.1, s.2.2.2.2.1, s.2.2.2.2.2⟩ ∧ Cur ⟨s.1, s.2.1, s.2.2.1⟩) (Ens.ite (fun _ => ?_) fun _ => Ens.of ⟨h1.1, h3⟩) fun s hs => ?_
 ·exact Ens.bind (knownOk h3 hl) fun o ho => Ens.of ho
 obtain ⟨cb, ci, ch, v, az, fr⟩ := s
 simp only at hs ⊢
 obtain ⟨⟨q1, q2, q3, q4, q5, q6⟩, hc⟩ := hs
 simp only at q1 q2 q3 q4 q5 q6
 refine Ens.bind (onceB hc) fun o6 h6 => ?_
 refine Ens.bind (Q := fun s : List Int × Int × Int × Int × List Atom × List Int => s.2.2.2.2.1 = az ∧ s.2.2.2.2.2.length ≤ 40 ∧ Cur ⟨s.1, s.2.1, s.2.2.1⟩) (Ens.ite (fun _ => ?_) fun _ => Ens.of ⟨rfl, by simp only; omega, h6⟩) fun s hs => ?_
 ·refine Ens.bind (Q := fun s : List Int × Int × Int × Int × List Atom × List Int => s.2.2.2.2.1 = az ∧ s.2.2.2.2.2.length ≤ 40 ∧ Cur ⟨s.1, s.2.1, s.2.2.1⟩) ?_ fun s hs => Ens.of hs
  obtain ⟨n, hn⟩ : ∃ n : Nat, v = n := ⟨v.toNat, by omega⟩
  subst hn
  refine iter_up (f := f60_0) n (fun i s => s.2.2.2.1 = (n : Int) ∧ s.2.2.2.2.1 = az ∧ s.2.2.2.2.2.1.length ≤ 20 + i ∧ Cur ⟨s.1, s.2.1, s.2.2.1⟩ ∧ s.2.2.2.2.2.2 = (i : Int)) _ (fun i s hi ⟨g1, g2, g3, g4, g5⟩ => ?_) (fun s ⟨g1, g2, g3, g4, g5⟩ => ?_) _ ⟨rfl, rfl, by simp only; omega, h6, rfl⟩
  ·obtain ⟨b, x, y, v, az', fr', k⟩ := s
   simp only at g1 g2 g3 g4 g5
   subst g1 g2 g5
   simp only [f60_0]
   obtain ⟨z, z1, z2⟩ := onceB (n := 3) g4
   rw [if_pos (by omega), z1, bS, w64_succ (by omega)]
   obtain ⟨t, t1, t2⟩ : Ens (if z.1 = true then (app 8 fr' ([((i : Nat) : Int)])).bind fun l_34 => some l_34 else some fr') fun t => t.length ≤ fr'.length + 1 := by
    refine Ens.ite (fun _ => ?_) fun _ => Ens.of (by omega)
    rw [app_fits (by simp; omega), bS]
    exact Ens.of (by simp)
   rw [t1, bS]
   exact ⟨_, rfl, rfl, rfl, by simp only; omega, z2, rfl⟩
  ·obtain ⟨b, x, y, v, az', fr', k⟩ := s
   simp only at g1 g2 g3 g4 g5
   subst g1 g2 g5
   simp only [f60_0]
   rw [if_neg (by omega)]
   exact ⟨_, rfl, rfl, by simp only; omega, g4⟩
 obtain ⟨b, x, y, v', az', fr'⟩ := s
 simp only at hs ⊢
 obtain ⟨s1, s2, s3⟩ := hs
 subst s1
 exact Ens.of ⟨⟨q1, q2, q3, s2⟩, s3⟩
theorem anyOk {c : L1Cur} {l : List Relation} (h : Cur c) (hl : SigsG l) : Ens (f44 c l) fun r => QB r.1 ∧ Cur r.2 := by
 unfold f44
 refine Ens.bind (drawQ h hl) fun o1 ⟨⟨q1, q2, q3, q4⟩, hc⟩ => ?_
 have q3' : ∀ a ∈ o1.1.Atoms, a.Terms.length ≤ 100 := fun a ha => by have := q3 a ha; omega
 refine Ens.bind (belowOk hc) fun o3 h3 => ?_
 have hc3 := h3.2.2.2
 refine Ens.bind (Q := fun s : List Int × Int × Int × Int × List Atom × List Int => (s.2.2.2.2.1.length ≤ 100 ∧ (∀ a ∈ s.2.2.2.2.1, a.Terms.length ≤ 100) ∧ s.2.2.2.2.2.length ≤ 100) ∧ Cur ⟨s.1, s.2.1, s.2.2.1⟩) (Ens.ite (fun _ => ?_) fun _ => ?_) fun s hs => Ens.of hs
 ·exact Ens.bind (pickOk hc3 (by simp)) fun o ho => Ens.of ⟨⟨by simp only; omega, q3', by simp only; omega⟩, ho.2⟩
 refine Ens.bind (Q := fun s : List Int × Int × Int × List Atom × List Int => (s.2.2.2.1.length ≤ 100 ∧ (∀ a ∈ s.2.2.2.1, a.Terms.length ≤ 100) ∧ s.2.2.2.2.length ≤ 100) ∧ Cur ⟨s.1, s.2.1, s.2.2.1⟩) (Ens.ite (fun _ => ?_) fun _ => ?_) fun s hs => Ens.of hs
 ·refine Ens.bind (belowOk hc3) fun o ho => ?_
  rw [app_fits (by simp; omega), bS]
  refine Ens.of ⟨⟨by simp; omega, fun a ha => ?_, by simp only; omega⟩, ho.2.2.2⟩
  rcases List.mem_append.1 ha with ha | ha
  ·exact q3' a ha
  ·rw [List.mem_singleton] at ha
   subst ha; simp
 refine Ens.bind (Q := fun s : List Int × Int × Int × List Atom × List Int => (s.2.2.2.1.length ≤ 100 ∧ (∀ a ∈ s.2.2.2.1, a.Terms.length ≤ 100) ∧ s.2.2.2.2.length ≤ 100) ∧ Cur ⟨s.1, s.2.1, s.2.2.1⟩) (Ens.ite (fun _ => ?_) fun _ => ?_) fun s hs => Ens.of hs
 ·have i0 : ix o1.1.Atoms 0 = some o1.1.Atoms[0] := ix_nat (i := 0) (by omega)
  have ht := q3 _ (List.getElem_mem (show 0 < o1.1.Atoms.length by omega))
  rw [i0, bS]
  refine Ens.bind (pickOk hc3 (by simp)) fun o ho => ?_
  have i1 : ix o1.1.Atoms[0].Terms 0 = some o1.1.Atoms[0].Terms[0] := ix_nat (i := 0) (by omega)
  rw [i1, bS]
  refine Ens.of ⟨⟨by simp; omega, fun a ha => ?_, by simp only; omega⟩, ho.2⟩
  rcases List.mem_or_eq_of_mem_set ha with ha | rfl
  ·exact q3' a ha
  ·simp; omega
 refine Ens.bind (Q := fun s : List Int × Int × Int × List Int => s.2.2.2.length ≤ 100 ∧ Cur ⟨s.1, s.2.1, s.2.2.1⟩) (Ens.ite (fun _ => ?_) fun _ => ?_) fun s hs => Ens.of ⟨⟨by simp only; omega, q3', hs.1⟩, hs.2⟩
 ·refine Ens.bind (belowOk hc3) fun o ho => ?_
  rw [app_fits (by simp; omega), bS]
  exact Ens.of ⟨by simp; omega, ho.2.2.2⟩
 ·exact Ens.of ⟨by simp only; omega, hc3⟩
theorem bothOk {code : List Int} (h : code.length ≤ 1048576) : Ens (f23 code) fun r => SigsG r.2.1 ∧ QB r.2.2 ∧ Cur r.1 := by
 unfold f23
 refine Ens.bind (newOk h) fun c hc => ?_
 refine Ens.bind (sigsG hc) fun o1 h1 => ?_
 exact Ens.bind (anyOk h1.2 h1.1) fun o3 h3 => Ens.of ⟨h1.1, h3.1, h3.2⟩
theorem drawAtt {code : List Int} (h : code.length ≤ 1048576) : Ens (f6 code) fun r => SigsG r.1 ∧ QB r.2.1 := by
 unfold f6
 refine Ens.bind (bothOk h) fun o ho => ?_
 refine Ens.bind (belowOk ho.2.2) fun o1 h1 => ?_
 exact Ens.bind (belowOk h1.2.2.2) fun o2 h2 => Ens.of ⟨ho.1, ho.2.1⟩
end Go.Proofs.YtcllfkplpdppiaaH
namespace Go.Proofs.YtcllfkplpdppiaaH
open Go
section
variable {l : List Relation} {q : Query}
structure VQy (l : List Relation) (q : Query) : Prop where
 big : Big l.length
 fits : FitsQ q
 rels : vRels l = true
 n1 : 1 ≤ q.Atoms.length
 n3 : q.Atoms.length ≤ 3
 terms : ∀ a ∈ q.Atoms, a.Terms.length ≤ 3
 free : In4 q.Free.contains
 free4 : q.Free.length ≤ 4
theorem asc_len4 {n : Int} {f : List Int} (h : asc n f = true) (hn : n ≤ 4) : In4 f.contains ∧ f.length ≤ 4 := by
 have hg := h
 unfold asc at hg
 have e : ∀ i (hi : i < f.length), (i : Int) ≤ f[i] ∧ f[i] ≤ n - 1 := by
  intro i
  induction i with
  | zero =>
   intro hi
   have := (good_of hg hi).1
   unfold btw at this; simp only [Bool.and_eq_true, decide_eq_true_eq] at this
   omega
  | succ i ih =>
   intro hi
   have := good_of hg hi
   have g1 := this.1
   have g2 := this.2 (by omega)
   unfold btw at g1; simp only [Bool.and_eq_true, decide_eq_true_eq, Nat.add_sub_cancel] at g1 g2
   have := ih (by omega)
   omega
 refine ⟨fun v hv => ?_, ?_⟩
 ·rw [List.contains_iff_mem] at hv
  obtain ⟨i, hi, rfl⟩ := List.mem_iff_getElem.1 hv
  have := e i hi
  unfold btw; simp; omega
 ·apply Classical.byContradiction
  intro hc
  have := e (f.length - 1) (by omega)
  omega
theorem vq_of (hl : Big l.length) (hq : FitsQ q) (h : vQuery l q = true) : VQy l q := by
 unfold vQuery at h
 simp only [Bool.and_eq_true] at h
 obtain ⟨h1, h2, h3, h4, _, h5⟩ := h
 unfold btw at h2 h3; simp only [Bool.and_eq_true, decide_eq_true_eq] at h2 h3
 obtain ⟨f1, f2⟩ := asc_len4 h5 (by omega)
 refine ⟨hl, hq, h1, by omega, by omega, fun a ha => ?_, f1, f2⟩
 obtain ⟨i, hi, rfl⟩ := List.mem_iff_getElem.1 ha
 have := List.all_eq_true.1 h4 i (List.mem_range.2 hi)
 rw [vAtom_get hi] at this
 unfold vAt at this
 simp only [Bool.and_eq_true, decide_eq_true_eq] at this
 have := vRels_arity h1 this.1
 omega
theorem kvars_in {a : Atom} : In4 (kvars l a).contains := by
 unfold kvars; split
 ·rw [avars_nfl]; exact nfl_in
 ·intro v hv; simp at hv
theorem avars_in {t : List Int} : In4 (avars t).contains := nfl_in
def atomAt (q : Query) (i : Nat) : Atom := q.Atoms.getD i default
theorem atom_get {i : Nat} (h : i < q.Atoms.length) : atomAt q i = q.Atoms[i] := by
 unfold atomAt; rw [List.getD_eq_getElem?_getD, List.getElem?_eq_getElem h]; rfl
def ruleA (l : List Relation) (q : Query) (skip : Int) (i : Nat) : Rule := ⟨fun X => decide (((i : Nat) : Int) ≠ skip) && (kvars l (atomAt q i)).all X, (avars (atomAt q i).Terms).contains⟩
def rulesA (l : List Relation) (q : Query) (skip : Int) : List Rule := (List.range q.Atoms.length).map (ruleA l q skip)
theorem rulesA_len {skip : Int} : (rulesA l q skip).length = q.Atoms.length := by simp [rulesA]
theorem rulesA_get {skip : Int} {i : Nat} (h : i < (rulesA l q skip).length) : (rulesA l q skip)[i] = ruleA l q skip i := by simp [rulesA]
theorem rulesA_mono {skip : Int} : ∀ r ∈ rulesA l q skip, r.mono := by
 intro r hr
 unfold rulesA at hr
 obtain ⟨i, _, rfl⟩ := List.mem_map.1 hr
 intro X Y h hc
 simp only [ruleA, Bool.and_eq_true] at hc ⊢
 exact ⟨hc.1, List.all_eq_true.2 fun v hv => h v (List.all_eq_true.1 hc.2 v hv)⟩
theorem rulesA_in {skip : Int} : ∀ r ∈ rulesA l q skip, In4 r.a := by
 intro r hr
 unfold rulesA at hr
 obtain ⟨i, _, rfl⟩ := List.mem_map.1 hr
 exact avars_in
def closX (l : List Relation) (q : Query) (skip : Int) (X : Int → Bool) : Int → Bool := cl (rulesA l q skip) X
theorem closX_in {skip : Int} {X : Int → Bool} (h : In4 X) : In4 (closX l q skip X) := passes_in h rulesA_in
def setOf (q : Query) (vars : List Int) : Int → Bool := (nfl (cupX vars.contains q.Free.contains)).contains
theorem setOf_in {vars : List Int} : In4 (setOf q vars) := nfl_in
theorem nfl_setOf {vars : List Int} : nfl (setOf q vars) = nfl (cupX vars.contains q.Free.contains) := nfl_idem
variable (V : VQy l q)
include V
theorem small {i : Nat} (hi : i < q.Atoms.length) : q.Atoms[i].Terms.length ≤ 3 := V.terms _ (List.getElem_mem hi)
theorem roundSpec {skip : Int} {X : Int → Bool} (hX : In4 X) : iter (f36_1 l q skip) (nfl X, 0) = some (nfl (pass (rulesA l q skip) X)) := by
 have := iter_steps (f := f36_1 l q skip) (fun i => (nfl (pass ((rulesA l q skip).take i) X), (i : Int))) q.Atoms.length (nfl (pass (rulesA l q skip) X)) (fun i hi => by
  have hl := rulesA_len (l := l) (q := q) (skip := skip)
  have n3 := V.n3
  rw [pass_take (by omega), rulesA_get]
  have hin : In4 (pass ((rulesA l q skip).take i) X) := pass_in hX fun r hr => rulesA_in r (List.mem_of_mem_take hr)
  generalize pass ((rulesA l q skip).take i) X = Y at hin
  have hs := small V hi
  have k4 := kvars_len (l := l) (a := q.Atoms[i])
  have a4 := avars_len (t := q.Atoms[i].Terms)
  have y4 := nfl_len (X := Y)
  simp only [f36_1]
  rw [if_pos (by omega), ix_nat hi, w64_succ (by omega)]
  unfold fire ruleA
  rw [atom_get hi]
  by_cases c : ((i : Nat) : Int) ≠ skip
  ·rw [if_pos c]
   simp only [c, decide_true, Bool.true_and, bS]
   rw [specKV V.big (by omega), bS, has14 (by omega) (by omega), bS, nfl_has hin, specVars (by omega)]
   cases (kvars l q.Atoms[i]).all Y
   ·simp
   ·simp only [if_true, bS]
    rw [bothS (by omega) (by omega), nfl_has hin]; simp [c]
  ·rw [if_neg c]
   simp [c]) (by
  simp only [f36_1]
  rw [if_neg (by omega), List.take_of_length_le (by rw [rulesA_len]; omega)])
 simp only [List.take_zero, pass, List.foldl_nil, Int.natCast_zero, Int.ofNat_zero] at this
 exact this
theorem roundImp {skip : Int} {X : Int → Bool} (hX : In4 X) : iter (f56_1 l q.Atoms skip) (nfl X, 0) = some (nfl (pass (rulesA l q skip) X)) := by
 have := iter_steps (f := f56_1 l q.Atoms skip) (fun i => (nfl (pass ((rulesA l q skip).take i) X), (i : Int))) q.Atoms.length (nfl (pass (rulesA l q skip) X)) (fun i hi => by
  have hl := rulesA_len (l := l) (q := q) (skip := skip)
  have n3 := V.n3
  rw [pass_take (by omega), rulesA_get]
  have hin : In4 (pass ((rulesA l q skip).take i) X) := pass_in hX fun r hr => rulesA_in r (List.mem_of_mem_take hr)
  generalize pass ((rulesA l q skip).take i) X = Y at hin
  have hs := small V hi
  have k4 := kvars_len (l := l) (a := q.Atoms[i])
  have a4 := avars_len (t := q.Atoms[i].Terms)
  have y4 := nfl_len (X := Y)
  simp only [f56_1]
  rw [if_pos (by omega), ix_nat hi, w64_succ (by omega)]
  unfold fire ruleA
  rw [atom_get hi]
  by_cases c : ((i : Nat) : Int) ≠ skip
  ·rw [bS, if_pos c]
   simp only [c, decide_true, Bool.true_and, bS]
   rw [impKV V.big (by omega), bS, subset (by omega) (by omega), bS, nfl_has hin, impVars (by omega)]
   have e : (kvars l q.Atoms[i]).all Y = (kvars l q.Atoms[i]).all Y := rfl
   cases (kvars l q.Atoms[i]).all Y
   ·simp
   ·simp only [if_true, bS]
    rw [unionI (by omega) nfl_in avars_in, nfl_has hin]; simp [c]
  ·rw [bS, if_neg c]
   simp [c]) (by
  simp only [f56_1]
  rw [if_neg (by omega), List.take_of_length_le (by rw [rulesA_len]; omega)])
 simp only [List.take_zero, pass, List.foldl_nil, Int.natCast_zero, Int.ofNat_zero] at this
 exact this
theorem closSpec {skip : Int} {vars : List Int} (hv : vQuery l q = true) (hb : Big vars.length) : f36 l q skip vars = some (nfl (closX l q skip (setOf q vars))) := by
 unfold f36
 have f4 := V.free4
 rw [specQ V.big V.fits, hv, bS, if_neg (by simp), bothS hb (by omega), bS, ← nfl_setOf]
 have := iter_steps (f := f36_0 l q skip) (fun i => (nfl (passes (rulesA l q skip) i (setOf q vars)), (i : Int))) q.Atoms.length (nfl (closX l q skip (setOf q vars))) (fun i hi => by
  have n3 := V.n3
  simp only [f36_0]
  rw [if_pos (by omega), roundSpec V (passes_in setOf_in rulesA_in), bS, w64_succ (by omega)]; rfl) (by
  simp only [f36_0]
  rw [if_neg (by omega)]
  unfold closX cl
  rw [rulesA_len])
 simp only [passes, Int.natCast_zero, Int.ofNat_zero] at this
 erw [this]; rfl
theorem closImp {skip : Int} {vars : List Int} (hb : vars.length ≤ 12) (hi : In4 vars.contains) : f56 l q.Atoms skip vars = some (nfl (closX l q skip vars.contains)) := by
 unfold f56
 rw [unionI (by rw [List.length_nil]; omega) hi (fun v hv => by simp at hv), bS]
 have e : nfl (cupX vars.contains ([] : List Int).contains) = nfl vars.contains := nfl_congr fun v _ => by simp [cupX]
 rw [e]
 refine Ens.eq (Q := fun r => r = nfl (closX l q skip vars.contains)) (Ens.bind (Q := fun r => r = nfl (closX l q skip vars.contains)) ?_ fun a h => Ens.of h) _ fun _ h => h
 refine iter_up (f := f56_0 l q.Atoms skip) 5 (fun j s => s = nfl (passes (rulesA l q skip) j vars.contains) ∧ j ≤ s.length) _ (fun j s hj ⟨h1, h2⟩ => ?_) (fun s ⟨h1, h2⟩ => ?_) _ ⟨rfl, by omega⟩
 ·subst h1
  have hin := passes_in (n := j) hi (rulesA_in (l := l) (q := q) (skip := skip))
  simp only [f56_0]
  rw [roundImp V hin, bS]
  have hle := pass_le (L := rulesA l q skip) (X := passes (rulesA l q skip) j vars.contains)
  by_cases c : (nfl (pass (rulesA l q skip) (passes (rulesA l q skip) j vars.contains))).length ≤ (nfl (passes (rulesA l q skip) j vars.contains)).length
  ·have e := nfl_len_lt hle c (pass_in hin rulesA_in)
   rw [← e, if_pos rfl]
   exact ⟨_, rfl, by rw [passes_stop rulesA_mono e.symm]; rfl⟩
  ·rw [if_neg (by omega)]
   exact ⟨_, rfl, rfl, by omega⟩
 ·have := nfl_len (X := passes (rulesA l q skip) 5 vars.contains)
  rw [← h1] at this
  omega
end
end Go.Proofs.YtcllfkplpdppiaaH
namespace Go.Proofs.YtcllfkplpdppiaaH
open Go
section
variable {l : List Relation} {q : Query}
def plus (l : List Relation) (q : Query) (k : Nat) : Int → Bool := closX l q (k : Int) (setOf q (kvars l (atomAt q k)))
theorem plus_in {k : Nat} : In4 (plus l q k) := closX_in setOf_in
def outer (l : List Relation) (q : Query) (k i : Nat) : Int → Bool := fun v => (avars (atomAt q i).Terms).contains v && !plus l q k v
theorem outer_in {k i : Nat} : In4 (outer l q k i) := fun v hv => by
 unfold outer at hv; simp only [Bool.and_eq_true] at hv
 exact avars_in v hv.1
def ruleS (l : List Relation) (q : Query) (k i : Nat) : Rule := ⟨fun X => decide (i = k) || (avars (atomAt q i).Terms).any X, outer l q k i⟩
def rulesS (l : List Relation) (q : Query) (k : Nat) : List Rule := (List.range q.Atoms.length).map (ruleS l q k)
def ruleI (l : List Relation) (q : Query) (k i : Nat) : Rule := ⟨fun X => (nfl (outer l q k i)).any X, outer l q k i⟩
def rulesI (l : List Relation) (q : Query) (k : Nat) : List Rule := (List.range q.Atoms.length).map (ruleI l q k)
theorem rulesS_len {k : Nat} : (rulesS l q k).length = q.Atoms.length := by simp [rulesS]
theorem rulesI_len {k : Nat} : (rulesI l q k).length = q.Atoms.length := by simp [rulesI]
theorem rulesS_get {k i : Nat} (h : i < (rulesS l q k).length) : (rulesS l q k)[i] = ruleS l q k i := by simp [rulesS]
theorem rulesI_get {k i : Nat} (h : i < (rulesI l q k).length) : (rulesI l q k)[i] = ruleI l q k i := by simp [rulesI]
theorem any_le {t : List Int} {X Y : Int → Bool} (h : Le4 X Y) (ha : t.any X = true) : t.any Y = true := by
 obtain ⟨v, hv, hx⟩ := List.any_eq_true.1 ha
 exact List.any_eq_true.2 ⟨v, hv, h v hx⟩
theorem rulesS_mono {k : Nat} : ∀ r ∈ rulesS l q k, r.mono := by
 intro r hr
 obtain ⟨i, _, rfl⟩ := List.mem_map.1 hr
 intro X Y h hc
 simp only [ruleS, Bool.or_eq_true] at hc ⊢
 exact hc.imp id (any_le h)
theorem rulesI_mono {k : Nat} : ∀ r ∈ rulesI l q k, r.mono := by
 intro r hr
 obtain ⟨i, _, rfl⟩ := List.mem_map.1 hr
 intro X Y h hc
 exact any_le h hc
theorem rulesS_in {k : Nat} : ∀ r ∈ rulesS l q k, In4 r.a := by
 intro r hr
 obtain ⟨i, _, rfl⟩ := List.mem_map.1 hr
 exact outer_in
theorem rulesI_in {k : Nat} : ∀ r ∈ rulesI l q k, In4 r.a := by
 intro r hr
 obtain ⟨i, _, rfl⟩ := List.mem_map.1 hr
 exact outer_in
def none4 : Int → Bool := fun _ => false
theorem none4_in : In4 none4 := fun v hv => by cases hv
def reach (l : List Relation) (q : Query) (k : Nat) : Int → Bool := cl (rulesS l q k) none4
theorem reach_in {k : Nat} : In4 (reach l q k) := passes_in none4_in rulesS_in
theorem cl_clo {L : List Rule} (hm : ∀ r ∈ L, r.mono) {X : Int → Bool} : Clo L (cl L X) := passes_clo hm (Nat.le_refl _)
theorem reach_imp {k : Nat} (hk : k < q.Atoms.length) : cl (rulesI l q k) (outer l q k k) = reach l q k := by
 have hno : Le4 (cl (rulesI l q k) (outer l q k k)) (fun v => !plus l q k v) := passes_least rulesI_mono (fun r hr hc v hv => by
  obtain ⟨i, _, rfl⟩ := List.mem_map.1 hr
  simp only [ruleI, outer, Bool.and_eq_true] at hv
  exact hv.2) (fun v hv => by
  simp only [outer, Bool.and_eq_true] at hv; exact hv.2)
 refine cl_uniq rulesS_mono ?_ (fun v hv => by cases hv) (fun Z hz _ => ?_)
 ·intro r hr hc
  obtain ⟨i, hi, rfl⟩ := List.mem_map.1 hr
  simp only [ruleS, Bool.or_eq_true, decide_eq_true_eq] at hc
  rcases hc with rfl | hc
  ·exact passes_le
  ·refine cl_clo (L := rulesI l q k) rulesI_mono (X := outer l q k k) (ruleI l q k i) (List.mem_map.2 ⟨i, hi, rfl⟩) ?_
   obtain ⟨v, hv, hx⟩ := List.any_eq_true.1 hc
   have h1 := hno v hx
   have hv' : (avars (atomAt q i).Terms).contains v = true := by rw [List.contains_iff_mem]; exact hv
   refine List.any_eq_true.2 ⟨v, nfl_mem.2 ⟨?_, avars_in v hv'⟩, hx⟩
   unfold outer; rw [hv']; exact h1
 ·refine passes_least rulesI_mono (fun r hr hc => ?_) ?_
  ·obtain ⟨i, hi, rfl⟩ := List.mem_map.1 hr
   refine hz (ruleS l q k i) (List.mem_map.2 ⟨i, hi, rfl⟩) ?_
   simp only [ruleS, Bool.or_eq_true]
   obtain ⟨v, hv, hx⟩ := List.any_eq_true.1 hc
   have hv := (nfl_mem.1 hv).1
   unfold outer at hv; simp only [Bool.and_eq_true] at hv
   exact .inr (List.any_eq_true.2 ⟨v, by simpa using hv.1, hx⟩)
  ·exact hz (ruleS l q k k) (List.mem_map.2 ⟨k, List.mem_range.2 hk, rfl⟩) (by simp [ruleS])
theorem fireS {k i : Nat} {Y : Int → Bool} : fire Y (ruleS l q k i) = if (decide (i = k) || (avars (atomAt q i).Terms).any Y) = true then cupX Y (outer l q k i) else Y := rfl
theorem fireI {k i : Nat} {Y : Int → Bool} : fire Y (ruleI l q k i) = if (nfl (outer l q k i)).any Y = true then cupX Y (outer l q k i) else Y := rfl
theorem keyClos {k : Nat} (V : VQy l q) (hv : vQuery l q = true) (hk : k < q.Atoms.length) : f12 l q (k : Int) = some (nfl (plus l q k)) := by
 unfold f12
 have n3 := V.n3
 have hb : btw (k : Int) 0 (w64 ((q.Atoms.length : Int) - 1)) = true := by rw [w64_of (by omega)]; unfold btw; simp; omega
 rw [specQ V.big V.fits, hv, bS, if_neg (by simp), specIn, hb]
 simp only [bS, not_true_eq_false, decide_false, Bool.false_eq_true, if_false]
 have hs := V.terms _ (List.getElem_mem hk)
 have k4 := kvars_len (l := l) (a := q.Atoms[k])
 rw [ix_nat hk, bS, specKV V.big (by omega), bS, closSpec V hv (by omega)]
 unfold plus; rw [atom_get hk]; rfl
theorem attRound {k : Nat} {X : Int → Bool} (V : VQy l q) (hk : k < q.Atoms.length) (hX : In4 X) : iter (f15_1 q (k : Int) (nfl (plus l q k))) (nfl X, 0) = some (nfl (pass (rulesS l q k) X)) := by
 have := iter_steps (f := f15_1 q (k : Int) (nfl (plus l q k))) (fun i => (nfl (pass ((rulesS l q k).take i) X), (i : Int))) q.Atoms.length (nfl (pass (rulesS l q k) X)) (fun i hi => by
  have hl := rulesS_len (l := l) (q := q) (k := k)
  have n3 := V.n3
  rw [pass_take (by omega), rulesS_get]
  have hin : In4 (pass ((rulesS l q k).take i) X) := pass_in hX fun r hr => rulesS_in r (List.mem_of_mem_take hr)
  generalize pass ((rulesS l q k).take i) X = Y at hin
  have hs := V.terms _ (List.getElem_mem hi)
  have a4 := avars_len (t := q.Atoms[i].Terms)
  have y4 := nfl_len (X := Y)
  have p4 := nfl_len (X := plus l q k)
  simp only [f15_1]
  rw [if_pos (by omega), ix_nat hi, w64_succ (by omega), bS, specVars (by omega), bS]
  rw [fireS]
  unfold outer
  rw [atom_get hi]
  generalize hA : avars q.Atoms[i].Terms = A at a4
  have inA : In4 A.contains := by rw [← hA]; exact avars_in
  rw [iter_foldl A (fun b v => b || Y v) id (fun j hj b => by
   simp only [f15_2]
   rw [if_pos (by omega), ix_nat hj, w64_succ (by omega), bS, hasI (by omega), nfl_has hin]
   cases b <;> simp) (fun b => by
   simp only [f15_2]
   rw [if_neg (by omega)]; rfl), foldl_any, bS]
  dsimp only [id]
  have ek : decide (((i : Nat) : Int) = (k : Int)) = decide (i = k) := decide_eq_decide.2 ⟨fun h => by omega, fun h => by omega⟩
  rw [ek]
  cases hc : (decide (i = k) || A.any Y)
  ·have : iter (f15_3 (nfl (plus l q k)) A false) (nfl Y, 0) = some (nfl Y) := iter_steps (fun _ => (nfl Y, 0)) 0 _ (fun i hi => by omega) (by
    simp only [f15_3]
    by_cases c : (0 : Int) < A.length
    ·rw [if_pos c]; rfl
    ·rw [if_neg c]; rfl)
   rw [this]; simp
  ·have := iter_steps (f := f15_3 (nfl (plus l q k)) A true) (fun j => (nfl (fun v => Y v || ((A.take j).contains v && !plus l q k v)), (j : Int))) A.length (nfl (cupX Y fun v => A.contains v && !plus l q k v)) (fun j hj => by
    have z4 := nfl_len (X := fun v => Y v || ((A.take j).contains v && !plus l q k v))
    have zin : In4 (fun v => Y v || ((A.take j).contains v && !plus l q k v)) := fun v hv => by
     simp only [Bool.or_eq_true, Bool.and_eq_true] at hv
     rcases hv with hv | hv
     ·exact hin v hv
     ·exact inA v (by rw [List.contains_iff_mem] at hv ⊢; exact List.mem_of_mem_take hv.1)
    simp only [f15_3]
    rw [if_pos (by omega), bS, if_pos rfl, ix_nat hj, bS, hasI (by omega), nfl_has plus_in, bS, w64_succ (by omega)]
    cases hp : plus l q k A[j]
    ·simp only [Bool.false_eq_true, not_false_eq_true, if_true]
     rw [bothS (by omega) (by simp), nfl_has zin]
     simp only [bS]
     congr 3
     refine nfl_congr fun v _ => ?_
     unfold cupX
     rw [has_succ hj]
     by_cases e : v = A[j]
     ·subst e; simp [hp]
     ·simp [e]
    ·simp only [not_true_eq_false, if_false, bS]
     congr 3
     refine nfl_congr fun v _ => ?_
     rw [has_succ hj]
     by_cases e : v = A[j]
     ·subst e; simp [hp]
     ·simp [e]) (by
    simp only [f15_3]
    rw [if_neg (by omega), List.take_of_length_le (Nat.le_refl _)]; rfl)
   have e0 : nfl (fun v => Y v || ((A.take 0).contains v && !plus l q k v)) = nfl Y := nfl_congr fun v _ => by simp
   simp only [e0, Int.natCast_zero, Int.ofNat_zero] at this
   rw [this]; simp) (by
  simp only [f15_1]
  rw [if_neg (by omega), List.take_of_length_le (by rw [rulesS_len]; omega)])
 simp only [List.take_zero, pass, List.foldl_nil, Int.natCast_zero, Int.ofNat_zero] at this
 exact this
theorem attSpec {k : Nat} (V : VQy l q) (hv : vQuery l q = true) (hk : k < q.Atoms.length) : f15 l q (k : Int) = some (nfl (reach l q k)) := by
 unfold f15
 have n3 := V.n3
 have hb : btw (k : Int) 0 (w64 ((q.Atoms.length : Int) - 1)) = true := by rw [w64_of (by omega)]; unfold btw; simp; omega
 rw [specQ V.big V.fits, hv, bS, if_neg (by simp), specIn, hb]
 simp only [bS, not_true_eq_false, decide_false, Bool.false_eq_true, if_false]
 rw [keyClos V hv hk, bS]
 have := iter_steps (f := f15_0 q (k : Int) (nfl (plus l q k))) (fun i => (nfl (passes (rulesS l q k) i none4), (i : Int))) (q.Atoms.length + 1) (nfl (reach l q k)) (fun i hi => by
  simp only [f15_0]
  rw [if_pos (by omega), attRound V hk (passes_in none4_in rulesS_in), bS, w64_succ (by omega)]; rfl) (by
  simp only [f15_0]
  rw [if_neg (by omega), passes_cl rulesS_mono (by rw [rulesS_len]; omega)]; rfl)
 simp only [passes, Int.natCast_zero, Int.ofNat_zero] at this
 have e0 : nfl none4 = [] := nfl_nil
 rw [e0] at this
 rw [this]; rfl
theorem withoutI {a b : List Int} (ha : a.length ≤ 1048576) (hb : Big b.length) : f52 a b = some (a.filter fun v => !b.contains v) := by
 unfold f52
 rw [iter_flat a (fun v => if (!b.contains v) = true then [v] else []) id (fun i hi => by
  have el : ((a.take i).flatMap fun v => if (!b.contains v) = true then [v] else []).length ≤ i := by
   have := take_flat_le (l := a) (i := i) (g := fun v => if (!b.contains v) = true then [v] else []) (m := 1) (fun a => by split <;> simp)
   omega
  generalize ((a.take i).flatMap fun v => if (!b.contains v) = true then [v] else []) = out at el ⊢
  simp only [f52_0]
  rw [if_pos (by omega), ix_nat hi, bS, containsI hb, bS, w64_succ (by omega)]
  cases b.contains a[i]
  ·simp only [Bool.false_eq_true, not_false_eq_true, if_true, Bool.not_false]
   rw [app_fits (by simp; omega)]; rfl
  ·simp) (by
  simp only [f52_0]
  rw [if_neg (by omega)]; rfl)]
 rw [bS]
 congr 1
 dsimp only [id]
 clear ha
 induction a with
 | nil => rfl
 | cons x a ih =>
  rw [List.flatMap_cons, ih, List.filter_cons]
  split <;> simp
theorem nfl_filter {X : Int → Bool} {p : Int → Bool} : (nfl X).filter p = nfl (fun v => X v && p v) := by
 refine up_ext (nfl_up.filter _) nfl_up fun y => ?_
 rw [List.mem_filter, nfl_mem, nfl_mem, Bool.and_eq_true]
 exact ⟨fun h => ⟨⟨h.1.1, h.2⟩, h.1.2⟩, fun h => ⟨⟨h.1.1, h.2⟩, h.1.2⟩⟩
theorem filter_lt {a : List Int} {p : Int → Bool} : decide (((a.filter fun v => !p v).length : Int) < a.length) = a.any p := by
 rw [Bool.eq_iff_iff, decide_eq_true_eq]
 rw [show (((a.filter fun v => !p v).length : Int) < a.length) ↔ (a.filter fun v => !p v).length < a.length by omega]
 rw [List.length_filter_lt_length_iff_exists, List.any_eq_true]
 constructor
 ·rintro ⟨v, h1, h2⟩; exact ⟨v, h1, by simpa using h2⟩
 ·rintro ⟨v, h1, h2⟩; exact ⟨v, h1, by simpa using h2⟩
theorem outer_nfl {k i : Nat} : (avars (atomAt q i).Terms).filter (fun v => !plus l q k v) = nfl (outer l q k i) := by
 rw [avars_nfl, nfl_filter]
 refine nfl_congr fun v hv => ?_
 unfold outer
 congr 1
 rw [Bool.eq_iff_iff, List.contains_iff_mem, List.contains_iff_mem, avars_nfl, nfl_mem, List.contains_iff_mem]
 exact ⟨fun h => ⟨h, hv⟩, fun h => h.1⟩
theorem attRoundI {k : Nat} {X : Int → Bool} (V : VQy l q) (hX : In4 X) : iter (f35_1 q.Atoms (nfl (plus l q k))) (nfl X, 0) = some (nfl (pass (rulesI l q k) X)) := by
 have := iter_steps (f := f35_1 q.Atoms (nfl (plus l q k))) (fun i => (nfl (pass ((rulesI l q k).take i) X), (i : Int))) q.Atoms.length (nfl (pass (rulesI l q k) X)) (fun i hi => by
  have hl := rulesI_len (l := l) (q := q) (k := k)
  have n3 := V.n3
  rw [pass_take (by omega), rulesI_get]
  have hin : In4 (pass ((rulesI l q k).take i) X) := pass_in hX fun r hr => rulesI_in r (List.mem_of_mem_take hr)
  generalize pass ((rulesI l q k).take i) X = Y at hin
  have hs := V.terms _ (List.getElem_mem hi)
  have a4 := avars_len (t := q.Atoms[i].Terms)
  have y4 := nfl_len (X := Y)
  have p4 := nfl_len (X := plus l q k)
  have o4 := nfl_len (X := outer l q k i)
  simp only [f35_1]
  have eo := outer_nfl (l := l) (q := q) (k := k) (i := i)
  rw [atom_get hi] at eo
  rw [if_pos (by omega), ix_nat hi, w64_succ (by omega), bS, impVars (by omega), bS, withoutI (by omega) (by omega), nfl_has plus_in, eo, bS, withoutI (by omega) (by omega), nfl_has hin, bS]
  have hlt := filter_lt (a := nfl (outer l q k i)) (p := Y)
  rw [fireI]
  cases hc : (nfl (outer l q k i)).any Y
  ·rw [hc] at hlt
   rw [if_neg (by simpa using hlt)]; rfl
  ·rw [hc] at hlt
   rw [if_pos (by simpa using hlt), unionI (by omega) nfl_in nfl_in, nfl_has hin, nfl_has outer_in]; rfl) (by
  simp only [f35_1]
  rw [if_neg (by omega), List.take_of_length_le (by rw [rulesI_len]; omega)])
 simp only [List.take_zero, pass, List.foldl_nil, Int.natCast_zero, Int.ofNat_zero] at this
 exact this
theorem attImp {k : Nat} (V : VQy l q) (hk : k < q.Atoms.length) : f35 l q.Atoms q.Free (k : Int) = some (nfl (reach l q k)) := by
 unfold f35
 have n3 := V.n3
 have f4 := V.free4
 have hs := V.terms _ (List.getElem_mem hk)
 have k4 := kvars_len (l := l) (a := q.Atoms[k])
 have a4 := avars_len (t := q.Atoms[k].Terms)
 have p4 := nfl_len (X := plus l q k)
 have ef : [q.Free, kvars l q.Atoms[k]].flatten = q.Free ++ kvars l q.Atoms[k] := by simp
 rw [ix_nat hk, bS, impKV V.big (by omega), bS, concatN (by simp) (by rw [ef, List.length_append]; omega), ef, bS]
 rw [closImp V (by rw [List.length_append]; omega) (fun v hv => by
  rw [List.contains_iff_mem, List.mem_append] at hv
  rcases hv with hv | hv
  ·exact V.free v (by rw [List.contains_iff_mem]; exact hv)
  ·exact kvars_in v (by rw [List.contains_iff_mem]; exact hv))]
 have e : (q.Free ++ kvars l q.Atoms[k]).contains = setOf q (kvars l (atomAt q k)) := by
  funext v
  unfold setOf
  rw [atom_get hk, Bool.eq_iff_iff, List.contains_iff_mem, List.mem_append, List.contains_iff_mem, nfl_mem]
  unfold cupX
  simp only [Bool.or_eq_true, List.contains_iff_mem]
  constructor
  ·rintro (h | h)
   ·exact ⟨.inr h, V.free v (by rw [List.contains_iff_mem]; exact h)⟩
   ·exact ⟨.inl h, kvars_in v (by rw [List.contains_iff_mem]; exact h)⟩
  ·rintro ⟨h | h, _⟩
   ·exact .inr h
   ·exact .inl h
 rw [e]
 change ((some (nfl (plus l q k))).bind _) = _
 have eo := outer_nfl (l := l) (q := q) (k := k) (i := k)
 rw [atom_get hk] at eo
 rw [bS, impVars (by omega), bS, withoutI (by omega) (by omega), nfl_has plus_in, eo, bS, ← reach_imp hk]
 refine Ens.eq (Q := fun r => r = nfl (cl (rulesI l q k) (outer l q k k))) (Ens.bind (Q := fun r => r = nfl (cl (rulesI l q k) (outer l q k k))) ?_ fun a h => Ens.of h) _ fun _ h => h
 refine iter_up (f := f35_0 q.Atoms (nfl (plus l q k))) 5 (fun j s => s = nfl (passes (rulesI l q k) j (outer l q k k)) ∧ j ≤ s.length) _ (fun j s hj ⟨h1, h2⟩ => ?_) (fun s ⟨h1, h2⟩ => ?_) _ ⟨rfl, by omega⟩
 ·subst h1
  have hin := passes_in (n := j) (outer_in (l := l) (q := q) (k := k) (i := k)) (rulesI_in (l := l) (q := q) (k := k))
  simp only [f35_0]
  rw [attRoundI V hin, bS]
  have hle := pass_le (L := rulesI l q k) (X := passes (rulesI l q k) j (outer l q k k))
  by_cases c : (nfl (pass (rulesI l q k) (passes (rulesI l q k) j (outer l q k k)))).length ≤ (nfl (passes (rulesI l q k) j (outer l q k k))).length
  ·have e := nfl_len_lt hle c (pass_in hin rulesI_in)
   rw [← e, if_pos rfl]
   exact ⟨_, rfl, by rw [passes_stop rulesI_mono e.symm]⟩
  ·rw [if_neg (by omega)]
   exact ⟨_, rfl, rfl, by omega⟩
 ·have := nfl_len (X := passes (rulesI l q k) 5 (outer l q k k))
  rw [← h1] at this
  omega
def att (l : List Relation) (q : Query) (i k : Nat) : Bool := decide (i ≠ k) && (avars (atomAt q k).Terms).any (reach l q i)
def hAtt (l : List Relation) (q : Query) (i k : Int) : Bool := vQuery l q && (btw i 0 (q.Atoms.length - 1) && (btw k 0 (q.Atoms.length - 1) && att l q i.toNat k.toNat))
theorem btw_nat {i : Int} {n : Nat} (h : btw i 0 ((n : Int) - 1) = true) : ∃ k : Nat, i = k ∧ k < n := by
 unfold btw at h; simp only [Bool.and_eq_true, decide_eq_true_eq] at h
 exact ⟨i.toNat, by omega, by omega⟩
theorem hasSpec {i k : Int} (hl : Big l.length) (hq : FitsQ q) : f9 l q i k = some (hAtt l q i k) := by
 unfold f9 hAtt
 rw [specQ hl hq, bS]
 have hn := hq.1
 cases hv : vQuery l q
 ·simp
 have V := vq_of hl hq hv
 rw [w64_of (by omega)]
 simp only [specIn, not_true_eq_false, if_false, bS, Bool.true_and]
 cases hi : btw i 0 ((q.Atoms.length : Int) - 1)
 ·simp
 cases hk : btw k 0 ((q.Atoms.length : Int) - 1)
 ·simp
 obtain ⟨i, rfl, hi'⟩ := btw_nat hi
 obtain ⟨k, rfl, hk'⟩ := btw_nat hk
 simp only [not_true_eq_false, if_false, bS, Int.toNat_natCast, Bool.true_and]
 unfold att
 have ek : decide (((i : Nat) : Int) = (k : Int)) = decide (i = k) := decide_eq_decide.2 ⟨fun h => by omega, fun h => by omega⟩
 rw [ek]
 by_cases c : i = k
 ·simp [c]
 have hs := V.terms _ (List.getElem_mem hk')
 have a4 := avars_len (t := q.Atoms[k].Terms)
 have r4 := nfl_len (X := reach l q i)
 simp only [c, decide_false, Bool.false_eq_true, if_false]
 rw [attSpec V hv hi', bS, ix_nat hk', bS, specVars (by omega), bS, atom_get hk']
 rw [iter_ex (avars q.Atoms[k].Terms) (reach l q i) true (fun j hj => by
  simp only [f9_0]
  rw [if_pos (by omega), ix_nat hj, bS, hasI (by omega), nfl_has reach_in, w64_succ (by omega)]
  cases reach l q i (avars q.Atoms[k].Terms)[j] <;> simp) (by
  simp only [f9_0]
  rw [if_neg (by omega)])]
 cases (avars q.Atoms[k].Terms).any (reach l q i) <;> simp [c]
theorem hasImp {i k : Int} (hl : Big l.length) (hq : FitsQ q) : f7 l q i k = some (hAtt l q i k) := by
 unfold f7 hAtt
 rw [impQ hl hq, bS]
 have hn := hq.1
 cases hv : vQuery l q
 ·simp
 have V := vq_of hl hq hv
 rw [w64_of (by omega)]
 simp only [impIn, if_true, bS, Bool.true_and]
 cases hi : btw i 0 ((q.Atoms.length : Int) - 1)
 ·simp
 cases hk : btw k 0 ((q.Atoms.length : Int) - 1)
 ·simp
 obtain ⟨i, rfl, hi'⟩ := btw_nat hi
 obtain ⟨k, rfl, hk'⟩ := btw_nat hk
 simp only [if_true, bS, Int.toNat_natCast, Bool.true_and]
 unfold f27 att
 have hs := V.terms _ (List.getElem_mem hk')
 have a4 := avars_len (t := q.Atoms[k].Terms)
 have r4 := nfl_len (X := reach l q i)
 rw [ix_nat hk', bS, impVars (by omega), bS, atom_get hk']
 by_cases c : i = k
 ·simp [c]
 rw [if_pos (by omega), attImp V hi', bS, withoutI (by omega) (by omega), nfl_has reach_in, bS, filter_lt]
 simp [c]
end
end Go.Proofs.YtcllfkplpdppiaaH
namespace Go.Proofs.YtcllfkplpdppiaaH
open Go
def bl (n : Nat) (X : Int → Bool) : List Bool := (List.range n).map fun v => X ((v : Nat) : Int)
theorem bl_len {n : Nat} {X : Int → Bool} : (bl n X).length = n := by simp [bl]
theorem bl_get {n : Nat} {X : Int → Bool} {v : Nat} (h : v < n) : ix (bl n X) ((v : Nat) : Int) = some (X ((v : Nat) : Int)) := by
 rw [ix_nat (by rw [bl_len]; exact h)]; simp [bl]
theorem bl_congr {n : Nat} {X Y : Int → Bool} (h : ∀ v : Nat, v < n → X ((v : Nat) : Int) = Y ((v : Nat) : Int)) : bl n X = bl n Y := by
 unfold bl
 refine List.map_congr_left fun v hv => h v (List.mem_range.1 hv)
theorem bl_set {n : Nat} {X : Int → Bool} {b : Nat} : (bl n X).set b true = bl n (fun v => X v || decide (v = ((b : Nat) : Int))) := by
 apply List.ext_getElem
 ·simp [bl]
 ·intro i h1 h2
  rw [List.getElem_set]
  simp only [bl, List.getElem_map, List.getElem_range]
  by_cases e : b = i
  ·subst e; simp
  ·rw [if_neg e]
   have : ¬ ((i : Nat) : Int) = ((b : Nat) : Int) := by omega
   simp [this]
theorem bl_none {n : Nat} : List.replicate n false = bl n none4 := by
 unfold bl none4
 apply List.ext_getElem
 ·simp
 ·intro i h1 h2; simp
section
variable {l : List Relation} {q : Query}
def ruleP (l : List Relation) (q : Query) (i a : Nat) : Rule := ⟨fun X => decide (a = i) || X ((a : Nat) : Int), fun b => hAtt l q ((a : Nat) : Int) b⟩
def rulesP (l : List Relation) (q : Query) (i : Nat) : List Rule := (List.range q.Atoms.length).map (ruleP l q i)
theorem rulesP_mono {i : Nat} : ∀ r ∈ rulesP l q i, r.mono := by
 intro r hr
 obtain ⟨a, _, rfl⟩ := List.mem_map.1 hr
 intro X Y h hc
 simp only [ruleP, Bool.or_eq_true] at hc ⊢
 exact hc.imp id (h _)
def pathTo (l : List Relation) (q : Query) (i : Nat) : Int → Bool := cl (rulesP l q i) none4
def hPath (l : List Relation) (q : Query) (i k : Int) : Bool := vQuery l q && (btw i 0 (q.Atoms.length - 1) && (btw k 0 (q.Atoms.length - 1) && pathTo l q i.toNat k))
theorem hAtt_self {a : Int} : hAtt l q a a = false := by unfold hAtt att; simp
theorem hAtt_rng {a b : Int} (h : hAtt l q a b = true) : ∃ k : Nat, b = k ∧ k < q.Atoms.length := by
 unfold hAtt at h; simp only [Bool.and_eq_true] at h
 exact btw_nat h.2.2.1
theorem bfsRound {i j : Nat} {H : List Int} {v : Int} (V : VQy l q) (hj : j < (((i : Nat) : Int) :: H).length) (hv : v = ((i : Nat) : Int) ∨ pathTo l q i v = true)
  (hvr : ∃ a : Nat, v = a ∧ a < q.Atoms.length) (hd : H.Nodup) (hr : ∀ x ∈ H, 0 ≤ x ∧ x < q.Atoms.length) (hs : ∀ x ∈ H, pathTo l q i x = true) :
  Ens (iter (f16_1 l q v) (bl q.Atoms.length H.contains, (((i : Nat) : Int) :: H).drop (j + 1), 0)) fun o => ∃ t, o = (bl q.Atoms.length (H ++ t).contains, (((i : Nat) : Int) :: (H ++ t)).drop (j + 1)) ∧ (H ++ t).Nodup ∧ (∀ x ∈ H ++ t, 0 ≤ x ∧ x < q.Atoms.length) ∧ (∀ x ∈ H ++ t, pathTo l q i x = true) ∧ ∀ b : Nat, b < q.Atoms.length → hAtt l q v ((b : Nat) : Int) = true → ((b : Nat) : Int) ∈ H ++ t := by
 have n3 := V.n3
 refine iter_up (f := f16_1 l q v) q.Atoms.length (fun x s => s.2.2 = (x : Int) ∧ ∃ t, s.1 = bl q.Atoms.length (H ++ t).contains ∧ s.2.1 = (((i : Nat) : Int) :: (H ++ t)).drop (j + 1) ∧ (H ++ t).Nodup ∧ (∀ x ∈ H ++ t, 0 ≤ x ∧ x < q.Atoms.length) ∧ (∀ x ∈ H ++ t, pathTo l q i x = true) ∧ ∀ b : Nat, b < x → hAtt l q v ((b : Nat) : Int) = true → ((b : Nat) : Int) ∈ H ++ t) _ (fun x s hx hI => ?_) (fun s hI => ?_) _ ⟨rfl, [], by simp, by simp, by simpa using hd, by simpa using hr, by simpa using hs, fun b hb => by omega⟩
 ·obtain ⟨r, td, y⟩ := s
  obtain ⟨e1, t, e2, e3, d1, d2, d3, d4⟩ := hI
  dsimp only at e1 e2 e3
  subst e1; subst e2; subst e3
  simp only [f16_1]
  rw [if_pos (by omega), bl_get hx, bS, w64_succ (by omega)]
  simp only [hasImp V.big V.fits, bS]
  have hlen := nodup_le d1 d2
  cases hc : (H ++ t).contains ((x : Nat) : Int)
  ·have hnm : ¬ ((x : Nat) : Int) ∈ H ++ t := fun h => by rw [← List.contains_iff_mem, hc] at h; cases h
   simp only [Bool.false_eq_true, not_false_eq_true, if_true, bS]
   cases ht : hAtt l q v ((x : Nat) : Int)
   ·simp only [Bool.false_eq_true, if_false, bS]
    refine ⟨_, rfl, rfl, t, rfl, rfl, d1, d2, d3, fun b hb hh => ?_⟩
    by_cases e : b = x
    ·subst e; rw [ht] at hh; cases hh
    ·exact d4 b (by omega) hh
   ·simp only [if_true]
    rw [app_fits (by simp only [List.length_drop, List.length_cons, List.length_nil]; omega)]
    simp only [bS, Int.toNat_natCast]
    refine ⟨_, rfl, rfl, t ++ [((x : Nat) : Int)], ?_, ?_, ?_, ?_, ?_, ?_⟩
    ·dsimp only
     rw [bl_set]
     refine bl_congr fun u hu => ?_
     rw [← List.append_assoc, Bool.eq_iff_iff]
     simp only [Bool.or_eq_true, List.contains_iff_mem, decide_eq_true_eq, List.mem_append, List.mem_singleton]
    ·dsimp only
     have e : ((i : Nat) : Int) :: (H ++ (t ++ [((x : Nat) : Int)])) = (((i : Nat) : Int) :: (H ++ t)) ++ [((x : Nat) : Int)] := by simp
     rw [e, List.drop_append_of_le_length]
     simp only [List.length_cons, List.length_append] at hj ⊢; omega
    ·rw [← List.append_assoc]
     refine List.nodup_append.2 ⟨d1, by simp, fun a ha b hb e => ?_⟩
     rw [List.mem_singleton] at hb
     subst e; subst hb; exact hnm ha
    ·intro u hu
     rw [← List.append_assoc] at hu
     rcases List.mem_append.1 hu with hu | hu
     ·exact d2 u hu
     ·rw [List.mem_singleton] at hu; subst hu; omega
    ·intro u hu
     rw [← List.append_assoc] at hu
     rcases List.mem_append.1 hu with hu | hu
     ·exact d3 u hu
     ·rw [List.mem_singleton] at hu; subst hu
      obtain ⟨a, rfl, ha⟩ := hvr
      refine cl_clo (L := rulesP l q i) rulesP_mono (X := none4) (ruleP l q i a) (List.mem_map.2 ⟨a, List.mem_range.2 ha, rfl⟩) ?_ _ ht
      simp only [ruleP, Bool.or_eq_true, decide_eq_true_eq]
      exact hv.imp (fun h => by omega) id
    ·intro b hb hh
     rw [← List.append_assoc]
     by_cases e : b = x
     ·subst e; simp
     ·exact List.mem_append_left _ (d4 b (by omega) hh)
  ·simp only [not_true_eq_false, if_false, bS, Bool.false_eq_true]
   refine ⟨_, rfl, rfl, t, rfl, rfl, d1, d2, d3, fun b hb hh => ?_⟩
   by_cases e : b = x
   ·subst e; rwa [List.contains_iff_mem] at hc
   ·exact d4 b (by omega) hh
 ·obtain ⟨r, td, y⟩ := s
  obtain ⟨e1, t, e2, e3, d1, d2, d3, d4⟩ := hI
  dsimp only at e1 e2 e3
  subst e1; subst e2; subst e3
  simp only [f16_1]
  rw [if_neg (by omega)]
  exact ⟨_, rfl, t, rfl, d1, d2, d3, d4⟩
theorem pathImp {i k : Int} (hl : Big l.length) (hq : FitsQ q) : f16 l q i k = some (hPath l q i k) := by
 unfold f16 hPath
 rw [impQ hl hq, bS]
 have hn := hq.1
 cases hv : vQuery l q
 ·simp
 have V := vq_of hl hq hv
 have n1 := V.n1
 have n3 := V.n3
 rw [w64_of (n := (q.Atoms.length : Int) - 1) (by omega)]
 simp only [impIn, not_true_eq_false, if_false, bS, Bool.true_and]
 cases hi : btw i 0 ((q.Atoms.length : Int) - 1)
 ·simp
 cases hk : btw k 0 ((q.Atoms.length : Int) - 1)
 ·simp
 obtain ⟨i, rfl, hi'⟩ := btw_nat hi
 obtain ⟨k, rfl, hk'⟩ := btw_nat hk
 simp only [not_true_eq_false, if_false, bS, Int.toNat_natCast, Bool.true_and, decide_false, Bool.false_eq_true]
 rw [w64_of (by omega), show (q.Atoms.length : Int) - 1 + 1 = (q.Atoms.length : Int) by omega, mkl_ok (by omega) (by omega) (by omega), bS, Int.toNat_natCast, bl_none]
 refine Ens.eq (Q := fun r => r = pathTo l q i ((k : Nat) : Int)) (Ens.bind (Q := fun r => r = bl q.Atoms.length (pathTo l q i)) ?_ fun a h => ?_) _ fun _ h => h
 ·have e0 : bl q.Atoms.length none4 = bl q.Atoms.length ([] : List Int).contains := bl_congr fun v _ => by simp [none4]
  rw [e0]
  refine iter_up (f := f16_0 l q) (q.Atoms.length + 1) (fun j s => ∃ H : List Int, s = (bl q.Atoms.length H.contains, (((i : Nat) : Int) :: H).drop j) ∧ H.Nodup ∧ (∀ x ∈ H, 0 ≤ x ∧ x < q.Atoms.length) ∧ (∀ x ∈ H, pathTo l q i x = true) ∧ ∀ p (hp : p < (((i : Nat) : Int) :: H).length), p < j → ∀ b : Nat, b < q.Atoms.length → hAtt l q ((((i : Nat) : Int) :: H)[p]) ((b : Nat) : Int) = true → ((b : Nat) : Int) ∈ H) (fun r => r = bl q.Atoms.length (pathTo l q i)) (fun j s hj hI => ?_) (fun s hI => ?_) _ ⟨[], by simp, by simp, by simp, by simp, fun p _ hp => by omega⟩
  ·obtain ⟨H, rfl, d1, d2, d3, d4⟩ := hI
   have hlen := nodup_le d1 d2
   simp only [f16_0]
   by_cases c : j < (((i : Nat) : Int) :: H).length
   ·have hdl : ((((i : Nat) : Int) :: H).drop j).length = (((i : Nat) : Int) :: H).length - j := List.length_drop
    have hcut : cutL ((((i : Nat) : Int) :: H).drop j) 1 (((((i : Nat) : Int) :: H).drop j).length : Int) = some ((((i : Nat) : Int) :: H).drop (j + 1)) := by
     rw [cutL_ok (by omega) (by rw [hdl]; omega) (by omega), Int.toNat_natCast, List.take_of_length_le (Nat.le_refl _), List.drop_drop]; rfl
    have hix : ix ((((i : Nat) : Int) :: H).drop j) 0 = some ((((i : Nat) : Int) :: H)[j]) := by
     rw [ix_of (by omega), List.getElem?_drop]
     simp only [Int.toNat_zero, Nat.add_zero]
     exact List.getElem?_eq_getElem c
    rw [if_pos (by omega), hix, bS, hcut, bS]
    have hm : (((i : Nat) : Int) :: H)[j] = ((i : Nat) : Int) ∨ (((i : Nat) : Int) :: H)[j] ∈ H := by
     have := List.getElem_mem c
     rwa [List.mem_cons] at this
    obtain ⟨o, ho, t, rfl, g1, g2, g3, g4⟩ := bfsRound (v := (((i : Nat) : Int) :: H)[j]) V c (hm.imp id (d3 _)) (by
     rcases hm with h | h
     ·exact ⟨i, h, hi'⟩
     ·have := d2 _ h; exact ⟨((((i : Nat) : Int) :: H)[j]).toNat, by omega, by omega⟩) d1 d2 d3
    rw [ho]
    refine ⟨_, rfl, H ++ t, rfl, g1, g2, g3, fun p hp hpj b hb hh => ?_⟩
    have hp' : p < (((i : Nat) : Int) :: H).length := by omega
    have eg : (((i : Nat) : Int) :: (H ++ t))[p] = (((i : Nat) : Int) :: H)[p] := by
     simp only [← List.cons_append]
     exact List.getElem_append_left hp'
    rw [eg] at hh
    by_cases e : p = j
    ·subst e; exact g4 b hb hh
    ·exact List.mem_append_left _ (d4 p hp' (by omega) b hb hh)
   ·have hdl : ((((i : Nat) : Int) :: H).drop j).length = 0 := by rw [List.length_drop]; omega
    rw [if_neg (by omega)]
    refine ⟨_, rfl, ?_⟩
    dsimp only
    refine bl_congr fun u hu => ?_
    rw [Bool.eq_iff_iff, List.contains_iff_mem]
    refine ⟨d3 _, fun h => ?_⟩
    have hcl : Clo (rulesP l q i) H.contains := fun r hr hc b hb => by
     obtain ⟨a, ha, rfl⟩ := List.mem_map.1 hr
     simp only [ruleP, Bool.or_eq_true, decide_eq_true_eq] at hc hb
     obtain ⟨b, rfl, hbn⟩ := hAtt_rng hb
     rw [List.contains_iff_mem]
     rcases hc with rfl | hc
     ·exact d4 0 (by simp) (by simp only [List.length_cons] at c; omega) b hbn hb
     ·rw [List.contains_iff_mem] at hc
      obtain ⟨p, hp, e⟩ := List.mem_iff_getElem.1 hc
      refine d4 (p + 1) (by simp only [List.length_cons]; omega) (by simp only [List.length_cons] at c; omega) b hbn ?_
      rw [List.getElem_cons_succ, e]; exact hb
    have := passes_least (rulesP_mono (l := l) (q := q) (i := i)) hcl (X := none4) (fun v hv => by cases hv) (n := (rulesP l q i).length) _ h
    rwa [List.contains_iff_mem] at this
  ·obtain ⟨H, rfl, d1, d2, d3, d4⟩ := hI
   have hlen := nodup_le d1 d2
   simp only [f16_0]
   have hdl : ((((i : Nat) : Int) :: H).drop (q.Atoms.length + 1)).length = 0 := by rw [List.length_drop, List.length_cons]; omega
   rw [if_neg (by omega)]
   refine ⟨_, rfl, ?_⟩
   refine bl_congr fun u hu => ?_
   rw [Bool.eq_iff_iff, List.contains_iff_mem]
   refine ⟨d3 _, fun h => ?_⟩
   have hcl : Clo (rulesP l q i) H.contains := fun r hr hc b hb => by
    obtain ⟨a, ha, rfl⟩ := List.mem_map.1 hr
    simp only [ruleP, Bool.or_eq_true, decide_eq_true_eq] at hc hb
    obtain ⟨b, rfl, hbn⟩ := hAtt_rng hb
    rw [List.contains_iff_mem]
    rcases hc with rfl | hc
    ·exact d4 0 (by simp) (by omega) b hbn hb
    ·rw [List.contains_iff_mem] at hc
     obtain ⟨p, hp, e⟩ := List.mem_iff_getElem.1 hc
     refine d4 (p + 1) (by simp only [List.length_cons]; omega) (by omega) b hbn ?_
     rw [List.getElem_cons_succ, e]; exact hb
   have := passes_least (rulesP_mono (l := l) (q := q) (i := i)) hcl (X := none4) (fun v hv => by cases hv) (n := (rulesP l q i).length) _ h
   rwa [List.contains_iff_mem] at this
 ·subst h
  rw [bl_get hk']; exact Ens.of rfl
end
end Go.Proofs.YtcllfkplpdppiaaH
namespace Go.Proofs.YtcllfkplpdppiaaH
open Go
section
variable {l : List Relation} {q : Query}
def hCyc (l : List Relation) (q : Query) : Bool := (List.range q.Atoms.length).any fun i => hPath l q ((i : Nat) : Int) ((i : Nat) : Int)
theorem cycImp (hl : Big l.length) (hq : FitsQ q) : f17 l q = some (hCyc l q) := by
 unfold f17
 have hn := hq.1
 rw [iter_ex (List.range q.Atoms.length) (fun i => hPath l q ((i : Nat) : Int) ((i : Nat) : Int)) true (fun i hi => by
  simp only [List.length_range] at hi
  simp only [List.getElem_range]
  simp only [f17_0]
  rw [if_pos (by omega), pathImp hl hq, bS, w64_succ (by omega)]
  split <;> rfl) (by
  simp only [f17_0]
  rw [if_neg (by simp)])]
 unfold hCyc
 cases (List.range q.Atoms.length).any fun i => hPath l q ((i : Nat) : Int) ((i : Nat) : Int) <;> simp
end
end Go.Proofs.YtcllfkplpdppiaaH
namespace Go.Proofs.YtcllfkplpdppiaaH
open Go
section
variable {l : List Relation} {q : Query}
def deter (l : List Relation) (q : Query) (a b : List Int) : Bool := vQuery l q && b.all (closX l q (-1) (setOf q a))
theorem detSpec {a b : List Int} (hl : Big l.length) (hq : FitsQ q) (ha : Big a.length) (hb : Big b.length) : f33 l q a b = some (deter l q a b) := by
 unfold f33 deter
 rw [specQ hl hq, bS]
 cases hv : vQuery l q
 ·simp
 have V := vq_of hl hq hv
 have c4 := nfl_len (X := closX l q (-1) (setOf q a))
 simp only [if_true]
 rw [closSpec V hv ha, bS, has14 (by omega) hb, nfl_has (closX_in setOf_in)]
 simp
theorem detImp {a b : List Int} (hl : Big l.length) (hq : FitsQ q) (ha : a.length ≤ 8) (hai : In4 a.contains) (hb : Big b.length) : f28 l q a b = some (deter l q a b) := by
 unfold f28 deter
 rw [impQ hl hq, bS]
 cases hv : vQuery l q
 ·simp
 have V := vq_of hl hq hv
 have f4 := V.free4
 simp only [if_true]
 have key : f54 l q (-1) a = some (nfl (closX l q (-1) (setOf q a))) := by
  unfold f54 f68
  rw [impQ hl hq, hv, bS, if_neg (by simp), app_fits (by simp; omega)]
  simp only [bS, List.nil_append]
  have it := iter_steps (f := f54_0 a) (fun i => (q.Free ++ a.take i, (i : Int))) a.length (q.Free ++ a) (fun i hi => by
   simp only [f54_0]
   have hb : btw a[i] 0 3 = true := hai _ (by rw [List.contains_iff_mem]; exact List.getElem_mem hi)
   rw [if_pos (by omega), ix_nat hi, bS, impIn, hb, w64_succ (by omega)]
   simp only [bS, if_true]
   rw [app_fits (by simp; omega)]
   simp only [bS]
   rw [take_succ' hi, List.append_assoc]) (by
   simp only [f54_0]
   rw [if_neg (by omega), List.take_of_length_le (Nat.le_refl _)])
  simp only [List.take_zero, List.append_nil, Int.natCast_zero, Int.ofNat_zero] at it
  rw [it, bS, closImp V (by simp; omega) (fun v hv => by
   rw [List.contains_iff_mem, List.mem_append] at hv
   rcases hv with hv | hv
   ·exact V.free v (by rw [List.contains_iff_mem]; exact hv)
   ·exact hai v (by rw [List.contains_iff_mem]; exact hv))]
  have e : (q.Free ++ a).contains = setOf q a := by
   funext v
   unfold setOf
   rw [Bool.eq_iff_iff, List.contains_iff_mem, List.mem_append, List.contains_iff_mem, nfl_mem]
   unfold cupX
   simp only [Bool.or_eq_true, List.contains_iff_mem]
   constructor
   ·rintro (h | h)
    ·exact ⟨.inr h, V.free v (by rw [List.contains_iff_mem]; exact h)⟩
    ·exact ⟨.inl h, hai v (by rw [List.contains_iff_mem]; exact h)⟩
   ·rintro ⟨h | h, _⟩
    ·exact .inr h
    ·exact .inl h
  rw [e]; rfl
 have c4 := nfl_len (X := closX l q (-1) (setOf q a))
 rw [key, bS, subset hb (by omega), nfl_has (closX_in setOf_in)]
 simp
def hWeak (l : List Relation) (q : Query) (i k : Int) : Bool := hAtt l q i k && deter l q (kvars l (atomAt q i.toNat)) (kvars l (atomAt q k.toNat))
theorem weakSpec {i k : Int} (hl : Big l.length) (hq : FitsQ q) : f10 l q i k = some (hWeak l q i k) := by
 unfold f10 hWeak
 rw [hasSpec hl hq, bS]
 cases h : hAtt l q i k
 ·simp
 unfold hAtt at h; simp only [Bool.and_eq_true] at h
 obtain ⟨i, rfl, hi⟩ := btw_nat h.2.1
 obtain ⟨k, rfl, hk⟩ := btw_nat h.2.2.1
 have h1 := hq.2.1 _ (List.getElem_mem hi)
 have h2 := hq.2.1 _ (List.getElem_mem hk)
 have k1 := kvars_len (l := l) (a := q.Atoms[i])
 have k2 := kvars_len (l := l) (a := q.Atoms[k])
 simp only [if_true, Int.toNat_natCast, Bool.true_and]
 rw [ix_nat hi, ix_nat hk, atom_get hi, atom_get hk]
 simp only [bS]
 rw [specKV hl (by omega), bS, specKV hl (by omega), bS, detSpec hl hq (by omega) (by omega)]
 rfl
theorem weakImp {i k : Int} (hl : Big l.length) (hq : FitsQ q) : f8 l q i k = some (hWeak l q i k) := by
 unfold f8 hWeak
 rw [hasImp hl hq, bS]
 cases h : hAtt l q i k
 ·simp
 unfold hAtt at h; simp only [Bool.and_eq_true] at h
 have V := vq_of hl hq h.1
 obtain ⟨i, rfl, hi⟩ := btw_nat h.2.1
 obtain ⟨k, rfl, hk⟩ := btw_nat h.2.2.1
 have h1 := V.terms _ (List.getElem_mem hi)
 have h2 := V.terms _ (List.getElem_mem hk)
 have k1 := kvars_len (l := l) (a := q.Atoms[i])
 have k2 := kvars_len (l := l) (a := q.Atoms[k])
 simp only [if_true, Int.toNat_natCast, Bool.true_and]
 rw [ix_nat hi, ix_nat hk, atom_get hi, atom_get hk]
 simp only [bS]
 rw [impKV hl (by omega), bS, impKV hl (by omega), bS, detImp hl hq (by omega) kvars_in (by omega)]
 rfl
end
end Go.Proofs.YtcllfkplpdppiaaH
namespace Go.Proofs.YtcllfkplpdppiaaH
open Go
variable {l : List Relation} {q : Query}
theorem clo_cl {L : List Rule} (hm : ∀ r ∈ L, r.mono) {X : Int → Bool} : Clo L (cl L X) := passes_clo hm (Nat.le_refl _)
theorem cl_least {L : List Rule} (hm : ∀ r ∈ L, r.mono) {X Z : Int → Bool} (hz : Clo L Z) (h : Le4 X Z) : Le4 (cl L X) Z := passes_least hm hz h
theorem path_one {i k : Nat} (hi : i < q.Atoms.length) (h : hAtt l q (i : Int) (k : Int) = true) : pathTo l q i (k : Int) = true := by
 refine clo_cl rulesP_mono (ruleP l q i i) (List.mem_map.2 ⟨i, List.mem_range.2 hi, rfl⟩) ?_ _ h
 simp [ruleP]
theorem path_go {i k : Nat} (h : pathTo l q i (k : Int) = true) : Le4 (pathTo l q k) (pathTo l q i) := by
 refine cl_least rulesP_mono (fun r hr hc => ?_) (fun v hv => by cases hv)
 unfold rulesP at hr
 obtain ⟨a, ha, rfl⟩ := List.mem_map.1 hr
 refine clo_cl rulesP_mono (ruleP l q i a) (List.mem_map.2 ⟨a, ha, rfl⟩) ?_
 simp only [ruleP, Bool.or_eq_true, decide_eq_true_eq] at hc ⊢
 rcases hc with rfl | hc
 ·exact .inr h
 ·exact .inr hc
theorem hAtt_path {i k : Int} (h : hAtt l q i k = true) : hPath l q i k = true := by
 have h0 := h
 unfold hAtt at h0
 simp only [Bool.and_eq_true] at h0
 obtain ⟨h1, h2, h3, h4⟩ := h0
 obtain ⟨a, rfl, ha⟩ := btw_nat h2
 obtain ⟨b, rfl, hb⟩ := btw_nat h3
 unfold hPath
 simp only [Bool.and_eq_true, Int.toNat_natCast]
 exact ⟨h1, h2, h3, path_one ha h⟩
theorem hPath_trans {i j k : Int} (h1 : hPath l q i j = true) (h2 : hPath l q j k = true) : hPath l q i k = true := by
 unfold hPath at h1 h2 ⊢
 simp only [Bool.and_eq_true] at h1 h2 ⊢
 obtain ⟨b, rfl, hb⟩ := btw_nat h1.2.2.1
 exact ⟨h1.1, h1.2.1, h2.2.2.1, path_go h1.2.2.2 _ (by simpa using h2.2.2.2)⟩
theorem cyc_of {i : Int} (h : hPath l q i i = true) : hCyc l q = true := by
 have h0 := h
 unfold hPath at h0
 simp only [Bool.and_eq_true] at h0
 obtain ⟨a, rfl, ha⟩ := btw_nat h0.2.1
 exact List.any_eq_true.2 ⟨a, List.mem_range.2 ha, h⟩
end Go.Proofs.YtcllfkplpdppiaaH
namespace Go.Proofs.YtcllfkplpdppiaaH
open Go
variable {l : List Relation} {q : Query}
theorem reach_plus {k : Nat} : Le4 (reach l q k) (fun v => !plus l q k v) := by
 unfold reach
 refine cl_least rulesS_mono (fun r hr hc => ?_) (fun v hv => by cases hv)
 unfold rulesS at hr
 obtain ⟨i, hi, rfl⟩ := List.mem_map.1 hr
 intro v hv
 simp only [ruleS, outer, Bool.and_eq_true] at hv
 exact hv.2
theorem attList (i : Int) (hl : Big l.length) (hq : FitsQ q) : ∃ R P : List Int, R.length ≤ 4 ∧ P.length ≤ 4 ∧ f11 l q i = some R ∧ f15 l q i = some R ∧ f12 l q i = some P ∧ ∀ v ∈ R, P.contains v = false := by
 have hn := hq.1
 have none : (vQuery l q = false ∨ btw i 0 ((q.Atoms.length : Int) - 1) = false) → f11 l q i = some [] ∧ f15 l q i = some [] ∧ f12 l q i = some [] := by
  intro h
  unfold f11 f15 f12
  rw [impQ hl hq, specQ hl hq, w64_of (by omega)]
  rcases h with h | h
  ·rw [h]; simp
  ·simp only [impIn, specIn, h]
   cases vQuery l q <;> simp
 cases hv : vQuery l q
 ·obtain ⟨a, b, c⟩ := none (.inl hv)
  exact ⟨[], [], by simp, by simp, a, b, c, by simp⟩
 cases hb : btw i 0 ((q.Atoms.length : Int) - 1)
 ·obtain ⟨a, b, c⟩ := none (.inr hb)
  exact ⟨[], [], by simp, by simp, a, b, c, by simp⟩
 have V := vq_of hl hq hv
 obtain ⟨k, rfl, hk⟩ := btw_nat hb
 refine ⟨nfl (reach l q k), nfl (plus l q k), nfl_len, nfl_len, ?_, attSpec V hv hk, keyClos V hv hk, fun v hv => ?_⟩
 ·unfold f11
  rw [impQ hl hq, hv, bS, if_neg (by simp), impIn, w64_of (by omega), hb]
  simp only [bS, not_true_eq_false, decide_false, Bool.false_eq_true, if_false]
  rw [attImp V hk, bS]
 ·rw [nfl_mem] at hv
  have := reach_plus v hv.1
  rw [nfl_has plus_in]
  simpa using this
theorem hasL {P : List Int} {v : Int} (h : P.length ≤ 4) : f13 P v = some (P.contains v) := by
 unfold f13
 rw [iter_ex P (fun x => x == v) true (fun i hi => by
  simp only [f13_0]
  rw [if_pos (by omega), ix_nat hi, bS, w64_succ (by omega)]
  by_cases c : P[i] = v
  ·simp [c]
  ·simp [c]) (by
  simp only [f13_0]
  rw [if_neg (by omega)])]
 have : P.any (fun x => x == v) = P.contains v := by
  rw [Bool.eq_iff_iff, List.any_eq_true, List.contains_iff_mem]
  constructor
  ·rintro ⟨x, hx, e⟩
   simp only [beq_iff_eq] at e
   exact e ▸ hx
  ·intro h; exact ⟨v, h, by simp⟩
 rw [this]
 cases P.contains v <;> rfl
theorem sameI4 {a : List Int} (h : a.length ≤ 4) : f14 a a = some true := by
 unfold f14
 rw [if_neg (by simp)]
 rw [iter_ex (List.range a.length) (fun _ => false) false (fun i hi => by
  simp only [f14_0]
  simp only [List.length_range] at hi
  rw [if_pos (by omega), ix_nat hi, w64_succ (by omega)]
  simp) (by
  simp only [f14_0]
  rw [if_neg (by simp)])]
 simp
theorem lawFnAttackGraph (code : List Int) (hcode : ok code) : f3 code = some true := by
 unfold f3 f5
 rw [bS]
 by_cases hb : (code.length : Int) > 1048576
 ·rw [if_pos (by simpa using hb)]
 rw [if_neg (by simpa using hb)]
 obtain ⟨⟨l, q, i, k⟩, e, hl, hq⟩ := drawAtt (code := code) (by omega)
 simp only at hl hq
 have h4 := hl.small.1
 have fq := hq.fits
 have hbig : Big l.length := by omega
 rw [e, bS]
 obtain ⟨R, P, r4, p4, e1, e2, e3, hd⟩ := attList i hbig fq
 simp only [hasImp hbig fq, hasSpec hbig fq, weakImp hbig fq, weakSpec hbig fq, pathImp hbig fq, cycImp hbig fq, e1, e2, e3, bS, hAtt_self]
 have loop : iter (f3_0 R P) 0 = some (.inl ()) := by
  rw [iter_ex R (fun _ => false) false (fun j hj => by
   simp only [f3_0]
   rw [if_pos (by omega), ix_nat hj, bS, hasL p4, hd _ (List.getElem_mem hj), bS, w64_succ (by omega)]
   simp) (by
   simp only [f3_0]
   rw [if_neg (by simp)])]
  simp
 rw [loop, sameI4 r4]
 have hw : hWeak l q i k = true → hAtt l q i k = true := fun h => by
  unfold hWeak at h; simp only [Bool.and_eq_true] at h; exact h.1
 have hp : hAtt l q i k = true → hPath l q i k = true := hAtt_path
 have hc : hAtt l q i k = true → hAtt l q k i = true → hCyc l q = true := fun a b => cyc_of (hPath_trans (hAtt_path a) (hAtt_path b))
 cases h1 : hAtt l q i k <;> cases h2 : hWeak l q i k <;> cases h3 : hAtt l q k i <;> simp_all
end Go.Proofs.YtcllfkplpdppiaaH
