import Derived.Test.YtjfeimhiiomgoaaGreatDoorTd1
import Derived.Test.YtjfeimhiiomgoaaGreatDoorX3
import Derived.Test.YtjfeimhiiomgoaaGreatDoorRd1
import Derived.Lib.ItoaLen
import Derived.Lib.Join
set_option linter.unusedVariables false
set_option linter.unusedSimpArgs false
set_option linter.defProp false
set_option linter.unusedSectionVars false
namespace Go.Proofs.YtjfeimhiiomgoaaGreatDoorH
open Go
section
theorem bS {α β : Type} {a : α} {f : α -> Option β} : (some a).bind f = f a := rfl
end
section
def Cur (c : L1Cur) : Prop := 0 <= c.i /\ c.i <= c.b.length /\ c.b.length <= 1048576
theorem newOk {code : List Int} (h : code.length <= 1048576) : Ens (f74 code) Cur := by
 unfold f74
 refine Ens.bind (Q := fun _ => True) ?_ fun a _ => Ens.of ⟨by simp, by simp, h⟩
 refine iter_up (f := f74_0 code) code.length (fun i s => ∃ x, s = (x, (i : Int))) (fun _ => True) (fun i s hi ⟨x, hs⟩ => ?_) (fun s ⟨x, hs⟩ => ?_) _ ⟨_, rfl⟩
 ·subst hs
  simp only [f74_0]
  rw [if_pos (by omega), bS]
  by_cases h4 : (i : Int) < 4000
  ·rw [if_pos (by simpa using h4), ix_nat hi, bS, w64_succ (by omega)]
   exact ⟨_, rfl, _, rfl⟩
  ·rw [if_neg (by simpa using h4)]
   exact ⟨_, rfl, trivial⟩
 ·subst hs
  simp only [f74_0]
  rw [if_neg (by omega), bS, if_neg (by simp)]
  exact ⟨_, rfl, trivial⟩
theorem byteOk {c : L1Cur} (h : Cur c) : Ens (f115 c) fun r => 0 <= r.1 /\ r.1 <= 255 /\ Cur r.2 := by
 unfold f115
 obtain ⟨h0, h1, h2⟩ := h
 refine Ens.bind (Q := fun x : Int × Int => 0 <= x.1 /\ x.1 <= (c.b.length : Int) /\ 0 <= x.2 /\ x.2 <= 255) ?_ fun a ha => Ens.of ⟨ha.2.2.1, ha.2.2.2, ha.1, ha.2.1, h2⟩
 refine Ens.ite (fun hc => ?_) fun hc => Ens.of ⟨h0, h1, band_255⟩
 rw [ix_getD (d := 0) h0 hc, bS]
 refine Ens.of ⟨?_, ?_, band_255⟩
 ·rw [w64_of (by omega)]; omega
 ·rw [w64_of (by omega)]; dsimp only; omega
theorem belowOk {c : L1Cur} {n : Int} (h : Cur c) : Ens (f96 c n) fun r => 0 <= r.1 /\ (n <= 0 -> r.1 = 0) /\ (0 < n -> r.1 < n) /\ Cur r.2 := by
 unfold f96
 refine Ens.ite (fun hc => Ens.of ⟨by simp, fun _ => rfl, fun h => by omega, h⟩) fun hc => ?_
 refine Ens.ite (fun hd => ?_) fun hd => ?_
 ·refine Ens.bind (byteOk h) fun a ⟨a0, a1, a2⟩ => ?_
  rw [nz_ok (by omega), bS]
  have := tmod_lt (n := n) a0 (by omega)
  exact Ens.of ⟨this.1, fun h => by omega, fun _ => this.2, a2⟩
 ·refine Ens.bind (byteOk h) fun a ⟨a0, a1, a2⟩ => ?_
  refine Ens.bind (byteOk a2) fun b ⟨b0, b1, b2⟩ => ?_
  refine Ens.bind (byteOk b2) fun c ⟨c0, c1, c2⟩ => ?_
  refine Ens.bind (byteOk c2) fun d ⟨d0, d1, d2⟩ => ?_
  rw [nz_ok (by omega), bS]
  rw [w64_of (n := a.1 * 16777216) (by omega), w64_of (n := b.1 * 65536) (by omega), w64_of (n := c.1 * 256) (by omega), w64_of (n := a.1 * 16777216 + b.1 * 65536) (by omega), w64_of (n := a.1 * 16777216 + b.1 * 65536 + c.1 * 256) (by omega), w64_of (by omega)]
  have := tmod_lt (n := n) (a := a.1 * 16777216 + b.1 * 65536 + c.1 * 256 + d.1) (by omega) (by omega)
  exact Ens.of ⟨this.1, fun h => by omega, fun _ => this.2, d2⟩
theorem onceOk {c : L1Cur} {n : Int} (h : Cur c) : Ens (f117 c n) fun r => Cur r.2 := by
 unfold f117
 exact Ens.bind (belowOk h) fun a ha => Ens.of ha.2.2.2
theorem pickOk {c : L1Cur} {l : List Int} (h : Cur c) (hl : 0 < l.length) : Ens (f95 c l) fun r => r.1 ∈ l /\ Cur r.2 := by
 unfold f95
 refine Ens.bind (belowOk h) fun a ha => ?_
 have h1 := ha.1
 have h2 := ha.2.2.1 (by omega)
 rw [ix_of h1, zE (by omega), bS]
 exact Ens.of ⟨List.getElem_mem _, ha.2.2.2⟩
end
section
end
section
abbrev Big (n : Nat) : Prop := n <= 9223372036854775806
theorem hasI {l : List Int} {x : Int} (h : Big l.length) : f27 l x = some (l.contains x) := by
 unfold f27
 rw [iter_ex l (fun a => x == a) true (fun i hi => by
  simp only [f27_0]
  rw [if_pos (by omega), ix_nat hi, w64_succ (by omega)]
  simp only [bS]
  by_cases hc : l[i] = x
  ·rw [if_pos hc, if_pos (by simp [hc])]
  ·rw [if_neg hc, if_neg (by simp; exact fun h => hc h.symm)]) (by
  simp only [f27_0]
  rw [if_neg (by omega)])]
 rw [show l.contains x = l.any (fun a => x == a) from List.any_beq.symm]
 by_cases hc : l.any (fun a => x == a) = true
 ·rw [if_pos hc, hc]; rfl
 ·rw [if_neg hc]; simp only [Bool.not_eq_true] at hc; rw [hc]; rfl
theorem indexI {s : List Int} {f : Int -> Option Bool} {p : Int -> Bool} (h : Big s.length) (hf : ∀ a ∈ s, f a = some (p a)) : f43 s f = some (s.any p) := by
 unfold f43 f71
 obtain ⟨o, h1, h2⟩ := iter_idx (f := f71_0 s f) s p (fun i hi => by
  simp only [f71_0]
  rw [if_pos (by omega), ix_nat hi, w64_succ (by omega)]
  simp only [bS, hf _ (List.getElem_mem hi)]
  split <;> rfl) (by
  simp only [f71_0]
  rw [if_neg (by omega)])
 rw [h1]
 cases o with
 | inl _ => dsimp only at h2; rw [h2]; rfl
 | inr x => dsimp only at h2; rw [h2.2]; simp; omega
theorem containsI {s : List Int} {v : Int} (h : Big s.length) : f55 s v = some (s.contains v) := by
 unfold f55 f82
 obtain ⟨o, h1, h2⟩ := iter_idx (f := f82_0 s v) s (fun a => v == a) (fun i hi => by
  simp only [f82_0]
  rw [if_pos (by omega), ix_nat hi, w64_succ (by omega)]
  simp only [bS, beq_iff_eq]
  split <;> rfl) (by
  simp only [f82_0]
  rw [if_neg (by omega)])
 rw [h1]
 rw [show s.contains v = s.any (fun a => v == a) from List.any_beq.symm]
 cases o with
 | inl _ => dsimp only at h2; rw [h2]; rfl
 | inr x => dsimp only at h2; rw [h2.2]; simp; omega
theorem subset {a b : List Int} (ha : Big a.length) (hb : Big b.length) : f45 a b = some (a.all b.contains) := by
 unfold f45
 rw [indexI (p := fun x => !b.contains x) ha (fun x _ => by
  unfold f72
  rw [containsI hb]
  simp)]
 rw [any_not]
 simp
def cov (l : List (List Int)) (s : List Int) : Bool := l.any fun v => v.all s.contains
end
section
def smaller (l : List (List Int)) (k i : Nat) : Bool := decide ((l.getD k []).length < (l.getD i []).length) || (decide (k < i) && decide ((l.getD k []).length = (l.getD i []).length))
def least (l : List (List Int)) (i : Nat) : Bool := (List.range l.length).all fun k => !(smaller l k i && (l.getD k []).all (l.getD i []).contains)
end
section
end
section
variable {α ρ : Type}
def good (q : α -> Bool) (r : α -> α -> Bool) (l : List α) : Bool := decide (∀ i (h : i < l.length), (q l[i] && (decide (i = 0) || r (l[i - 1]'(by omega)) l[i])) = true)
theorem good_of {q : α -> Bool} {r : α -> α -> Bool} {l : List α} (h : good q r l = true) {i : Nat} (hi : i < l.length) : q l[i] = true /\ (0 < i -> r (l[i - 1]'(by omega)) l[i] = true) := by
 have := of_decide_eq_true h i hi
 simp only [Bool.and_eq_true, Bool.or_eq_true, decide_eq_true_eq] at this
 exact ⟨this.1, fun hp => this.2.resolve_left (by omega)⟩
theorem iter_adj {f : Int -> Option (Int ⊕ (Unit ⊕ ρ))} (q : α -> Bool) (r : α -> α -> Bool) (L : List α) (c : ρ)
  (hs : ∀ (i : Nat) (h : i < L.length), f (i : Int) = some (if (q L[i] && (decide (i = 0) || r (L[i - 1]'(by omega)) L[i])) = true then .inl ((i + 1 : Nat) : Int) else .inr (.inr c)))
  (he : f (L.length : Int) = some (.inr (.inl ()))) : iter f 0 = some (if good q r L = true then .inl () else .inr c) := by
 obtain ⟨o, h1, h2⟩ := iter_up (f := f) L.length (fun i s => s = (i : Int) /\ ∀ j (h : j < L.length), j < i -> (q L[j] && (decide (j = 0) || r (L[j - 1]'(by omega)) L[j])) = true)
  (fun o => o = if good q r L = true then .inl () else .inr c) (fun i s hi ⟨h, hp⟩ => by
   subst h
   refine ⟨_, hs i hi, ?_⟩
   by_cases hc : (q L[i] && (decide (i = 0) || r (L[i - 1]'(by omega)) L[i])) = true
   ·rw [if_pos hc]
    refine ⟨rfl, fun j hj hlt => ?_⟩
    by_cases e : j = i
    ·subst e; exact hc
    ·exact hp j hj (by omega)
   ·rw [if_neg hc]
    dsimp only
    rw [if_neg]
    intro hg
    exact hc (of_decide_eq_true hg i hi)) (fun s ⟨h, hp⟩ => by
   subst h
   refine ⟨_, he, ?_⟩
   rw [if_pos]
   exact decide_eq_true fun i hi => hp i hi hi) 0 ⟨rfl, fun j _ h => by omega⟩
 rw [h1, h2]
def btw (x low high : Int) : Bool := decide (low <= x) && decide (x <= high)
theorem specIn {x a b : Int} : f39 x a b = some (btw x a b) := by
 unfold f39 btw
 by_cases h : a <= x
 ·rw [if_pos (show x >= a from h)]; simp [h]
 ·rw [if_neg (show ¬ x >= a from h)]; simp [h]
theorem impIn {x a b : Int} : f42 x a b = some (btw x a b) := by
 unfold f42 btw
 by_cases h : a <= x
 ·rw [if_pos h]; simp [h]
 ·rw [if_neg h]; simp [h]
def vRel (r : Relation) : Bool := decide (r.Name.length = 1) && (decide (97 <= (r.Name.getD 0 0).toNat) && (decide ((r.Name.getD 0 0).toNat <= 122) && (btw r.Arity 1 3 && btw r.KeyLength 0 r.Arity)))
theorem specRel {r : Relation} : f73 r = some (vRel r) := by
 unfold f73 vRel
 by_cases h1 : r.Name.length = 1
 ·rw [if_pos (by omega)]
  have e : ix r.Name 0 = some (r.Name.getD 0 0) := by rw [ix_of (by omega)]; simp [zE (show 0 < r.Name.length by omega)]
  rw [e, bS]
  generalize r.Name.getD 0 0 = c
  by_cases h2 : 97 <= c.toNat
  ·rw [if_pos (by omega)]
   by_cases h3 : c.toNat <= 122
   ·rw [if_pos (by omega), specIn, bS]
    cases hb : btw r.Arity 1 3
    ·simp
    ·simp [specIn, h1, h2, h3]
   ·rw [if_neg (by omega)]; simp [h3]
  ·rw [if_neg (by omega)]; simp [h2]
 ·rw [if_neg (by omega)]; simp [h1]
theorem impRel {r : Relation} : f70 r = some (vRel r) := by
 unfold f70 vRel
 by_cases h1 : r.Name.length = 1
 ·rw [if_pos (by omega)]
  have e : ix r.Name 0 = some (r.Name.getD 0 0) := by rw [ix_of (by omega)]; simp [zE (show 0 < r.Name.length by omega)]
  rw [e, bS]
  generalize r.Name.getD 0 0 = c
  by_cases h2 : 97 <= c.toNat
  ·rw [if_pos (by omega)]
   by_cases h3 : c.toNat <= 122
   ·rw [if_pos (by omega), impIn, bS]
    cases hb : btw r.Arity 1 3
    ·simp
    ·simp [impIn, h1, h2, h3]
   ·rw [if_neg (by omega)]; simp [h3]
  ·rw [if_neg (by omega)]; simp [h2]
 ·rw [if_neg (by omega)]; simp [h1]
def vRels (l : List Relation) : Bool := good vRel (fun a b => Op.bytesLess a.Name b.Name) l && decide (l.length <= 4)
theorem specRels {l : List Relation} (h : Big l.length) : f46 l = some (vRels l) := by
 unfold f46 vRels
 rw [iter_adj vRel (fun a b => Op.bytesLess a.Name b.Name) l false (fun i hi => by
  simp only [f46_0]
  rw [if_pos (by omega), ix_nat hi, w64_succ (by omega)]
  simp only [bS, specRel]
  cases vRel l[i]
  ·simp
  ·by_cases h0 : i = 0
   ·subst h0; simp
   ·have e : ix l (w64 ((i : Int) - 1)) = some (l[i - 1]'(by omega)) := by rw [w64_of (by omega), show (i : Int) - 1 = ((i - 1 : Nat) : Int) by omega, ix_nat (by omega)]
    simp only [e]
    have : 0 < i := by omega
    cases hb : Op.bytesLess (l[i - 1]'(by omega)).Name l[i].Name <;> simp [h0, this, hb]) (by
  simp only [f46_0]
  rw [if_neg (by omega)])]
 cases good vRel (fun a b => Op.bytesLess a.Name b.Name) l
 ·simp
 ·simp; omega
theorem impRels {l : List Relation} (h : Big l.length) : f41 l = some (vRels l) := by
 unfold f41 vRels
 rw [iter_adj vRel (fun a b => Op.bytesLess a.Name b.Name) l false (fun i hi => by
  simp only [f41_0]
  rw [if_pos (by omega), ix_nat hi, w64_succ (by omega)]
  simp only [bS, impRel]
  cases vRel l[i]
  ·simp
  ·by_cases h0 : i = 0
   ·subst h0; simp
   ·have e : ix l (w64 ((i : Int) - 1)) = some (l[i - 1]'(by omega)) := by rw [w64_of (by omega), show (i : Int) - 1 = ((i - 1 : Nat) : Int) by omega, ix_nat (by omega)]
    simp only [e]
    have : 0 < i := by omega
    cases hb : Op.bytesLess (l[i - 1]'(by omega)).Name l[i].Name <;> simp [h0, this, hb]) (by
  simp only [f41_0]
  rw [if_neg (by omega)])]
 cases good vRel (fun a b => Op.bytesLess a.Name b.Name) l
 ·simp
 ·simp; omega
def arity (l : List Relation) (r : Int) : Int := (l[r.toNat]?.map (·.Arity)).getD 0
def keyLen (l : List Relation) (r : Int) : Int := (l[r.toNat]?.map (·.KeyLength)).getD 0
theorem ix_rel {l : List Relation} {r : Int} (h : btw r 0 (l.length - 1) = true) : ∃ x, ix l r = some x /\ x ∈ l /\ x.Arity = arity l r /\ x.KeyLength = keyLen l r := by
 unfold btw at h; simp only [Bool.and_eq_true, decide_eq_true_eq] at h
 have e : l[r.toNat]? = some (l[r.toNat]'(by omega)) := zE _
 refine ⟨l[r.toNat]'(by omega), ?_, List.getElem_mem _, ?_, ?_⟩
 ·rw [ix_of h.1, e]
 ·unfold arity; rw [e]; rfl
 ·unfold keyLen; rw [e]; rfl
def asc (n : Int) (l : List Int) : Bool := good (fun v => btw v 0 (n - 1)) (fun a b => decide (a < b)) l
theorem impSet {l : List Int} {n : Nat} (hd : Big n) (h : Big l.length) : f77 l n = some (asc n l) := by
 unfold f77
 rw [iter_adj (fun v => btw v 0 ((n : Int) - 1)) (fun a b => decide (a < b)) l false (fun i hi => by
  simp only [f77_0]
  rw [if_pos (by omega), ix_nat hi, w64_succ (by omega), w64_of (n := (n : Int) - 1) (by omega)]
  simp only [bS, impIn]
  cases btw l[i] 0 ((n : Int) - 1)
  ·simp
  ·by_cases h0 : i = 0
   ·subst h0; simp
   ·have e : ix l (w64 ((i : Int) - 1)) = some (l[i - 1]'(by omega)) := by rw [w64_of (by omega), show (i : Int) - 1 = ((i - 1 : Nat) : Int) by omega, ix_nat (by omega)]
    simp only [e]
    have : 0 < i := by omega
    by_cases hb : l[i - 1]'(by omega) < l[i]
    ·simp [h0, this, hb, Int.not_le.2 hb]
    ·simp [h0, this, hb, Int.not_lt.1 hb]) (by
  simp only [f77_0]
  rw [if_neg (by omega)])]
 unfold asc
 cases good (fun v => btw v 0 ((n : Int) - 1)) (fun a b => decide (a < b)) l <;> simp
end
section
variable {α ρ : Type}
theorem nodup_le : ∀ {n : Nat} {H : List Int}, H.Nodup -> (∀ v ∈ H, 0 <= v /\ v < n) -> H.length <= n
 | 0, [], _, _ => by simp
 | 0, a :: H, _, h => by have := h a (by simp); omega
 | n + 1, H, hd, h => by
  have h1 : (H.erase ((n : Nat) : Int)).length <= n := nodup_le (hd.erase _) fun v hv => by
   have h2 := h v (List.mem_of_mem_erase hv)
   have h3 := (List.Nodup.mem_erase_iff hd).1 hv
   have := h3.1
   omega
  have h2 := List.length_erase (l := H) (a := ((n : Nat) : Int))
  split at h2 <;> omega
theorem vRel_mem {l : List Relation} (h : vRels l = true) {r : Relation} (hr : r ∈ l) : vRel r = true := by
 unfold vRels at h; simp only [Bool.and_eq_true] at h
 obtain ⟨i, hi, rfl⟩ := List.mem_iff_getElem.1 hr
 exact (good_of h.1 hi).1
variable {n : Nat} {sk : Nat -> Nat -> Bool}
def pick (c : Int -> Bool) (bs : List (List Int)) : List Int := bs.filterMap fun b => b.find? c
def picks (c : Int -> Bool) (bs : List (List Int)) : List Int × Bool := if (bs.all fun b => (b.find? c).isSome) = true then (pick c bs, true) else ([], false)
end
section
end
section
end
section
variable {n : Nat} {sk : Nat -> Nat -> Bool}
theorem asc_of {s : List Int} (h : asc n s = true) : s.Pairwise (· < ·) /\ ∀ v ∈ s, 0 <= v /\ v < n := by
 have hg := fun i (hi : i < s.length) => good_of h hi
 refine ⟨?_, ?_⟩
 ·rw [List.pairwise_iff_getElem]
  intro i j hi hj hij
  induction j with
  | zero => omega
  | succ j ih =>
   have h1 := (hg (j + 1) hj).2 (by omega)
   simp only [Nat.add_sub_cancel, decide_eq_true_eq] at h1
   by_cases e : i = j
   ·subst e; exact h1
   ·have := ih (by omega) (by omega); omega
 ·intro v hv
  obtain ⟨i, hi, rfl⟩ := List.getElem_of_mem hv
  have h1 := (hg i hi).1
  simp only [btw, Bool.and_eq_true, decide_eq_true_eq] at h1
  omega
theorem up_nodup {s : List Int} (h : s.Pairwise (· < ·)) : s.Nodup := h.imp fun hab e => by omega
theorem asc_len {s : List Int} (h : asc n s = true) : s.length <= n := nodup_le (up_nodup (asc_of h).1) (asc_of h).2
end
section
theorem flat_take {L : List (List Int)} {i : Nat} : (L.take i).flatten.length <= L.flatten.length := by
 conv => rhs; rw [<- List.take_append_drop i L, List.flatten_append, List.length_append]
 omega
theorem concatN {L : List (List Int)} (hL : L.length <= 1048576) (h : L.flatten.length <= 1048576) : f56 L = some L.flatten := by
 unfold f56
 have q : ∀ i (hi : i < L.length), (L.take (i + 1)).flatten = (L.take i).flatten ++ L[i] := fun i hi => by rw [take_succ' hi, List.flatten_append]; simp
 have h1 := iter_steps (f := f56_0 L) (fun i => (((L.take i).flatten.length : Int), (i : Int))) L.length (L.flatten.length : Int) (fun i hi => by
  have e := congrArg List.length (q i hi)
  rw [List.length_append] at e
  have b := flat_take (L := L) (i := i + 1)
  simp only [f56_0]
  rw [if_pos (by omega), ix_nat hi, bS, w64_succ (by omega), w64_of (by omega), if_neg (by omega), bS, e]
  rw [Int.natCast_add (List.take i L).flatten.length]) (by
  simp only [f56_0]
  rw [if_neg (by omega), List.take_of_length_le (Nat.le_refl _)])
 simp only [List.take_zero, List.flatten_nil, List.length_nil, Int.natCast_zero, Int.ofNat_zero] at h1
 erw [h1]
 rw [bS]
 unfold f83 growN
 rw [if_pos ⟨by omega, by unfold room; omega⟩, bS]
 have h2 := iter_steps (f := f56_1 L) (fun i => (L.flatten.length - (L.take i).flatten.length, (L.take i).flatten, (i : Int))) L.length (0, L.flatten) (fun i hi => by
  have e := congrArg List.length (q i hi)
  rw [List.length_append] at e
  have b := flat_take (L := L) (i := i + 1)
  simp only [f56_1]
  rw [if_pos (by omega), ix_nat hi, bS, w64_succ (by omega)]
  unfold apps
  rw [if_pos ⟨by omega, by unfold room; omega⟩, bS, q i hi]
  simp only [List.length_append]
  rw [Nat.sub_sub]) (by
  simp only [f56_1]
  rw [if_neg (by omega), List.take_of_length_le (Nat.le_refl _), Nat.sub_self])
 simp only [List.take_zero, List.flatten_nil, List.length_nil, Nat.sub_zero, Int.natCast_zero, Int.ofNat_zero] at h2
 rw [Int.toNat_natCast]
 erw [h2]
 simp [nsk]
theorem sort12 {x : List Int} (h : x.length <= 12) : Ens (f57 x) fun r => r.Pairwise (· <= ·) /\ r.Perm x := by
 unfold f57 sortN srtL
 rw [if_pos (by omega)]
 refine Ens.of ⟨?_, List.mergeSort_perm _ _⟩
 have := List.pairwise_mergeSort (le := fun a b : Int => decide (a <= b)) (fun a b c h1 h2 => by simp at *; omega) (fun a b => by simp; omega) x
 exact this.imp fun h => by simpa using h
theorem compact_up : ∀ {l : List Int}, l.Pairwise (· <= ·) -> (compactL l).Pairwise (· < ·) /\ ∀ y, y ∈ compactL l ↔ y ∈ l
 | [], h => by simp [compactL]
 | [a], h => by simp [compactL]
 | a :: b :: r, h => by
  rw [List.pairwise_cons] at h
  obtain ⟨i1, i2⟩ := compact_up h.2
  rw [compactL]
  split
  ·rename_i e
   subst e
   exact ⟨i1, fun y => by rw [i2]; simp⟩
  ·rename_i e
   refine ⟨List.pairwise_cons.2 ⟨fun y hy => ?_, i1⟩, fun y => by simp [i2]⟩
   rw [i2] at hy
   have h1 := h.1 b (by simp)
   rcases List.mem_cons.1 hy with rfl | hy
   ·omega
   ·have := (List.pairwise_cons.1 h.2).1 y hy; omega
theorem union12 {a b : List Int} (h : a.length + b.length <= 12) : Ens (f22 a b) fun r => r.Pairwise (· < ·) /\ (∀ y, y ∈ r ↔ y ∈ a \/ y ∈ b) /\ r.length <= 12 := by
 unfold f22
 have e : [a, b].flatten = a ++ b := by simp
 rw [concatN (by simp) (by rw [e]; simp; omega), e, bS]
 refine Ens.bind (sort12 (by simp; omega)) fun r hr => ?_
 have hl := hr.2.length_eq
 simp only [List.length_append] at hl
 unfold f58 compactN
 rw [if_pos (by omega)]
 obtain ⟨c1, c2⟩ := compact_up hr.1
 exact Ens.of ⟨c1, fun y => by rw [c2, hr.2.mem_iff, List.mem_append], by have := compactL_len r; omega⟩
theorem up_ext : ∀ {a b : List Int}, a.Pairwise (· < ·) -> b.Pairwise (· < ·) -> (∀ y, y ∈ a ↔ y ∈ b) -> a = b
 | [], [], _, _, _ => rfl
 | [], y :: b, _, _, h => by have := (h y).2 (by simp); cases this
 | x :: a, [], _, _, h => by have := (h x).1 (by simp); cases this
 | x :: a, y :: b, ha, hb, h => by
  rw [List.pairwise_cons] at ha hb
  have e : x = y := by
   have h1 := (h x).1 (by simp)
   have h2 := (h y).2 (by simp)
   rcases List.mem_cons.1 h1 with e | h1
   ·exact e
   ·rcases List.mem_cons.1 h2 with e | h2
    ·exact e.symm
    ·have := ha.1 y h2; have := hb.1 x h1; omega
  subst e
  congr 1
  refine up_ext ha.2 hb.2 fun y => ?_
  have := h y
  constructor
  ·intro hy
   have q := ha.1 y hy
   rcases List.mem_cons.1 (this.1 (List.mem_cons.2 (.inr hy))) with e | e
   ·omega
   ·exact e
  ·intro hy
   have q := hb.1 y hy
   rcases List.mem_cons.1 (this.2 (List.mem_cons.2 (.inr hy))) with e | e
   ·omega
   ·exact e
end
section
def avars (t : List Int) : List Int := (List.range 4).flatMap fun v => if t.contains ((v : Nat) : Int) = true then [((v : Nat) : Int)] else []
theorem avars_up {t : List Int} : (avars t).Pairwise (· < ·) := by
 unfold avars
 simp only [List.range, List.range.loop, List.flatMap_cons, List.flatMap_nil, List.append_nil]
 generalize t.contains ((0 : Nat) : Int) = a
 generalize t.contains ((1 : Nat) : Int) = b
 generalize t.contains ((2 : Nat) : Int) = c
 generalize t.contains ((3 : Nat) : Int) = d
 cases a <;> cases b <;> cases c <;> cases d <;> simp
theorem avars_mem {t : List Int} {y : Int} : y ∈ avars t ↔ y ∈ t /\ btw y 0 3 = true := by
 unfold avars btw
 simp only [List.mem_flatMap, List.mem_range, Bool.and_eq_true, decide_eq_true_eq]
 constructor
 ·rintro ⟨v, hv, h⟩
  by_cases c : t.contains ((v : Nat) : Int) = true
  ·rw [if_pos c, List.mem_singleton] at h
   subst h
   exact ⟨by simpa using c, by omega, by omega⟩
  ·rw [if_neg c] at h; cases h
 ·rintro ⟨h, h1, h2⟩
  refine ⟨y.toNat, by omega, ?_⟩
  rw [Int.toNat_of_nonneg h1, if_pos (by simpa using h)]
  simp
theorem avars_len {t : List Int} : (avars t).length <= 4 := by
 unfold avars
 simp only [List.range, List.range.loop, List.flatMap_cons, List.flatMap_nil, List.append_nil, List.length_append]
 split <;> split <;> split <;> split <;> simp
theorem specVars {a : Atom} (h : Big a.Terms.length) : f40 a = some (avars a.Terms) := by
 unfold f40
 rw [iter_flat (List.range 4) (fun v => if a.Terms.contains ((v : Nat) : Int) = true then [((v : Nat) : Int)] else []) id (fun k hk => by
  simp only [List.length_range] at hk
  have el : (((List.range 4).take k).flatMap fun v => if a.Terms.contains ((v : Nat) : Int) = true then [((v : Nat) : Int)] else []).length <= k := by
   have := take_flat_le (l := List.range 4) (i := k) (g := fun v => if a.Terms.contains ((v : Nat) : Int) = true then [((v : Nat) : Int)] else []) (m := 1) (fun a => by split <;> simp)
   omega
  generalize ((List.range 4).take k).flatMap (fun v => if a.Terms.contains ((v : Nat) : Int) = true then [((v : Nat) : Int)] else []) = out at el ⊢
  simp only [List.getElem_range]
  simp only [f40_0]
  rw [if_pos (by omega), hasI h, bS, w64_succ (by omega)]
  by_cases c : a.Terms.contains ((k : Nat) : Int) = true
  ·rw [if_pos c, if_pos c, app_fits (by simp; omega)]; rfl
  ·rw [if_neg c, if_neg c]; simp) (by
  simp only [f40_0]
  rw [if_neg (by simp)]; rfl)]
 rfl
theorem impVars {a : Atom} (h : a.Terms.length <= 12) : f20 a = some (avars a.Terms) := by
 unfold f20
 rw [iter_flat a.Terms (fun v => if btw v 0 3 = true then [v] else []) id (fun k hk => by
  have el : ((a.Terms.take k).flatMap fun v => if btw v 0 3 = true then [v] else []).length <= k := by
   have := take_flat_le (l := a.Terms) (i := k) (g := fun v => if btw v 0 3 = true then [v] else []) (m := 1) (fun a => by split <;> simp)
   omega
  generalize (a.Terms.take k).flatMap (fun v => if btw v 0 3 = true then [v] else []) = out at el ⊢
  simp only [f20_0]
  rw [if_pos (by omega), ix_nat hk, bS, impIn, bS, w64_succ (by omega)]
  by_cases c : btw a.Terms[k] 0 3 = true
  ·rw [if_pos c, if_pos c, app_fits (by simp; omega)]; rfl
  ·rw [if_neg c, if_neg c]; simp) (by
  simp only [f20_0]
  rw [if_neg (by omega)]; rfl)]
 rw [bS]
 dsimp only [id]
 have el : (a.Terms.flatMap fun v => if btw v 0 3 = true then [v] else []).length <= a.Terms.length := by
  have := take_flat_le (l := a.Terms) (i := a.Terms.length) (g := fun v => if btw v 0 3 = true then [v] else []) (m := 1) (fun a => by split <;> simp)
  rw [List.take_of_length_le (Nat.le_refl _)] at this
  omega
 obtain ⟨r, h1, h2, h3, _⟩ := union12 (a := a.Terms.flatMap fun v => if btw v 0 3 = true then [v] else []) (b := []) (by rw [List.length_nil]; omega)
 rw [h1, bS]
 congr 1
 refine up_ext h2 avars_up fun y => ?_
 rw [h3, avars_mem, List.mem_flatMap]
 constructor
 ·rintro (⟨v, hv, h⟩ | h)
  ·by_cases c : btw v 0 3 = true
   ·rw [if_pos c, List.mem_singleton] at h; subst h; exact ⟨hv, c⟩
   ·rw [if_neg c] at h; cases h
  ·cases h
 ·rintro ⟨h, c⟩
  exact .inl ⟨y, h, by rw [if_pos c]; simp⟩
def kvars (l : List Relation) (a : Atom) : List Int := if (btw a.Relation 0 (l.length - 1) && btw (keyLen l a.Relation) 0 a.Terms.length) = true then avars (a.Terms.take (keyLen l a.Relation).toNat) else []
theorem kvars_len {l : List Relation} {a : Atom} : (kvars l a).length <= 4 := by
 unfold kvars; split
 ·exact avars_len
 ·simp
theorem specKV {l : List Relation} {a : Atom} (hl : Big l.length) (h : Big a.Terms.length) : f12 l a = some (kvars l a) := by
 unfold f12 kvars
 rw [w64_of (by omega), specIn, bS]
 cases hb : btw a.Relation 0 (l.length - 1)
 ·simp
 ·obtain ⟨x, h1, _, _, h2⟩ := ix_rel hb
  rw [h1]
  simp only [not_true_eq_false, if_false, bS, specIn, h2]
  cases hk : btw (keyLen l a.Relation) 0 a.Terms.length
  ·simp
  ·unfold btw at hk; simp only [Bool.and_eq_true, decide_eq_true_eq] at hk
   simp only [not_true_eq_false, decide_false, Bool.false_eq_true, if_false, Bool.and_self, if_true]
   rw [cutL_ok (by omega) hk.1 hk.2, bS, specVars (by simp; omega)]; rfl
theorem impKV {l : List Relation} {a : Atom} (hl : Big l.length) (h : a.Terms.length <= 12) : f19 l a = some (kvars l a) := by
 unfold f19 kvars
 rw [w64_of (by omega), impIn, bS]
 cases hb : btw a.Relation 0 (l.length - 1)
 ·simp
 ·obtain ⟨x, h1, _, _, h2⟩ := ix_rel hb
  rw [h1]
  simp only [not_true_eq_false, if_false, bS, impIn, h2]
  cases hk : btw (keyLen l a.Relation) 0 a.Terms.length
  ·simp
  ·unfold btw at hk; simp only [Bool.and_eq_true, decide_eq_true_eq] at hk
   simp only [not_true_eq_false, decide_false, Bool.false_eq_true, if_false, Bool.and_self, if_true]
   rw [cutL_ok (by omega) hk.1 hk.2, bS, impVars (by simp; omega)]; rfl
theorem has14 {l w : List Int} (hl : Big l.length) (hw : Big w.length) : f47 l w = some (w.all l.contains) := by
 unfold f47
 rw [iter_ex w (fun v => !l.contains v) false (fun i hi => by
  simp only [f47_0]
  rw [if_pos (by omega), ix_nat hi, w64_succ (by omega)]
  simp only [bS, hasI hl]
  cases l.contains w[i] <;> simp) (by
  simp only [f47_0]
  rw [if_neg (by omega)])]
 rw [any_not]
 cases w.all l.contains <;> simp
theorem vRels_arity {l : List Relation} {r : Int} (h : vRels l = true) (hb : btw r 0 (l.length - 1) = true) : arity l r <= 3 := by
 obtain ⟨x, h1, h2, h3, _⟩ := ix_rel hb
 unfold vRels at h; simp only [Bool.and_eq_true] at h
 obtain ⟨i, hi, rfl⟩ := List.mem_iff_getElem.1 h2
 have := (good_of h.1 hi).1
 unfold vRel btw at this
 simp only [Bool.and_eq_true, decide_eq_true_eq] at this
 omega
end
section
def nfl (X : Int -> Bool) : List Int := (List.range 4).flatMap fun v => if X ((v : Nat) : Int) = true then [((v : Nat) : Int)] else []
def In4 (X : Int -> Bool) : Prop := ∀ v, X v = true -> btw v 0 3 = true
def Le4 (X Y : Int -> Bool) : Prop := ∀ v, X v = true -> Y v = true
def cupX (X Y : Int -> Bool) : Int -> Bool := fun v => X v || Y v
theorem Le4.refl {X : Int -> Bool} : Le4 X X := fun _ h => h
theorem Le4.trans {X Y Z : Int -> Bool} (h : Le4 X Y) (g : Le4 Y Z) : Le4 X Z := fun v hv => g v (h v hv)
theorem Le4.antisymm {X Y : Int -> Bool} (h : Le4 X Y) (g : Le4 Y X) : X = Y := by
 funext v
 rw [Bool.eq_iff_iff]
 exact ⟨h v, g v⟩
theorem avars_nfl {t : List Int} : avars t = nfl t.contains := rfl
theorem nfl_mem {X : Int -> Bool} {y : Int} : y ∈ nfl X ↔ X y = true /\ btw y 0 3 = true := by
 unfold nfl btw
 simp only [List.mem_flatMap, List.mem_range, Bool.and_eq_true, decide_eq_true_eq]
 constructor
 ·rintro ⟨v, hv, h⟩
  by_cases c : X ((v : Nat) : Int) = true
  ·rw [if_pos c, List.mem_singleton] at h
   subst h
   exact ⟨c, by omega, by omega⟩
  ·rw [if_neg c] at h; cases h
 ·rintro ⟨h, h1, h2⟩
  refine ⟨y.toNat, by omega, ?_⟩
  rw [Int.toNat_of_nonneg h1, if_pos h]
  simp
theorem nfl_up {X : Int -> Bool} : (nfl X).Pairwise (· < ·) := by
 unfold nfl
 simp only [List.range, List.range.loop, List.flatMap_cons, List.flatMap_nil, List.append_nil]
 generalize X ((0 : Nat) : Int) = a
 generalize X ((1 : Nat) : Int) = b
 generalize X ((2 : Nat) : Int) = c
 generalize X ((3 : Nat) : Int) = d
 cases a <;> cases b <;> cases c <;> cases d <;> simp
theorem nfl_len {X : Int -> Bool} : (nfl X).length <= 4 := by
 unfold nfl
 simp only [List.range, List.range.loop, List.flatMap_cons, List.flatMap_nil, List.append_nil, List.length_append]
 split <;> split <;> split <;> split <;> simp
theorem nfl_has {X : Int -> Bool} (h : In4 X) : (nfl X).contains = X := by
 funext v
 rw [Bool.eq_iff_iff, List.contains_iff_mem, nfl_mem]
 exact ⟨fun h => h.1, fun hv => ⟨hv, h v hv⟩⟩
theorem nfl_congr {X Y : Int -> Bool} (h : ∀ v, btw v 0 3 = true -> X v = Y v) : nfl X = nfl Y := by
 refine up_ext nfl_up nfl_up fun y => ?_
 rw [nfl_mem, nfl_mem]
 constructor <;> rintro ⟨a, b⟩ <;> exact ⟨by rw [<- a, h y b], b⟩
theorem nfl_in {X : Int -> Bool} : In4 (nfl X).contains := fun v hv => by
 rw [List.contains_iff_mem, nfl_mem] at hv; exact hv.2
theorem nfl_nil : nfl (fun _ => false) = [] := by simp [nfl]
theorem cup_in {X Y : Int -> Bool} (h : In4 X) (g : In4 Y) : In4 (cupX X Y) := fun v hv => by
 unfold cupX at hv
 rcases Bool.or_eq_true _ _ ▸ hv with a | a
 ·exact h v a
 ·exact g v a
theorem nfl_idem {X : Int -> Bool} : nfl (nfl X).contains = nfl X := nfl_congr fun v hv => by
 rw [Bool.eq_iff_iff, List.contains_iff_mem, nfl_mem]
 exact ⟨fun h => h.1, fun h => ⟨h, hv⟩⟩
theorem unionI {a b : List Int} (h : a.length + b.length <= 12) (ha : In4 a.contains) (hb : In4 b.contains) : f22 a b = some (nfl (cupX a.contains b.contains)) := by
 obtain ⟨r, h1, h2, h3, _⟩ := union12 h
 rw [h1]
 congr 1
 refine up_ext h2 nfl_up fun y => ?_
 rw [h3, nfl_mem]
 unfold cupX
 simp only [Bool.or_eq_true, List.contains_iff_mem]
 constructor
 ·intro hy
  refine ⟨hy, ?_⟩
  rcases hy with hy | hy
  ·exact ha y (by rw [List.contains_iff_mem]; exact hy)
  ·exact hb y (by rw [List.contains_iff_mem]; exact hy)
 ·exact fun h => h.1
theorem bothS {a b : List Int} (ha : Big a.length) (hb : Big b.length) : f61 a b = some (nfl (cupX a.contains b.contains)) := by
 unfold f61
 rw [iter_flat (List.range 4) (fun v => if cupX a.contains b.contains ((v : Nat) : Int) = true then [((v : Nat) : Int)] else []) id (fun k hk => by
  simp only [List.length_range] at hk
  have el : (((List.range 4).take k).flatMap fun v => if cupX a.contains b.contains ((v : Nat) : Int) = true then [((v : Nat) : Int)] else []).length <= k := by
   have := take_flat_le (l := List.range 4) (i := k) (g := fun v => if cupX a.contains b.contains ((v : Nat) : Int) = true then [((v : Nat) : Int)] else []) (m := 1) (fun a => by split <;> simp)
   omega
  generalize ((List.range 4).take k).flatMap (fun v => if cupX a.contains b.contains ((v : Nat) : Int) = true then [((v : Nat) : Int)] else []) = out at el ⊢
  simp only [List.getElem_range]
  simp only [f61_0]
  rw [if_pos (by omega), hasI ha, hasI hb, w64_succ (by omega)]
  unfold cupX
  cases a.contains ((k : Nat) : Int)
  ·cases b.contains ((k : Nat) : Int)
   ·simp
   ·simp only [bS, Bool.false_eq_true, if_false, if_true, Bool.false_or]
    rw [app_fits (by simp; omega)]; rfl
  ·simp only [bS, if_true, Bool.true_or]
   rw [app_fits (by simp; omega)]; rfl) (by
  simp only [f61_0]
  rw [if_neg (by simp)]; rfl)]
 rfl
structure Rule where
 c : (Int -> Bool) -> Bool
 a : Int -> Bool
def Rule.mono (r : Rule) : Prop := ∀ X Y, Le4 X Y -> r.c X = true -> r.c Y = true
def fire (X : Int -> Bool) (r : Rule) : Int -> Bool := if r.c X = true then cupX X r.a else X
def pass (L : List Rule) (X : Int -> Bool) : Int -> Bool := L.foldl fire X
def passes (L : List Rule) : Nat -> (Int -> Bool) -> Int -> Bool
 | 0, X => X
 | n + 1, X => pass L (passes L n X)
def Clo (L : List Rule) (X : Int -> Bool) : Prop := ∀ r ∈ L, r.c X = true -> Le4 r.a X
theorem fire_le {X : Int -> Bool} {r : Rule} : Le4 X (fire X r) := fun v hv => by
 unfold fire; split
 ·unfold cupX; rw [hv]; rfl
 ·exact hv
theorem pass_le {L : List Rule} {X : Int -> Bool} : Le4 X (pass L X) := by
 induction L generalizing X with
 | nil => exact Le4.refl
 | cons r L ih => exact fire_le.trans ih
theorem fire_clo {X : Int -> Bool} {r : Rule} (h : r.c X = true -> Le4 r.a X) : fire X r = X := by
 unfold fire; split
 ·rename_i hc
  refine Le4.antisymm (fun v hv => ?_) (fun v hv => by unfold cupX; rw [hv]; rfl)
  unfold cupX at hv
  rcases Bool.or_eq_true _ _ ▸ hv with a | a
  ·exact a
  ·exact h hc v a
 ·rfl
theorem pass_clo {L : List Rule} {X : Int -> Bool} (h : Clo L X) : pass L X = X := by
 induction L with
 | nil => rfl
 | cons r L ih =>
  unfold pass
  rw [List.foldl_cons, fire_clo (h r (by simp))]
  exact ih fun q hq => h q (by simp [hq])
theorem pass_fires {L : List Rule} (hm : ∀ r ∈ L, r.mono) {X : Int -> Bool} {r : Rule} (hr : r ∈ L) (hc : r.c X = true) : Le4 r.a (pass L X) := by
 induction L generalizing X with
 | nil => cases hr
 | cons q L ih =>
  unfold pass
  rw [List.foldl_cons]
  rcases List.mem_cons.1 hr with rfl | hr
  ·refine Le4.trans (fun v hv => ?_) (pass_le (L := L))
   unfold fire; rw [if_pos hc]; unfold cupX; rw [hv, Bool.or_true]
  ·exact ih (fun r h => hm r (by simp [h])) hr (hm r (by simp [hr]) _ _ fire_le hc)
theorem clo_of_pass {L : List Rule} (hm : ∀ r ∈ L, r.mono) {X : Int -> Bool} (h : pass L X = X) : Clo L X := fun r hr hc => by
 have := pass_fires hm hr hc
 rwa [h] at this
theorem pass_least {L : List Rule} (hm : ∀ r ∈ L, r.mono) {X Z : Int -> Bool} (hz : Clo L Z) (h : Le4 X Z) : Le4 (pass L X) Z := by
 induction L generalizing X with
 | nil => exact h
 | cons q L ih =>
  unfold pass
  rw [List.foldl_cons]
  refine ih (fun r h => hm r (by simp [h])) (fun r hr => hz r (by simp [hr])) ?_
  unfold fire; split
  ·rename_i hc
   intro v hv
   unfold cupX at hv
   rcases Bool.or_eq_true _ _ ▸ hv with a | a
   ·exact h v a
   ·exact hz q (by simp) (hm q (by simp) _ _ h hc) v a
  ·exact h
theorem passes_le {L : List Rule} {n : Nat} {X : Int -> Bool} : Le4 X (passes L n X) := by
 induction n with
 | zero => exact Le4.refl
 | succ n ih => exact ih.trans pass_le
theorem passes_least {L : List Rule} (hm : ∀ r ∈ L, r.mono) {X Z : Int -> Bool} (hz : Clo L Z) (h : Le4 X Z) {n : Nat} : Le4 (passes L n X) Z := by
 induction n with
 | zero => exact h
 | succ n ih => exact pass_least hm hz ih
noncomputable def spent (L : List Rule) (X : Int -> Bool) : Nat := by
 classical exact (L.map fun r => if Le4 r.a X then 1 else 0).sum
theorem spent_le {L : List Rule} {X : Int -> Bool} : spent L X <= L.length := by
 unfold spent
 induction L with
 | nil => simp
 | cons r L ih => simp only [List.map_cons, List.sum_cons, List.length_cons]; split <;> omega
theorem spent_mono {L : List Rule} {X Y : Int -> Bool} (h : Le4 X Y) : spent L X <= spent L Y := by
 unfold spent
 induction L with
 | nil => simp
 | cons r L ih =>
  simp only [List.map_cons, List.sum_cons]
  split
  ·rename_i a
   rw [if_pos (a.trans h)]; omega
  ·split <;> omega
theorem spent_lt {L : List Rule} {X Y : Int -> Bool} (h : Le4 X Y) {r : Rule} (hr : r ∈ L) (h1 : ¬ Le4 r.a X) (h2 : Le4 r.a Y) : spent L X < spent L Y := by
 induction L with
 | nil => cases hr
 | cons q L ih =>
  have hm := spent_mono (L := L) h
  unfold spent at ih hm ⊢
  simp only [List.map_cons, List.sum_cons]
  rcases List.mem_cons.1 hr with rfl | hr
  ·rw [if_neg h1, if_pos h2]; omega
  ·have := ih hr
   split
   ·rename_i a
    rw [if_pos (a.trans h)]; omega
   ·split <;> omega
theorem spent_full {L : List Rule} {X : Int -> Bool} (h : L.length <= spent L X) : Clo L X := by
 intro r hr _
 apply Classical.byContradiction
 intro hn
 have : spent L X < spent L (fun _ => true) := spent_lt (fun _ _ => rfl) hr hn (fun _ _ => rfl)
 have := spent_le (L := L) (X := fun _ => true)
 omega
theorem passes_spent {L : List Rule} (hm : ∀ r ∈ L, r.mono) {X : Int -> Bool} {n : Nat} : Clo L (passes L n X) \/ n <= spent L (passes L n X) := by
 induction n with
 | zero => exact .inr (by omega)
 | succ n ih =>
  rw [passes]
  rcases ih with h | h
  ·rw [pass_clo h]; exact .inl h
  ·by_cases c : Clo L (passes L n X)
   ·rw [pass_clo c]; exact .inl c
   ·right
    have : ∃ r ∈ L, r.c (passes L n X) = true /\ ¬ Le4 r.a (passes L n X) := by
     apply Classical.byContradiction
     intro hn
     exact c fun r hr hc => Classical.byContradiction fun h => hn ⟨r, hr, hc, h⟩
    obtain ⟨r, hr, hc, hn⟩ := this
    have := spent_lt (pass_le (L := L)) hr hn (pass_fires hm hr hc)
    omega
theorem passes_clo {L : List Rule} (hm : ∀ r ∈ L, r.mono) {X : Int -> Bool} {n : Nat} (h : L.length <= n) : Clo L (passes L n X) := by
 rcases passes_spent hm (X := X) (n := n) with c | c
 ·exact c
 ·exact spent_full (by omega)
def cl (L : List Rule) (X : Int -> Bool) : Int -> Bool := passes L L.length X
theorem cl_uniq {L : List Rule} (hm : ∀ r ∈ L, r.mono) {X Y : Int -> Bool} (h1 : Clo L Y) (h2 : Le4 X Y) (h3 : ∀ Z, Clo L Z -> Le4 X Z -> Le4 Y Z) : Y = cl L X :=
 (h3 _ (passes_clo hm (Nat.le_refl _)) passes_le).antisymm (passes_least hm h1 h2)
theorem passes_cl {L : List Rule} (hm : ∀ r ∈ L, r.mono) {X : Int -> Bool} {n : Nat} (h : L.length <= n) : passes L n X = cl L X :=
 cl_uniq hm (passes_clo hm h) passes_le fun Z hz hx => passes_least hm hz hx
theorem passes_stop {L : List Rule} (hm : ∀ r ∈ L, r.mono) {X : Int -> Bool} {n : Nat} (h : pass L (passes L n X) = passes L n X) : passes L n X = cl L X :=
 cl_uniq hm (clo_of_pass hm h) passes_le fun Z hz hx => passes_least hm hz hx
theorem fire_in {X : Int -> Bool} {r : Rule} (h : In4 X) (g : In4 r.a) : In4 (fire X r) := by
 unfold fire; split
 ·exact cup_in h g
 ·exact h
theorem pass_in {L : List Rule} {X : Int -> Bool} (h : In4 X) (g : ∀ r ∈ L, In4 r.a) : In4 (pass L X) := by
 induction L generalizing X with
 | nil => exact h
 | cons r L ih => exact ih (fire_in h (g r (by simp))) fun q hq => g q (by simp [hq])
theorem passes_in {L : List Rule} {n : Nat} {X : Int -> Bool} (h : In4 X) (g : ∀ r ∈ L, In4 r.a) : In4 (passes L n X) := by
 induction n with
 | zero => exact h
 | succ n ih => exact pass_in ih g
theorem pass_take {L : List Rule} {X : Int -> Bool} {i : Nat} (h : i < L.length) : pass (L.take (i + 1)) X = fire (pass (L.take i) X) L[i] := by
 unfold pass; rw [take_succ' h, List.foldl_append]; rfl
theorem nfl_inj {X Y : Int -> Bool} (hx : In4 X) (hy : In4 Y) (h : nfl X = nfl Y) : X = Y := by rw [<- nfl_has hx, <- nfl_has hy, h]
theorem nfl_len_lt {X Y : Int -> Bool} (h : Le4 X Y) (he : (nfl Y).length <= (nfl X).length) (hy : In4 Y) : X = Y := by
 have hx : In4 X := fun v hv => hy v (h v hv)
 refine nfl_inj hx hy ?_
 have h0 := h 0
 have h1 := h 1
 have h2 := h 2
 have h3 := h 3
 unfold nfl at he ⊢
 simp only [List.range, List.range.loop, List.flatMap_cons, List.flatMap_nil, List.append_nil, List.length_append, Int.ofNat_zero, Int.natCast_zero, Int.natCast_one] at he ⊢
 have e2 : ((2 : Nat) : Int) = 2 := rfl
 have e3 : ((3 : Nat) : Int) = 3 := rfl
 rw [e2, e3] at he ⊢
 generalize X 0 = a0 at *
 generalize X 1 = a1 at *
 generalize X 2 = a2 at *
 generalize X 3 = a3 at *
 generalize Y 0 = b0 at *
 generalize Y 1 = b1 at *
 generalize Y 2 = b2 at *
 generalize Y 3 = b3 at *
 revert h0 h1 h2 h3 he
 cases a0 <;> cases a1 <;> cases a2 <;> cases a3 <;> cases b0 <;> cases b1 <;> cases b2 <;> cases b3 <;> simp
end
section
def FitsQ (q : Query) : Prop := q.Atoms.length <= 1048576 /\ (∀ a ∈ q.Atoms, a.Terms.length <= 1048576) /\ q.Free.length <= 1048576
def vAt (l : List Relation) (n : Int) (before : List Atom) (a : Atom) : Bool :=
 btw a.Relation 0 (l.length - 1) && (decide ((a.Terms.length : Int) = arity l a.Relation) && ((a.Terms.all fun v => btw v (-10) (n - 1)) && !(before.any fun b => decide (b.Relation = a.Relation))))
def vAtom (l : List Relation) (q : Query) (i : Nat) : Bool := match q.Atoms[i]? with
 | none => true
 | some a => vAt l q.VariableCount (q.Atoms.take i) a
def occ (az : List Atom) : Int -> Bool := fun v => az.any fun a => a.Terms.contains v
def vQuery (l : List Relation) (q : Query) : Bool :=
 vRels l && (btw q.VariableCount 0 4 && (btw q.Atoms.length 1 3 && (((List.range q.Atoms.length).all (vAtom l q)) && (((List.range 4).all fun v => decide (q.VariableCount <= ((v : Nat) : Int)) || occ q.Atoms ((v : Nat) : Int)) && asc q.VariableCount q.Free))))
theorem vAtom_get {l : List Relation} {q : Query} {i : Nat} (h : i < q.Atoms.length) : vAtom l q i = vAt l q.VariableCount (q.Atoms.take i) q.Atoms[i] := by
 unfold vAtom; rw [zE h]
theorem all_false {n i : Nat} {p : Nat -> Bool} (h : i < n) (hp : p i = false) : (List.range n).all p = false := by
 rw [Bool.eq_false_iff]
 intro ha
 have := List.all_eq_true.1 ha i (List.mem_range.2 h)
 rw [hp] at this; cases this
theorem occ_succ {az : List Atom} {i : Nat} (h : i < az.length) {v : Int} : occ (az.take (i + 1)) v = (occ (az.take i) v || az[i].Terms.contains v) := by
 unfold occ; rw [take_succ' h, List.any_append]; simp
theorem has_succ {t : List Int} {k : Nat} (h : k < t.length) {v : Int} : (t.take (k + 1)).contains v = ((t.take k).contains v || decide (v = t[k])) := by
 rw [Bool.eq_iff_iff, List.contains_iff_mem, take_succ' h, List.mem_append, List.mem_singleton, Bool.or_eq_true, List.contains_iff_mem, decide_eq_true_eq]
section
variable {l : List Relation} {q : Query}
theorem specTerms {a : Atom} {mt : List Bool} {X : Int -> Bool} (ht : a.Terms.length <= 1048576) (hn : 0 <= q.VariableCount /\ q.VariableCount <= 4) (hm : mt.length = 4) (hx : ∀ v, v < 4 -> mt[v]? = some (X ((v : Nat) : Int))) :
  Ens (iter (f29_4 q a) (mt, 0)) fun o => match o with
   | .inl m => (a.Terms.all fun v => btw v (-10) (q.VariableCount - 1)) = true /\ m.length = 4 /\ ∀ v, v < 4 -> m[v]? = some (X ((v : Nat) : Int) || a.Terms.contains ((v : Nat) : Int))
   | .inr b => b = false /\ (a.Terms.all fun v => btw v (-10) (q.VariableCount - 1)) = false := by
 refine iter_up (f := f29_4 q a) a.Terms.length (fun k s => s.2 = (k : Int) /\ ((a.Terms.take k).all fun v => btw v (-10) (q.VariableCount - 1)) = true /\ s.1.length = 4 /\ ∀ v, v < 4 -> s.1[v]? = some (X ((v : Nat) : Int) || (a.Terms.take k).contains ((v : Nat) : Int))) _ (fun k s hk hI => ?_) (fun s hI => ?_) (mt, 0) ⟨rfl, by simp, hm, fun v hv => by simp [hx v hv]⟩
 ·obtain ⟨m, x⟩ := s
  obtain ⟨e1, e2, e3, e4⟩ := hI
  dsimp only at e1 e3 e4
  subst e1
  simp only [f29_4]
  rw [if_pos (by omega), ix_nat hk, bS, w64_of (by omega), specIn, bS]
  cases hb : btw a.Terms[k] (-10) (q.VariableCount - 1)
  ·refine ⟨_, rfl, rfl, ?_⟩
   rw [Bool.eq_false_iff]
   intro ha
   have := List.all_eq_true.1 ha _ (List.getElem_mem hk)
   rw [hb] at this; cases this
  ·have hb' := hb
   unfold btw at hb'; simp only [Bool.and_eq_true, decide_eq_true_eq] at hb'
   have ha : ((a.Terms.take (k + 1)).all fun v => btw v (-10) (q.VariableCount - 1)) = true := by
    rw [take_succ' hk, List.all_append, e2]; simp [hb]
   simp only [not_true_eq_false, if_false]
   rw [w64_succ (by omega)]
   by_cases c : a.Terms[k] >= 0
   ·have hi : ix m a.Terms[k] = some (m[a.Terms[k].toNat]'(by omega)) := by rw [ix_of c, zE (by omega)]
    rw [if_pos c, hi]
    simp only [bS]
    refine ⟨_, rfl, rfl, ha, by simp [e3], fun v hv => ?_⟩
    dsimp only
    rw [List.getElem?_set]
    by_cases e : a.Terms[k].toNat = v
    ·rw [if_pos e, if_pos (by omega)]
     have : ((v : Nat) : Int) = a.Terms[k] := by omega
     rw [has_succ hk]
     simp [this]
    ·rw [if_neg e, e4 v hv, has_succ hk]
     have : ¬ ((v : Nat) : Int) = a.Terms[k] := by omega
     simp [this]
   ·rw [if_neg c]
    simp only [bS]
    refine ⟨_, rfl, rfl, ha, e3, fun v hv => ?_⟩
    dsimp only
    rw [e4 v hv, has_succ hk]
    have : ¬ ((v : Nat) : Int) = a.Terms[k] := by omega
    simp [this]
 ·obtain ⟨m, x⟩ := s
  obtain ⟨e1, e2, e3, e4⟩ := hI
  dsimp only at e1 e3 e4
  subst e1
  rw [List.take_of_length_le (Nat.le_refl _)] at e2 e4
  simp only [f29_4]
  rw [if_neg (by omega)]
  exact ⟨_, rfl, e2, e3, e4⟩
theorem specEarlier {a : Atom} {i : Nat} (hi : i <= q.Atoms.length) (hq : q.Atoms.length <= 1048576) : iter (f29_3 q (i : Int) a) 0 = some (if ((q.Atoms.take i).any fun b => decide (b.Relation = a.Relation)) = true then .inr false else .inl ()) := by
 have e : (q.Atoms.take i).length = i := by simp; omega
 refine iter_ex (q.Atoms.take i) (fun b => decide (b.Relation = a.Relation)) false (fun k hk => ?_) ?_
 ·rw [e] at hk
  simp only [f29_3]
  rw [if_pos (by omega), ix_nat (by omega : k < q.Atoms.length), bS, w64_succ (by omega), List.getElem_take]
  by_cases c : q.Atoms[k].Relation = a.Relation
  ·rw [if_pos c, if_pos (by simp [c])]
  ·rw [if_neg c, if_neg (by simp [c])]
 ·simp only [f29_3]
  rw [e, if_neg (by omega)]
theorem specAtoms (hl : Big l.length) (hq : FitsQ q) (hn : 0 <= q.VariableCount /\ q.VariableCount <= 4) :
  Ens (iter (f29_0 l q) ([false, false, false, false], 0)) fun o => match o with
   | .inl m => (List.range q.Atoms.length).all (vAtom l q) = true /\ m.length = 4 /\ ∀ v, v < 4 -> m[v]? = some (occ q.Atoms ((v : Nat) : Int))
   | .inr b => b = false /\ (List.range q.Atoms.length).all (vAtom l q) = false := by
 obtain ⟨q1, q2, q3⟩ := hq
 refine iter_up (f := f29_0 l q) q.Atoms.length (fun i s => s.2 = (i : Int) /\ (∀ j, j < i -> vAtom l q j = true) /\ s.1.length = 4 /\ ∀ v, v < 4 -> s.1[v]? = some (occ (q.Atoms.take i) ((v : Nat) : Int))) _ (fun i s hi hI => ?_) (fun s hI => ?_) _ ⟨rfl, fun j hj => by omega, rfl, fun v hv => ?_⟩
 ·obtain ⟨m, x⟩ := s
  obtain ⟨e1, e2, e3, e4⟩ := hI
  dsimp only at e1 e3 e4
  subst e1
  have hv := vAtom_get (l := l) hi
  simp only [f29_0]
  rw [if_pos (by omega), ix_nat hi, bS, w64_of (by omega), specIn, bS]
  have ht := q2 _ (List.getElem_mem hi)
  unfold vAt at hv
  cases hb : btw q.Atoms[i].Relation 0 (l.length - 1)
  ·rw [hb] at hv
   exact ⟨_, rfl, rfl, all_false hi (by rw [hv]; rfl)⟩
  ·obtain ⟨x, h1, _, h2, _⟩ := ix_rel hb
   rw [hb] at hv
   rw [h1]
   simp only [not_true_eq_false, if_false, bS]
   rw [h2]
   by_cases ha : (q.Atoms[i].Terms.length : Int) = arity l q.Atoms[i].Relation
   ·simp only [ha, not_true_eq_false, if_false, bS, ne_eq, decide_false, Bool.false_eq_true]
    rw [specEarlier (by omega) q1]
    cases hd : (q.Atoms.take i).any fun b => decide (b.Relation = q.Atoms[i].Relation)
    ·simp only [Bool.false_eq_true, if_false, bS]
     obtain ⟨o, ho, hQ⟩ := specTerms (q := q) (a := q.Atoms[i]) (mt := m) (X := occ (q.Atoms.take i)) ht hn e3 e4
     rw [ho]
     cases o with
     | inl m' =>
      obtain ⟨g1, g2, g3⟩ := hQ
      simp only [bS]
      rw [w64_succ (by omega)]
      refine ⟨_, rfl, rfl, fun j hj => ?_, g2, fun v hv => ?_⟩
      ·by_cases e : j = i
       ·subst e; rw [hv, ha, g1, hd]; simp
       ·exact e2 j (by omega)
      ·rw [g3 v hv, occ_succ hi]
     | inr b =>
      obtain ⟨rfl, g⟩ := hQ
      exact ⟨_, rfl, rfl, all_false hi (by rw [hv, g]; simp)⟩
    ·simp only [if_true, bS]
     exact ⟨_, rfl, rfl, all_false hi (by rw [hv, hd]; simp)⟩
   ·simp only [ha, not_true_eq_false, not_false_eq_true, if_false, bS, ne_eq, decide_true, if_true]
    exact ⟨_, rfl, rfl, all_false hi (by rw [hv]; simp [ha])⟩
 ·obtain ⟨m, x⟩ := s
  obtain ⟨e1, e2, e3, e4⟩ := hI
  dsimp only at e1 e3 e4
  subst e1
  rw [List.take_of_length_le (Nat.le_refl _)] at e4
  simp only [f29_0]
  rw [if_neg (by omega)]
  exact ⟨_, rfl, List.all_eq_true.2 fun j hj => e2 j (List.mem_range.1 hj), e3, e4⟩
 ·simp only [List.take_zero, occ, List.any_nil]
  rcases v with _ | _ | _ | _ | v
  ·rfl
  ·rfl
  ·rfl
  ·rfl
  ·omega
theorem specQ (hl : Big l.length) (hq : FitsQ q) : f29 l q = some (vQuery l q) := by
 unfold f29 vQuery
 rw [specRels hl, bS]
 cases vRels l
 ·simp
 simp only [not_true_eq_false, if_false, specIn, bS, Bool.true_and]
 cases hc : btw q.VariableCount 0 4
 ·simp
 cases hn : btw (q.Atoms.length : Int) 1 3
 ·simp
 have hc' := hc
 unfold btw at hc'; simp only [Bool.and_eq_true, decide_eq_true_eq] at hc'
 simp only [not_true_eq_false, if_false, bS, decide_false, Bool.false_eq_true, Bool.true_and]
 rw [mkl_ok (by omega) (by omega) (by omega), bS, show List.replicate (4 : Int).toNat false = [false, false, false, false] from rfl]
 obtain ⟨o, ho, hQ⟩ := specAtoms hl hq hc'
 rw [ho]
 cases o with
 | inr b => obtain ⟨rfl, g⟩ := hQ; rw [g]; simp
 | inl m =>
  obtain ⟨g1, g2, g3⟩ := hQ
  rw [g1]
  simp only [bS, Bool.true_and]
  rw [iter_ex (List.range q.VariableCount.toNat) (fun v => !occ q.Atoms ((v : Nat) : Int)) false (fun v hv => by
   simp only [List.length_range] at hv
   simp only [List.getElem_range]
   simp only [f29_1]
   rw [if_pos (by omega), ix_cast, g3 v (by omega), bS, w64_succ (by omega)]
   cases occ q.Atoms ((v : Nat) : Int) <;> simp) (by
   simp only [f29_1, List.length_range]
   rw [if_neg (by omega)])]
  have ea : ((List.range 4).all fun v => decide (q.VariableCount <= ((v : Nat) : Int)) || occ q.Atoms ((v : Nat) : Int)) = !((List.range q.VariableCount.toNat).any fun v => !occ q.Atoms ((v : Nat) : Int)) := by
   rw [any_not, Bool.not_not, Bool.eq_iff_iff, List.all_eq_true, List.all_eq_true]
   simp only [List.mem_range, Bool.or_eq_true, decide_eq_true_eq]
   constructor
   ·intro h v hv
    exact (h v (by omega)).resolve_left (by omega)
   ·intro h v hv
    by_cases c : q.VariableCount <= ((v : Nat) : Int)
    ·exact .inl c
    ·exact .inr (h v (by omega))
  rw [ea]
  cases (List.range q.VariableCount.toNat).any fun v => !occ q.Atoms ((v : Nat) : Int)
  ·simp only [Bool.false_eq_true, if_false, bS, Bool.not_false, Bool.true_and]
   have hF := hq.2.2
   rw [iter_adj (fun v => btw v 0 (q.VariableCount - 1)) (fun a b => decide (a < b)) q.Free false (fun i hi => by
    simp only [f29_2]
    rw [if_pos (by omega), ix_nat hi, w64_succ (by omega), w64_of (n := q.VariableCount - 1) (by omega)]
    simp only [bS, specIn]
    cases btw q.Free[i] 0 (q.VariableCount - 1)
    ·simp
    ·by_cases h0 : i = 0
     ·subst h0; simp
     ·have e : ix q.Free (w64 ((i : Int) - 1)) = some (q.Free[i - 1]'(by omega)) := by rw [w64_of (by omega), show (i : Int) - 1 = ((i - 1 : Nat) : Int) by omega, ix_nat (by omega)]
      simp only [e]
      have : 0 < i := by omega
      by_cases hb : q.Free[i - 1]'(by omega) < q.Free[i]
      ·simp [h0, this, hb, Int.not_le.2 hb]
      ·simp [h0, this, hb, Int.not_lt.1 hb]) (by
    simp only [f29_2]
    rw [if_neg (by omega)])]
   unfold asc
   cases good (fun v => btw v 0 (q.VariableCount - 1)) (fun a b => decide (a < b)) q.Free <;> simp
  ·simp
theorem containsA {s : List Atom} {f : Atom -> Option Bool} {p : Atom -> Bool} (h : Big s.length) (hf : ∀ a ∈ s, f a = some (p a)) : f78 s f = some (s.any p) := by
 unfold f78 f98
 obtain ⟨o, h1, h2⟩ := iter_idx (f := f98_0 s f) s p (fun i hi => by
  simp only [f98_0]
  rw [if_pos (by omega), ix_nat hi, w64_succ (by omega)]
  simp only [bS, hf _ (List.getElem_mem hi)]
  split <;> rfl) (by
  simp only [f98_0]
  rw [if_neg (by omega)])
 rw [h1]
 cases o with
 | inl _ => dsimp only at h2; rw [h2]; rfl
 | inr x => dsimp only at h2; rw [h2.2]; simp; omega
theorem impAtoms (hl : Big l.length) (hv : vRels l = true) (hq : FitsQ q) (hn : 0 <= q.VariableCount /\ q.VariableCount <= 4) :
  Ens (iter (f49_0 l q) ([], 0)) fun o => match o with
   | .inl m => (List.range q.Atoms.length).all (vAtom l q) = true /\ m = nfl (occ q.Atoms)
   | .inr b => b = false /\ (List.range q.Atoms.length).all (vAtom l q) = false := by
 obtain ⟨q1, q2, q3⟩ := hq
 refine iter_up (f := f49_0 l q) q.Atoms.length (fun i s => s.2 = (i : Int) /\ (∀ j, j < i -> vAtom l q j = true) /\ s.1 = nfl (occ (q.Atoms.take i))) _ (fun i s hi hI => ?_) (fun s hI => ?_) _ ⟨rfl, fun j hj => by omega, nfl_nil.symm⟩
 ·obtain ⟨m, x⟩ := s
  obtain ⟨e1, e2, e3⟩ := hI
  dsimp only at e1 e3
  subst e1; subst e3
  have hva := vAtom_get (l := l) hi
  simp only [f49_0]
  rw [if_pos (by omega), ix_nat hi, bS, w64_of (by omega), impIn, bS]
  have ht := q2 _ (List.getElem_mem hi)
  unfold vAt at hva
  cases hb : btw q.Atoms[i].Relation 0 (l.length - 1)
  ·rw [hb] at hva
   exact ⟨_, rfl, rfl, all_false hi (by rw [hva]; rfl)⟩
  ·obtain ⟨x, h1, _, h2, _⟩ := ix_rel hb
   rw [hb] at hva
   rw [h1]
   simp only [not_true_eq_false, if_false, bS]
   rw [h2]
   by_cases ha : (q.Atoms[i].Terms.length : Int) = arity l q.Atoms[i].Relation
   ·have h3 := vRels_arity hv hb
    have e0 : (q.Atoms.take ((i : Nat) : Int).toNat).drop (0 : Int).toNat = q.Atoms.take i := by simp
    rw [if_neg (by simp [ha]), cutL_ok (by omega) (by omega) (by omega), e0, bS]
    rw [containsA (p := fun b => decide (b.Relation = q.Atoms[i].Relation)) (by simp; omega) (fun b _ => by
     unfold f79
     exact congrArg some (decide_eq_decide.2 ⟨fun h => by first | exact h | exact h.symm, fun h => by first | exact h | exact h.symm⟩))]
    cases hd : (q.Atoms.take i).any fun b => decide (b.Relation = q.Atoms[i].Relation)
    ·simp only [Bool.false_eq_true, if_false, bS]
     rw [iter_ex q.Atoms[i].Terms (fun v => !btw v (-10) (q.VariableCount - 1)) false (fun k hk => by
      simp only [f49_1]
      rw [if_pos (by omega), ix_nat hk, w64_succ (by omega), w64_of (n := q.VariableCount - 1) (by omega)]
      simp only [bS, impIn]
      cases btw q.Atoms[i].Terms[k] (-10) (q.VariableCount - 1) <;> simp) (by
      simp only [f49_1]
      rw [if_neg (by omega)]), any_not]
     cases g1 : q.Atoms[i].Terms.all fun v => btw v (-10) (q.VariableCount - 1)
     ·simp only [Bool.not_false, if_true, bS]
      exact ⟨_, rfl, rfl, all_false hi (by rw [hva, g1]; simp)⟩
     ·simp only [Bool.not_true, Bool.false_eq_true, if_false, bS]
      have n1 := nfl_len (X := occ (q.Atoms.take i))
      have n2 := nfl_len (X := q.Atoms[i].Terms.contains)
      rw [impVars (by omega), bS, avars_nfl, unionI (by omega) nfl_in nfl_in, bS, w64_succ (by omega)]
      refine ⟨_, rfl, rfl, fun j hj => ?_, ?_⟩
      ·by_cases e : j = i
       ·subst e; rw [hva, ha, g1, hd]; simp
       ·exact e2 j (by omega)
      ·refine nfl_congr fun v hv => ?_
       rw [occ_succ hi]
       unfold cupX
       congr 1
       ·rw [Bool.eq_iff_iff, List.contains_iff_mem, nfl_mem]; exact ⟨fun h => h.1, fun h => ⟨h, hv⟩⟩
       ·rw [Bool.eq_iff_iff, List.contains_iff_mem, nfl_mem]; exact ⟨fun h => h.1, fun h => ⟨h, hv⟩⟩
    ·simp only [if_true, bS]
     exact ⟨_, rfl, rfl, all_false hi (by rw [hva, hd]; simp)⟩
   ·rw [if_pos ha]
    exact ⟨_, rfl, rfl, all_false hi (by rw [hva]; simp [ha])⟩
 ·obtain ⟨m, x⟩ := s
  obtain ⟨e1, e2, e3⟩ := hI
  dsimp only at e1 e3
  subst e1; subst e3
  simp only [f49_0]
  rw [if_neg (by omega)]
  exact ⟨_, rfl, List.all_eq_true.2 fun j hj => e2 j (List.mem_range.1 hj), by rw [List.take_of_length_le (Nat.le_refl _)]⟩
theorem nfl_count {X : Int -> Bool} {n : Int} (h0 : 0 <= n) (h4 : n <= 4) (h : ∀ v, 0 <= v -> v < 4 -> X v = true -> v < n) : decide (((nfl X).length : Int) = n) = ((List.range 4).all fun v => decide (n <= ((v : Nat) : Int)) || X ((v : Nat) : Int)) := by
 have h0' := h 0
 have h1 := h 1
 have h2 := h 2
 have h3 := h 3
 unfold nfl
 simp only [List.range, List.range.loop, List.flatMap_cons, List.flatMap_nil, List.append_nil, List.length_append, Int.ofNat_zero, Int.natCast_zero, Int.natCast_one, List.all_cons, List.all_nil]
 have e2 : ((2 : Nat) : Int) = 2 := rfl
 have e3 : ((3 : Nat) : Int) = 3 := rfl
 rw [e2, e3]
 generalize X 0 = a0 at *
 generalize X 1 = a1 at *
 generalize X 2 = a2 at *
 generalize X 3 = a3 at *
 have : n = 0 \/ n = 1 \/ n = 2 \/ n = 3 \/ n = 4 := by omega
 rcases this with rfl | rfl | rfl | rfl | rfl <;> revert h0' h1 h2 h3 <;> cases a0 <;> cases a1 <;> cases a2 <;> cases a3 <;> simp
theorem impQ (hl : Big l.length) (hq : FitsQ q) : f49 l q = some (vQuery l q) := by
 unfold f49 vQuery
 rw [impRels hl, bS]
 cases hv : vRels l
 ·simp
 simp only [not_true_eq_false, if_false, impIn, bS, Bool.true_and]
 cases hc : btw q.VariableCount 0 4
 ·simp
 cases hn : btw (q.Atoms.length : Int) 1 3
 ·simp
 have hc' := hc
 unfold btw at hc'; simp only [Bool.and_eq_true, decide_eq_true_eq] at hc'
 have hF := hq.2.2
 have eS := impSet (l := q.Free) (n := q.VariableCount.toNat) (by omega) (by omega)
 rw [Int.toNat_of_nonneg hc'.1] at eS
 simp only [not_true_eq_false, if_false, bS, Bool.false_eq_true, Bool.true_and, eS]
 cases asc q.VariableCount q.Free
 ·simp
 simp only [not_true_eq_false, decide_false, if_false, bS, Bool.false_eq_true, Bool.and_true]
 obtain ⟨o, ho, hQ⟩ := impAtoms hl hv hq hc'
 rw [ho]
 cases o with
 | inr b => obtain ⟨rfl, g⟩ := hQ; rw [g]; simp
 | inl m =>
  obtain ⟨g1, rfl⟩ := hQ
  rw [g1]
  simp only [bS, Bool.true_and]
  congr 1
  refine nfl_count hc'.1 hc'.2 fun v h0 h4 hx => ?_
  unfold occ at hx
  obtain ⟨a, ha, hx⟩ := List.any_eq_true.1 hx
  obtain ⟨i, hi, rfl⟩ := List.mem_iff_getElem.1 ha
  have := List.all_eq_true.1 g1 i (List.mem_range.2 hi)
  rw [vAtom_get hi] at this
  unfold vAt at this
  simp only [Bool.and_eq_true] at this
  have := List.all_eq_true.1 this.2.2.1 v (by simpa using hx)
  unfold btw at this; simp only [Bool.and_eq_true, decide_eq_true_eq] at this
  omega
end
end
section
theorem vq_len {l : List Relation} {q : Query} (h : vQuery l q = true) : q.Atoms.length <= 3 /\ 1 <= q.Atoms.length := by
 unfold vQuery at h
 simp only [Bool.and_eq_true, btw, decide_eq_true_eq] at h
 omega
theorem vq_vars {l : List Relation} {q : Query} (h : vQuery l q = true) : 0 <= q.VariableCount /\ q.VariableCount <= 4 := by
 unfold vQuery at h
 simp only [Bool.and_eq_true, btw, decide_eq_true_eq] at h
 omega
theorem vq_atom {l : List Relation} {q : Query} (h : vQuery l q = true) {k : Nat} (hk : k < q.Atoms.length) : (q.Atoms[k].Terms.length : Int) = arity l q.Atoms[k].Relation /\ ∀ t ∈ q.Atoms[k].Terms, -10 <= t /\ t < q.VariableCount := by
 unfold vQuery at h
 simp only [Bool.and_eq_true] at h
 have h1 := List.all_eq_true.1 h.2.2.2.1 k (List.mem_range.2 hk)
 rw [vAtom_get hk] at h1
 unfold vAt at h1
 simp only [Bool.and_eq_true, decide_eq_true_eq] at h1
 refine ⟨h1.2.1, fun t ht => ?_⟩
 have := List.all_eq_true.1 h1.2.2.1 t ht
 simp only [btw, Bool.and_eq_true, decide_eq_true_eq] at this
 omega
end
section
end
section
theorem digit {n : Int} (h0 : 0 <= n) (h9 : n <= 9) : f94 n = some [UInt8.ofNat (48 + n.toNat)] := by
 have : n = 0 \/ n = 1 \/ n = 2 \/ n = 3 \/ n = 4 \/ n = 5 \/ n = 6 \/ n = 7 \/ n = 8 \/ n = 9 := by omega
 unfold f94
 rcases this with rfl | rfl | rfl | rfl | rfl | rfl | rfl | rfl | rfl | rfl
 ·rfl
 ·rw [if_neg (by decide), iter_of (f := f94_0) (n := 2) (r := [UInt8.ofNat (48 + 1)]) (by decide)]; rfl
 ·rw [if_neg (by decide), iter_of (f := f94_0) (n := 2) (r := [UInt8.ofNat (48 + 2)]) (by decide)]; rfl
 ·rw [if_neg (by decide), iter_of (f := f94_0) (n := 2) (r := [UInt8.ofNat (48 + 3)]) (by decide)]; rfl
 ·rw [if_neg (by decide), iter_of (f := f94_0) (n := 2) (r := [UInt8.ofNat (48 + 4)]) (by decide)]; rfl
 ·rw [if_neg (by decide), iter_of (f := f94_0) (n := 2) (r := [UInt8.ofNat (48 + 5)]) (by decide)]; rfl
 ·rw [if_neg (by decide), iter_of (f := f94_0) (n := 2) (r := [UInt8.ofNat (48 + 6)]) (by decide)]; rfl
 ·rw [if_neg (by decide), iter_of (f := f94_0) (n := 2) (r := [UInt8.ofNat (48 + 7)]) (by decide)]; rfl
 ·rw [if_neg (by decide), iter_of (f := f94_0) (n := 2) (r := [UInt8.ofNat (48 + 8)]) (by decide)]; rfl
 ·rw [if_neg (by decide), iter_of (f := f94_0) (n := 2) (r := [UInt8.ofNat (48 + 9)]) (by decide)]; rfl
def ftm (t : Int) : List UInt8 := if t < 0 then (if -10 <= t then [UInt8.ofNat (48 + (-1 - t).toNat)] else []) else (([120, 121, 122, 119] : List UInt8).drop t.toNat).take 1
theorem fterm {t : Int} (h0 : -1000 <= t) (h1 : t <= 1000) : f69 t = some (ftm t) := by
 unfold f69 f93 ftm
 by_cases c : t < 0
 ·rw [if_neg (by omega), w64_of (n := -1 - t) (by omega), specIn, bS, bS, if_pos c]
  by_cases c2 : -10 <= t
  ·rw [show btw (-1 - t) 0 9 = true by simp [btw]; omega, if_neg (by simp), bS, if_pos rfl, digit (by omega) (by omega), if_pos c2]; rfl
  ·rw [show btw (-1 - t) 0 9 = false by simp [btw]; omega, if_pos (by simp), bS, if_neg (by simp), specIn, bS, show btw t 0 3 = false by simp [btw]; omega, if_pos (by simp), if_neg c2]
 ·rw [if_pos (by omega), bS, if_pos rfl, bS, if_neg (by simp), specIn, bS, if_neg c]
  by_cases c2 : t <= 3
  ·rw [show btw t 0 3 = true by simp [btw]; omega, if_neg (by simp), w64_of (by omega), cutL_ok (by omega) (by omega) (by simp; omega), bS]
   have : t = 0 \/ t = 1 \/ t = 2 \/ t = 3 := by omega
   rcases this with rfl | rfl | rfl | rfl <;> rfl
  ·rw [show btw t 0 3 = false by simp [btw]; omega, if_pos (by simp), List.drop_of_length_le (by simp; omega)]; rfl
theorem ftm_len {t : Int} : (ftm t).length <= 1 := by
 unfold ftm
 split
 ·split <;> simp
 ·rw [List.length_take]; omega
def ptm (s : List UInt8) : Int × Bool := match (List.range 14).find? fun k => decide (ftm ((k : Nat) - 10) = s) with
 | some k => ((k : Nat) - 10, true)
 | none => (0, false)
theorem pterm {s : List UInt8} : f133 s = some (ptm s) := by
 unfold f133 ptm
 obtain ⟨o, h1, h2⟩ := iter_up (f := f133_0 s) 14 (fun i t => t = ((i : Nat) : Int) - 10 /\ ∀ j, j < i -> ftm ((j : Nat) - 10) ≠ s)
  (fun o => o = (match (List.range 14).find? fun k => decide (ftm ((k : Nat) - 10) = s) with | some k => .inr (((k : Nat) : Int) - 10, true) | none => .inl ())) (fun i t hi ⟨e, hp⟩ => by
   subst e
   simp only [f133_0]
   rw [if_pos (by omega), fterm (by omega) (by omega), bS]
   by_cases c : ftm ((i : Nat) - 10) = s
   ·rw [if_pos c]
    refine ⟨_, rfl, ?_⟩
    dsimp only
    have : (List.range 14).find? (fun k => decide (ftm ((k : Nat) - 10) = s)) = some i := by
     rw [List.find?_range_eq_some]
     exact ⟨by simpa using c, by simpa using hi, fun j hj => by simpa using hp j hj⟩
    rw [this]
   ·rw [if_neg c, w64_of (by omega)]
    refine ⟨_, rfl, by omega, fun j hj => ?_⟩
    by_cases e : j = i
    ·subst e; exact c
    ·exact hp j (by omega)) (fun t ⟨e, hp⟩ => by
   subst e
   simp only [f133_0]
   rw [if_neg (by omega)]
   refine ⟨_, rfl, ?_⟩
   have : (List.range 14).find? (fun k => decide (ftm ((k : Nat) - 10) = s)) = none := by
    rw [List.find?_eq_none]
    intro k hk
    have := hp k (List.mem_range.1 hk)
    simpa using this
   rw [this]) (-10) ⟨by simp, fun j hj => by omega⟩
 rw [h1, h2]
 cases (List.range 14).find? fun k => decide (ftm ((k : Nat) - 10) = s) <;> rfl
theorem ptm_rng {s : List UInt8} : -10 <= (ptm s).1 /\ (ptm s).1 <= 3 := by
 unfold ptm
 split
 ·rename_i k h
  have := List.mem_range.1 (List.mem_of_find?_eq_some h)
  simp only; omega
 ·simp
end
section
theorem cutOk {s : List UInt8} {sign : Int} (h : s.length <= 1000) : Ens (f132 s sign) fun r => r.length <= s.length + 1 /\ ∀ x ∈ r, x.length <= s.length := by
 unfold f132
 refine Ens.bind (Q := fun o : List (List UInt8) × Int => o.1.length <= s.length /\ (∀ x ∈ o.1, x.length <= s.length) /\ 0 <= o.2 /\ o.2 <= s.length) ?_ fun o ⟨h1, h2, h3, h4⟩ => ?_
 ·refine iter_up (f := f132_0 s sign) s.length (fun i t => t.1.length <= i /\ (∀ x ∈ t.1, x.length <= s.length) /\ 0 <= t.2.1 /\ t.2.1 <= i /\ t.2.2 = (i : Int)) _ (fun i t hi ⟨g1, g2, g3, g4, g5⟩ => ?_) (fun t ⟨g1, g2, g3, g4, g5⟩ => ?_) ([], 0, 0) ⟨by simp, by simp, by simp, by simp, rfl⟩
  ·obtain ⟨out, from_, k⟩ := t
   simp only at g1 g2 g3 g4 g5
   subst g5
   simp only [f132_0]
   rw [if_pos (by omega), ix_nat hi, bS, w64_succ (by omega)]
   by_cases c : (s[i].toNat : Int) = sign
   ·rw [if_pos c, cutL_ok g3 g4 (by omega), bS, app_fits (by simp; omega), bS]
    refine ⟨_, rfl, by simp; omega, fun x hx => ?_, by simp only; omega, by simp only; omega, rfl⟩
    rcases List.mem_append.1 hx with hx | hx
    ·exact g2 x hx
    ·rw [List.mem_singleton] at hx
     subst hx
     rw [List.length_drop, List.length_take]; omega
   ·rw [if_neg c]
    exact ⟨_, rfl, by simp only; omega, g2, g3, by simp only; omega, rfl⟩
  ·obtain ⟨out, from_, k⟩ := t
   simp only at g1 g2 g3 g4 g5
   subst g5
   simp only [f132_0]
   rw [if_neg (by omega)]
   exact ⟨_, rfl, g1, g2, g3, g4⟩
 ·obtain ⟨out, from_⟩ := o
  simp only at h1 h2 h3 h4 ⊢
  rw [cutL_ok h3 h4 (by omega), bS, app_fits (by simp; omega), bS]
  refine Ens.of ⟨by simp; omega, fun x hx => ?_⟩
  rcases List.mem_append.1 hx with hx | hx
  ·exact h2 x hx
  ·rw [List.mem_singleton] at hx
   subst hx
   rw [List.length_drop, List.length_take]; omega
theorem relIdx {l : List Relation} {s : List UInt8} (h : l.length <= 1000) : Ens (f134 l s) fun r => -1 <= r /\ r < l.length := by
 unfold f134
 refine Ens.bind (Q := fun o => match o with | .inl _ => True | .inr r => -1 <= r /\ r < l.length) ?_ fun o ho => by
  cases o with
  | inl _ => exact Ens.of ⟨by omega, by omega⟩
  | inr r => exact Ens.of ho
 refine iter_up (f := f134_0 l s) l.length (fun i t => t = (i : Int)) _ (fun i t hi e => ?_) (fun t e => ?_) 0 rfl
 ·subst e
  simp only [f134_0]
  rw [if_pos (by omega), ix_nat hi, bS, w64_succ (by omega)]
  by_cases c : l[i].Name = s
  ·rw [if_pos c]; exact ⟨_, rfl, by omega, by omega⟩
  ·rw [if_neg c]; exact ⟨_, rfl, rfl⟩
 ·subst e
  simp only [f134_0]
  rw [if_neg (by omega)]; exact ⟨_, rfl, trivial⟩
def QS (q : Query) : Prop := 1 <= q.Atoms.length /\ q.Atoms.length <= 40 /\ (∀ a ∈ q.Atoms, 1 <= a.Terms.length /\ a.Terms.length <= 40) /\ q.Free.length <= 20 /\ 0 <= q.VariableCount /\ q.VariableCount <= 20
def QM (q : Query) : Prop := q.Atoms.length <= 40 /\ (∀ a ∈ q.Atoms, a.Terms.length <= 40) /\ q.Free.length <= 40
theorem QM.fits {q : Query} (h : QM q) : FitsQ q := ⟨by have := h.1; omega, fun a ha => by have := h.2.1 a ha; omega, by have := h.2.2; omega⟩
theorem vq_qs {l : List Relation} {q : Query} (h : vQuery l q = true) : QS q := by
 have hl := vq_len h
 have hv := vq_vars h
 have h0 := h
 unfold vQuery at h0
 simp only [Bool.and_eq_true] at h0
 obtain ⟨r1, _, _, r4, _, r6⟩ := h0
 have hfree : q.Free.length <= 4 := by
  have := asc_len (n := q.VariableCount.toNat) (s := q.Free) (by
   have e : ((q.VariableCount.toNat : Nat) : Int) = q.VariableCount := by omega
   rw [e]; exact r6)
  omega
 refine ⟨hl.2, by omega, fun a ha => ?_, by omega, hv.1, by omega⟩
 obtain ⟨k, hk, rfl⟩ := List.getElem_of_mem ha
 have ht := (vq_atom h hk).1
 have h1 := List.all_eq_true.1 r4 k (List.mem_range.2 hk)
 rw [vAtom_get hk] at h1
 unfold vAt at h1
 simp only [Bool.and_eq_true] at h1
 obtain ⟨x, _, hx, hx2, _⟩ := ix_rel h1.1
 have hr := vRel_mem r1 hx
 unfold vRel at hr
 simp only [btw, Bool.and_eq_true, decide_eq_true_eq] at hr
 omega
theorem fatomOk {l : List Relation} {a : Atom} (hv : btw a.Relation 0 (l.length - 1) = true) (hl : l.length <= 1000) (hn : ∀ x ∈ l, x.Name.length <= 100) (ht : a.Terms.length <= 40 /\ ∀ t ∈ a.Terms, -1000 <= t /\ t <= 1000) : Ens (f38 l a) fun s => s.length <= 300 := by
 obtain ⟨x, h1, h2, _, _⟩ := ix_rel hv
 have hx := hn x h2
 unfold f38
 rw [h1, bS]
 refine Ens.bind (Q := fun s => s.length <= 300) ?_ fun s hs => Ens.of hs
 refine iter_up (f := f38_0 l a) a.Terms.length (fun i t => t.1.length <= 100 + 2 * i /\ t.2 = (i : Int)) _ (fun i t hi ⟨g1, g2⟩ => ?_) (fun t ⟨g1, g2⟩ => ?_) (x.Name, 0) ⟨by simp only; omega, rfl⟩
 ·obtain ⟨s, k⟩ := t
  simp only at g1 g2
  subst g2
  have hb := ht.2 _ (List.getElem_mem hi)
  have hf := ftm_len (t := a.Terms[i])
  simp only [f38_0]
  rw [if_pos (by omega), h1, bS, w64_succ (by omega)]
  obtain ⟨s2, e2, q2⟩ : Ens (if ((i : Nat) : Int) = x.KeyLength then (cat s [124]).bind fun s_11 => some s_11 else some s) fun s2 => s2.length <= s.length + 1 := by
   refine Ens.ite (fun _ => ?_) fun _ => Ens.of (by omega)
   rw [cat_ok (by simp; omega)]
   exact Ens.of (by simp)
  rw [e2, bS, ix_nat hi, bS, fterm hb.1 hb.2, bS, cat_ok (by omega), bS]
  exact ⟨_, rfl, by simp only [List.length_append]; omega, rfl⟩
 ·obtain ⟨s, k⟩ := t
  simp only at g1 g2
  subst g2
  simp only [f38_0]
  rw [if_neg (by omega)]
  exact ⟨_, rfl, by omega⟩
theorem fmtOk {l : List Relation} {q : Query} (hl : l.length <= 1000) (hn : ∀ x ∈ l, x.Name.length <= 100) (hq : QM q) : Ens (f135 l q) fun s => s ≠ [] -> vQuery l q = true := by
 unfold f135
 rw [specQ (by omega) hq.fits, bS]
 cases hv : vQuery l q
 ·rw [if_pos (by simp)]
  exact Ens.of fun h => absurd rfl h
 ·have hs := vq_qs hv
  have hv4 := vq_vars hv
  rw [if_neg (by simp)]
  have free : ∀ t ∈ q.Free, -1000 <= t /\ t <= 1000 := by
   have h0 := hv
   unfold vQuery at h0
   simp only [Bool.and_eq_true] at h0
   intro t ht
   have := (asc_of (n := q.VariableCount.toNat) (s := q.Free) (by
    have e : ((q.VariableCount.toNat : Nat) : Int) = q.VariableCount := by omega
    rw [e]; exact h0.2.2.2.2.2)).2 t ht
   omega
  have atm : ∀ a ∈ q.Atoms, btw a.Relation 0 (l.length - 1) = true /\ a.Terms.length <= 40 /\ ∀ t ∈ a.Terms, -1000 <= t /\ t <= 1000 := fun a ha => by
   obtain ⟨k, hk, rfl⟩ := List.getElem_of_mem ha
   have h0 := hv
   unfold vQuery at h0
   simp only [Bool.and_eq_true] at h0
   have h1 := List.all_eq_true.1 h0.2.2.2.1 k (List.mem_range.2 hk)
   rw [vAtom_get hk] at h1
   unfold vAt at h1
   simp only [Bool.and_eq_true] at h1
   refine ⟨h1.1, (hs.2.2.1 _ ha).2, fun t ht => ?_⟩
   have := (vq_atom hv hk).2 t ht
   omega
  have hs4 := hs.2.2.2.1
  have hs2 := hs.2.1
  refine Ens.bind (Q := fun s => s.length <= 40) ?_ fun s1 h1 => ?_
  ·refine iter_up (f := f135_0 q) q.Free.length (fun i t => t.1.length <= i /\ t.2 = (i : Int)) _ (fun i t hi ⟨g1, g2⟩ => ?_) (fun t ⟨g1, g2⟩ => ?_) ([], 0) ⟨by simp, rfl⟩
   ·obtain ⟨s, k⟩ := t
    simp only at g1 g2
    subst g2
    have hb := free _ (List.getElem_mem hi)
    have hf := ftm_len (t := q.Free[i])
    simp only [f135_0]
    rw [if_pos (by omega), ix_nat hi, bS, fterm hb.1 hb.2, bS, cat_ok (by omega), bS, w64_succ (by omega)]
    exact ⟨_, rfl, by simp only [List.length_append]; omega, rfl⟩
   ·obtain ⟨s, k⟩ := t
    simp only at g1 g2
    subst g2
    simp only [f135_0]
    rw [if_neg (by omega)]
    exact ⟨_, rfl, by omega⟩
  rw [cat_ok (by simp; omega), bS]
  refine Ens.bind (Q := fun _ => True) ?_ fun s2 _ => Ens.of fun _ => rfl
  refine iter_up (f := f135_1 l q) q.Atoms.length (fun i t => t.1.length <= 41 + 301 * i /\ t.2 = (i : Int)) _ (fun i t hi ⟨g1, g2⟩ => ?_) (fun t ⟨g1, g2⟩ => ?_) (s1 ++ [63], 0) ⟨by simp; omega, rfl⟩
  ·obtain ⟨s, k⟩ := t
   simp only at g1 g2
   subst g2
   obtain ⟨a1, a2⟩ := atm _ (List.getElem_mem hi)
   obtain ⟨z, z1, z2⟩ := fatomOk a1 hl hn a2
   simp only [f135_1]
   obtain ⟨s2, e2, q2⟩ : Ens (if ((i : Nat) : Int) > 0 then (cat s [32]).bind fun s_24 => some s_24 else some s) fun s2 => s2.length <= s.length + 1 := by
    refine Ens.ite (fun _ => ?_) fun _ => Ens.of (by omega)
    rw [cat_ok (by simp; omega)]
    exact Ens.of (by simp)
   rw [if_pos (by omega), e2, bS, ix_nat hi, bS, z1, bS, cat_ok (by omega), bS, w64_succ (by omega)]
   exact ⟨_, rfl, by simp only [List.length_append]; omega, rfl⟩
  ·obtain ⟨s, k⟩ := t
   simp only at g1 g2
   subst g2
   simp only [f135_1]
   rw [if_neg (by omega)]
   exact ⟨_, rfl, trivial⟩
end
section
theorem parseOk {l : List Relation} {s : List UInt8} (hl : l.length <= 1000) (hn : ∀ x ∈ l, x.Name.length <= 100) (hs : s.length <= 20) (h0 : s ≠ []) : Ens (f128 l s) fun r => r.2 = true -> QS r.1 := by
  unfold f128
  refine Ens.bind (cutOk (sign := 63) (show s.length <= 1000 by omega)) fun o1 ⟨c1, c2⟩ => ?_
  refine Ens.ite (fun _ => Ens.of fun h => by cases h) fun h2 => ?_
  have h2 : o1.length = 2 := by simp only [ne_eq, Classical.not_not] at h2; omega
  have w0 := c2 o1[0] (List.getElem_mem _)
  have w1 := c2 o1[1] (List.getElem_mem _)
  have i0 : ix o1 0 = some o1[0] := ix_nat (i := 0) (by omega)
  have i1 : ix o1 1 = some o1[1] := ix_nat (i := 1) (by omega)
  refine Ens.bind (Q := fun t : Int × List Atom × List Int => t.2.1 = [] /\ t.2.2.length <= 20) ?_ fun t1 ⟨a1, a2⟩ => ?_
  · refine iter_up (f := f128_0 o1) o1[0].length (fun i t => t.2.1 = [] /\ t.2.2.1.length <= i /\ t.2.2.2 = (i : Int)) _ (fun i t hi ⟨g1, g2, g3⟩ => ?_) (fun t ⟨g1, g2, g3⟩ => ?_) (0, [], [], 0) ⟨rfl, by simp, rfl⟩
    · obtain ⟨v, az, fr, k⟩ := t
      simp only at g1 g2 g3
      subst g3
      simp only [f128_0]
      rw [i0, bS, if_pos (by omega), w64_succ (by omega), cutL_ok (by omega) (by omega) (by omega), bS, pterm, bS, app_fits (by simp; omega), bS]
      exact ⟨_, rfl, g1, by simp; omega, rfl⟩
    · obtain ⟨v, az, fr, k⟩ := t
      simp only at g1 g2 g3
      subst g3
      simp only [f128_0]
      rw [i0, bS, if_neg (by omega)]
      exact ⟨_, rfl, g1, by simp only; omega⟩
  obtain ⟨v1, as1, fr1⟩ := t1
  simp only at a1 a2 ⊢
  subst a1
  rw [i1, bS]
  refine Ens.bind (cutOk (sign := 32) (show o1[1].length <= 1000 by omega)) fun o2 ⟨d1, d2⟩ => ?_
  refine Ens.bind (Q := fun t : Int × List Atom × List Int => QM ⟨t.1, t.2.1, t.2.2⟩) ?_ fun t2 b2 => ?_
  · refine iter_up (f := f128_1 l o2) o2.length (fun i t => t.2.1.length <= i /\ (∀ a ∈ t.2.1, a.Terms.length <= 20) /\ t.2.2.1.length <= 20 /\ t.2.2.2 = (i : Int)) _ (fun i t hi ⟨g1, g2, g3, g4⟩ => ?_) (fun t ⟨g1, g2, g3, g4⟩ => ?_) (v1, [], fr1, 0) ⟨by simp, by simp, a2, rfl⟩
    · obtain ⟨v, az, fr, k⟩ := t
      simp only at g1 g2 g3 g4
      subst g4
      have hw := d2 _ (List.getElem_mem hi)
      have ii : ix o2 (i : Int) = some o2[i] := ix_nat hi
      obtain ⟨u, e, u1, u2, u3⟩ : Ens (iter (f128_2 l o2 (i : Int)) (v, az, fr, 0, [], 0)) fun u => u.2.1 = az /\ u.2.2.1 = fr /\ u.2.2.2.2.length <= 20 := by
        refine iter_up (f := f128_2 l o2 (i : Int)) o2[i].length (fun j u => u.2.1 = az /\ u.2.2.1 = fr /\ u.2.2.2.2.1.length <= j /\ u.2.2.2.2.2 = (j : Int)) _ (fun j u hj ⟨k1, k2, k3, k4⟩ => ?_) (fun u ⟨k1, k2, k3, k4⟩ => ?_) (v, az, fr, 0, [], 0) ⟨rfl, rfl, by simp, rfl⟩
        · obtain ⟨v', az', fr', r, ts, m⟩ := u
          simp only at k1 k2 k3 k4
          subst k1 k2 k4
          simp only [f128_2]
          rw [ii, bS, if_pos (by omega), w64_succ (by omega)]
          obtain ⟨z, z1, z2⟩ : Ens (if ((j : Nat) : Int) = 0 then (cutL o2[i] 0 1).bind fun l_43 => (f134 l l_43).bind fun o45 => some (v', o45, ts)
              else (ix o2[i] (j : Int)).bind fun c_47 => if (c_47.toNat : Int) = 124 then some (v', r, ts)
                else (cutL o2[i] (j : Int) ((j + 1 : Nat) : Int)).bind fun l_50 => (f133 l_50).bind fun o52 => (app 8 ts ([o52.1])).bind fun l_54 => some (if w64 (o52.1 + 1) > v' then w64 (o52.1 + 1) else v', r, l_54)) fun z => z.2.2.length <= j + 1 := by
            refine Ens.ite (fun _ => ?_) fun _ => ?_
            · rw [cutL_ok (by omega) (by omega) (by omega), bS]
              exact Ens.bind (relIdx hl) fun o _ => Ens.of (by simp only; omega)
            · rw [ix_nat hj, bS]
              refine Ens.ite (fun _ => Ens.of (by simp only; omega)) fun _ => ?_
              rw [cutL_ok (by omega) (by omega) (by omega), bS, pterm, bS, app_fits (by simp; omega), bS]
              exact Ens.of (by simp; omega)
          rw [z1, bS]
          exact ⟨_, rfl, rfl, rfl, z2, rfl⟩
        · obtain ⟨v', az', fr', r, ts, m⟩ := u
          simp only at k1 k2 k3 k4
          subst k1 k2 k4
          simp only [f128_2]
          rw [ii, bS, if_neg (by omega)]
          exact ⟨_, rfl, rfl, rfl, by simp only; omega⟩
      obtain ⟨v', az', fr', r, ts⟩ := u
      simp only at u1 u2 u3
      subst u1 u2
      simp only [f128_1]
      rw [if_pos (by omega), e, bS, app_fits (by simp; omega), bS, w64_succ (by omega)]
      refine ⟨_, rfl, by simp; omega, fun a ha => ?_, g3, rfl⟩
      rcases List.mem_append.1 ha with ha | ha
      · exact g2 a ha
      · rw [List.mem_singleton] at ha
        subst ha; exact u3
    · obtain ⟨v, az, fr, k⟩ := t
      simp only at g1 g2 g3 g4
      subst g4
      simp only [f128_1]
      rw [if_neg (by omega)]
      exact ⟨_, rfl, by simp only; omega, fun a ha => by have := g2 a ha; omega, by simp only; omega⟩
  obtain ⟨v2, as2, fr2⟩ := t2
  simp only at b2 ⊢
  refine Ens.bind (fmtOk hl hn b2) fun o3 h3 => ?_
  refine Ens.ite (fun _ => Ens.of fun h => by cases h) fun he => Ens.of fun _ => ?_
  simp only [ne_eq, Classical.not_not] at he
  exact vq_qs (h3 (by rw [he]; exact h0))
end
section
def sg (a b : Int) : List Relation := [⟨[114], 2, 1⟩, ⟨[115], 2, 1⟩, ⟨[116], 2, a⟩, ⟨[117], 3, b⟩]
def q0 : Query := ⟨3, [⟨0, [0, 1]⟩, ⟨1, [1, 2]⟩], []⟩
def s0 : List UInt8 := [63, 114, 120, 124, 121, 32, 115, 121, 124, 122]
variable {a b : Int}
theorem cutA : f132 s0 63 = some [[], [114, 120, 124, 121, 32, 115, 121, 124, 122]] := by
 unfold f132
 rw [iter_of (f := f132_0 s0 63) (n := 12) (r := ([[]], 1)) (by decide)]
 rfl
theorem cutB : f132 [114, 120, 124, 121, 32, 115, 121, 124, 122] 32 = some [[114, 120, 124, 121], [115, 121, 124, 122]] := by
 unfold f132
 rw [iter_of (f := f132_0 [114, 120, 124, 121, 32, 115, 121, 124, 122] 32) (n := 12) (r := ([[114, 120, 124, 121]], 5)) (by decide)]
 rfl
theorem ri0 : f134 (sg a b) [114] = some 0 := by
 unfold f134
 rw [iter_of (f := f134_0 (sg a b) [114]) (n := 3) (r := .inr 0) (by rfl)]
 rfl
theorem ri1 : f134 (sg a b) [115] = some 1 := by
 unfold f134
 rw [iter_of (f := f134_0 (sg a b) [115]) (n := 3) (r := .inr 1) (by rfl)]
 rfl
section
variable {l : List Relation} {o : List (List UInt8)} {i : Nat} {w : List UInt8} {v : Int} {az : List Atom} {fr ts : List Int} {r : Int} {j : Nat}
theorem stp0 (hw : ix o (i : Int) = some w) (hj : 0 < w.length) {x : Int} (hx : f134 l (w.take 1) = some x) : f128_2 l o (i : Int) (v, az, fr, r, ts, 0) = some (.inl (v, az, fr, x, ts, 1)) := by
 simp only [f128_2]
 rw [hw, bS, if_pos (by omega), if_pos trivial, cutL_ok (by omega) (by omega) (by omega), bS]
 have : (w.take (1 : Int).toNat).drop (0 : Int).toNat = w.take 1 := by simp
 rw [this, hx]; rfl
theorem stpB (hw : ix o (i : Int) = some w) (hj : j < w.length) (h0 : j ≠ 0) (hc : w[j] = 124) (hl : j < 1000) : f128_2 l o (i : Int) (v, az, fr, r, ts, (j : Int)) = some (.inl (v, az, fr, r, ts, ((j + 1 : Nat) : Int))) := by
 simp only [f128_2]
 rw [hw, bS, if_pos (by omega), if_neg (by omega), ix_nat hj, bS, hc, if_pos (by decide), w64_succ (by omega)]; rfl
theorem stpT (hw : ix o (i : Int) = some w) (hj : j < w.length) (h0 : j ≠ 0) (hc : (w[j].toNat : Int) ≠ 124) (hl : j < 1000) (ht : ts.length < 1000) : f128_2 l o (i : Int) (v, az, fr, r, ts, (j : Int)) = some (.inl (if (ptm [w[j]]).1 + 1 > v then (ptm [w[j]]).1 + 1 else v, az, fr, r, ts ++ [(ptm [w[j]]).1], ((j + 1 : Nat) : Int))) := by
 have hr := ptm_rng (s := [w[j]])
 simp only [f128_2]
 rw [hw, bS, if_pos (by omega), if_neg (by omega), ix_nat hj, bS, if_neg hc, w64_succ (by omega), cutL_ok (by omega) (by omega) (by omega), bS]
 have : (w.take ((j + 1 : Nat) : Int).toNat).drop ((j : Nat) : Int).toNat = [w[j]] := by
  simp only [Int.toNat_natCast]
  rw [List.drop_take, show j + 1 - j = 1 by omega, List.drop_eq_getElem_cons hj]; rfl
 rw [this, pterm, bS, app_fits (by simp; omega), bS, w64_of (by omega)]; rfl
theorem stpE (hw : ix o (i : Int) = some w) : f128_2 l o (i : Int) (v, az, fr, r, ts, (w.length : Int)) = some (.inr (v, az, fr, r, ts)) := by
 simp only [f128_2]
 rw [hw, bS, if_neg (by omega)]
end
theorem wordA {az : List Atom} : iter (f128_2 (sg a b) [[114, 120, 124, 121], [115, 121, 124, 122]] 0) (0, az, [], 0, [], 0) = some (2, az, [], 0, [0, 1]) := by
 have hw : ix [[114, 120, 124, 121], [115, 121, 124, (122 : UInt8)]] ((0 : Nat) : Int) = some [114, 120, 124, 121] := rfl
 have e1 := stp0 (l := sg a b) (v := 0) (az := az) (fr := []) (r := 0) (ts := []) hw (by decide) ri0
 have e2 := stpT (l := sg a b) (v := 0) (az := az) (fr := []) (r := 0) (ts := []) (j := 1) hw (by decide) (by decide) (by decide) (by decide) (by decide)
 have e3 := stpB (l := sg a b) (v := 1) (az := az) (fr := []) (r := 0) (ts := [0]) (j := 2) hw (by decide) (by decide) (by decide) (by decide)
 have e4 := stpT (l := sg a b) (v := 1) (az := az) (fr := []) (r := 0) (ts := [0]) (j := 3) hw (by decide) (by decide) (by decide) (by decide) (by decide)
 have e5 := stpE (l := sg a b) (v := 2) (az := az) (fr := []) (r := 0) (ts := [0, 1]) hw
 rw [iter_eq]; erw [e1]; dsimp only
 rw [iter_eq]; erw [e2]; dsimp only
 rw [iter_eq]; erw [e3]; dsimp only
 rw [iter_eq]; erw [e4]; dsimp only
 rw [iter_eq]; erw [e5]
theorem wordB {az : List Atom} : iter (f128_2 (sg a b) [[114, 120, 124, 121], [115, 121, 124, 122]] 1) (2, az, [], 0, [], 0) = some (3, az, [], 1, [1, 2]) := by
 have hw : ix [[114, 120, 124, 121], [115, 121, 124, (122 : UInt8)]] ((1 : Nat) : Int) = some [115, 121, 124, 122] := rfl
 have e1 := stp0 (l := sg a b) (v := 2) (az := az) (fr := []) (r := 0) (ts := []) hw (by decide) ri1
 have e2 := stpT (l := sg a b) (v := 2) (az := az) (fr := []) (r := 1) (ts := []) (j := 1) hw (by decide) (by decide) (by decide) (by decide) (by decide)
 have e3 := stpB (l := sg a b) (v := 2) (az := az) (fr := []) (r := 1) (ts := [1]) (j := 2) hw (by decide) (by decide) (by decide) (by decide)
 have e4 := stpT (l := sg a b) (v := 2) (az := az) (fr := []) (r := 1) (ts := [1]) (j := 3) hw (by decide) (by decide) (by decide) (by decide) (by decide)
 have e5 := stpE (l := sg a b) (v := 3) (az := az) (fr := []) (r := 1) (ts := [1, 2]) hw
 rw [iter_eq]; erw [e1]; dsimp only
 rw [iter_eq]; erw [e2]; dsimp only
 rw [iter_eq]; erw [e3]; dsimp only
 rw [iter_eq]; erw [e4]; dsimp only
 rw [iter_eq]; erw [e5]
theorem q0_v (ha : a = 0 \/ a = 1 \/ a = 2) (hb : b = 1 \/ b = 2) : vQuery (sg a b) q0 = true := by
 rcases ha with rfl | rfl | rfl <;> rcases hb with rfl | rfl <;> decide
end
section
variable {a b : Int}
theorem stpA {l : List Relation} {at_ : Atom} {i : Nat} {x : Relation} {s : List UInt8} (hi : i < at_.Terms.length) (hx : ix l at_.Relation = some x) (ht : -1000 <= at_.Terms[i] /\ at_.Terms[i] <= 1000) (hs : s.length <= 300) (hil : i < 1000) :
  f38_0 l at_ (s, (i : Int)) = some (.inl ((if (i : Int) = x.KeyLength then s ++ [124] else s) ++ ftm at_.Terms[i], ((i + 1 : Nat) : Int))) := by
 have hf := ftm_len (t := at_.Terms[i])
 simp only [f38_0]
 rw [if_pos (by omega), hx, bS, w64_succ (by omega), ix_nat hi]
 by_cases c : (i : Int) = x.KeyLength
 ·rw [if_pos c, if_pos c, cat_ok (by simp; omega), bS, bS, bS, fterm ht.1 ht.2, bS, cat_ok (by simp; omega)]; rfl
 ·rw [if_neg c, if_neg c, bS, bS, fterm ht.1 ht.2, bS, cat_ok (by omega)]; rfl
theorem atomA : f38 (sg a b) ⟨0, [0, 1]⟩ = some [114, 120, 124, 121] := by
 unfold f38
 have hx : ix (sg a b) 0 = some ⟨[114], 2, 1⟩ := rfl
 have e1 := stpA (l := sg a b) (at_ := ⟨0, [0, 1]⟩) (i := 0) (s := [114]) (by decide) hx (by decide) (by decide) (by decide)
 have e2 := stpA (l := sg a b) (at_ := ⟨0, [0, 1]⟩) (i := 1) (s := [114, 120]) (by decide) hx (by decide) (by decide) (by decide)
 have e3 : f38_0 (sg a b) ⟨0, [0, 1]⟩ ([114, 120, 124, 121], 2) = some (.inr [114, 120, 124, 121]) := rfl
 have it : iter (f38_0 (sg a b) ⟨0, [0, 1]⟩) ([114], 0) = some [114, 120, 124, 121] := by
  rw [iter_eq]; erw [e1]; dsimp only
  rw [iter_eq]; erw [e2]; dsimp only
  rw [iter_eq]; erw [e3]
 show ((ix (sg a b) 0).bind fun v => (iter (f38_0 (sg a b) ⟨0, [0, 1]⟩) (v.Name, 0)).bind fun s => some s) = _
 rw [hx, bS, it]; rfl
theorem atomB : f38 (sg a b) ⟨1, [1, 2]⟩ = some [115, 121, 124, 122] := by
 unfold f38
 have hx : ix (sg a b) 1 = some ⟨[115], 2, 1⟩ := rfl
 have e1 := stpA (l := sg a b) (at_ := ⟨1, [1, 2]⟩) (i := 0) (s := [115]) (by decide) hx (by decide) (by decide) (by decide)
 have e2 := stpA (l := sg a b) (at_ := ⟨1, [1, 2]⟩) (i := 1) (s := [115, 121]) (by decide) hx (by decide) (by decide) (by decide)
 have e3 : f38_0 (sg a b) ⟨1, [1, 2]⟩ ([115, 121, 124, 122], 2) = some (.inr [115, 121, 124, 122]) := rfl
 have it : iter (f38_0 (sg a b) ⟨1, [1, 2]⟩) ([115], 0) = some [115, 121, 124, 122] := by
  rw [iter_eq]; erw [e1]; dsimp only
  rw [iter_eq]; erw [e2]; dsimp only
  rw [iter_eq]; erw [e3]
 show ((ix (sg a b) 1).bind fun v => (iter (f38_0 (sg a b) ⟨1, [1, 2]⟩) (v.Name, 0)).bind fun s => some s) = _
 rw [hx, bS, it]; rfl
theorem fmtQ0 (ha : a = 0 \/ a = 1 \/ a = 2) (hb : b = 1 \/ b = 2) : f135 (sg a b) q0 = some s0 := by
 unfold f135
 rw [specQ (by simp [sg]) (QM.fits ⟨by simp [q0], by simp [q0], by simp [q0]⟩), q0_v ha hb, bS, if_neg (by simp)]
 rw [iter_of (f := f135_0 q0) (n := 1) (r := []) (by rfl), bS, cat_ok (by decide), bS]
 have e1 : f135_1 (sg a b) q0 ([63], 0) = some (.inl ([63, 114, 120, 124, 121], 1)) := by
  show ((Option.bind (some [63]) fun s_26 => (ix q0.Atoms 0).bind fun v_27 => (f38 (sg a b) v_27).bind fun o29 => (cat s_26 o29).bind fun s_31 => some (Sum.inl (s_31, w64 (0 + 1))))) = _
  show ((f38 (sg a b) ⟨0, [0, 1]⟩).bind fun o29 => (cat [63] o29).bind fun s_31 => some (Sum.inl (s_31, w64 (0 + 1)))) = _
  rw [atomA]; rfl
 have e2 : f135_1 (sg a b) q0 ([63, 114, 120, 124, 121], 1) = some (.inl (s0, 2)) := by
  show ((f38 (sg a b) ⟨1, [1, 2]⟩).bind fun o29 => (cat [63, 114, 120, 124, 121, 32] o29).bind fun s_31 => some (Sum.inl (s_31, w64 (1 + 1)))) = _
  rw [atomB]; rfl
 have e3 : f135_1 (sg a b) q0 (s0, 2) = some (.inr s0) := rfl
 have it : iter (f135_1 (sg a b) q0) ([63], 0) = some s0 := by
  rw [iter_eq, e1]; dsimp only
  rw [iter_eq, e2]; dsimp only
  rw [iter_eq, e3]
 erw [it]; rfl
theorem parseQ0 (ha : a = 0 \/ a = 1 \/ a = 2) (hb : b = 1 \/ b = 2) : f128 (sg a b) s0 = some (q0, true) := by
 unfold f128
 rw [cutA, bS, if_neg (by decide)]
 rw [iter_of (f := f128_0 [[], [114, 120, 124, 121, 32, 115, 121, 124, 122]]) (n := 1) (r := (0, [], [])) (by rfl), bS]
 dsimp only
 rw [show ix [[], [114, 120, 124, 121, 32, 115, 121, 124, (122 : UInt8)]] 1 = some [114, 120, 124, 121, 32, 115, 121, 124, 122] from rfl, bS, cutB, bS]
 have e1 : f128_1 (sg a b) [[114, 120, 124, 121], [115, 121, 124, 122]] (0, [], [], 0) = some (.inl (2, [⟨0, [0, 1]⟩], [], 1)) := by
  show ((iter (f128_2 (sg a b) [[114, 120, 124, 121], [115, 121, 124, 122]] 0) (0, [], [], 0, [], 0)).bind fun (q_61, q_62, q_63, a_64, a_65) => (app 32 q_62 ([({ Relation := a_64, Terms := a_65 } : Atom)])).bind fun l_66 => some (Sum.inl (q_61, l_66, q_63, w64 (0 + 1)))) = _
  rw [wordA]; rfl
 have e2 : f128_1 (sg a b) [[114, 120, 124, 121], [115, 121, 124, 122]] (2, [⟨0, [0, 1]⟩], [], 1) = some (.inl (3, q0.Atoms, [], 2)) := by
  show ((iter (f128_2 (sg a b) [[114, 120, 124, 121], [115, 121, 124, 122]] 1) (2, [⟨0, [0, 1]⟩], [], 0, [], 0)).bind fun (q_61, q_62, q_63, a_64, a_65) => (app 32 q_62 ([({ Relation := a_64, Terms := a_65 } : Atom)])).bind fun l_66 => some (Sum.inl (q_61, l_66, q_63, w64 (1 + 1)))) = _
  rw [wordB]; rfl
 have e3 : f128_1 (sg a b) [[114, 120, 124, 121], [115, 121, 124, 122]] (3, q0.Atoms, [], 2) = some (.inr (3, q0.Atoms, [])) := rfl
 have it : iter (f128_1 (sg a b) [[114, 120, 124, 121], [115, 121, 124, 122]]) (0, [], [], 0) = some (3, q0.Atoms, []) := by
  rw [iter_eq, e1]; dsimp only
  rw [iter_eq, e2]; dsimp only
  rw [iter_eq, e3]
 rw [it, bS]
 show (f135 (sg a b) q0).bind _ = _
 rw [fmtQ0 ha hb, bS, if_neg (by simp)]; rfl
end
section
theorem copyQ {q : Query} (h : QM q) : f25 q = some q := by
 unfold f25
 have h1 := h.1
 have h3 := h.2.2
 rw [app_fits (by simp; omega), bS, List.nil_append]
 have it := iter_steps (f := f25_0 q) (fun i => (q.VariableCount, q.Atoms.take i, q.Free, (i : Int))) q.Atoms.length (q.VariableCount, q.Atoms, q.Free) (fun i hi => by
  have h2 := h.2.1 _ (List.getElem_mem hi)
  simp only [f25_0]
  rw [if_pos (by omega), ix_nat hi, bS, app_fits (by simp; omega), bS, app_fits (by simp; omega), bS, w64_succ (by omega), take_succ' hi]
  simp) (by
  simp only [f25_0]
  rw [if_neg (by omega), List.take_of_length_le (Nat.le_refl _)])
 simp only [List.take_zero, Int.natCast_zero, Int.ofNat_zero] at it
 erw [it]
 rfl
theorem onceB {c : L1Cur} {n : Int} (h : Cur c) : Ens (f117 c n) fun r => Cur r.2 := onceOk h
def lens (l : List Atom) : List Nat := l.map (·.Terms.length)
theorem lens_set {l : List Atom} {i : Nat} {x : Atom} (hi : i < l.length) (h : x.Terms.length = l[i].Terms.length) : lens (l.set i x) = lens l := by
 unfold lens
 rw [List.map_set]
 apply List.ext_getElem
 ·simp
 ·intro j h1 h2
  rw [List.getElem_set]
  split
  ·rename_i e; subst e; simp [h]
  ·rfl
theorem lens_get {l m : List Atom} (h : lens l = lens m) {i : Nat} (hi : i < m.length) : ∃ hl : i < l.length, l[i].Terms.length = m[i].Terms.length := by
 have hl : l.length = m.length := by have := congrArg List.length h; simpa [lens] using this
 refine ⟨by omega, ?_⟩
 have := congrArg (fun z => z[i]?) h
 simp only [lens, List.getElem?_map] at this
 rw [zE (by omega), zE hi] at this
 exact Option.some.inj this
theorem seek {name : List Int} {v : Int} (h : name.length <= 2000) : Ens (iter (f127_2 name v) (-1, 0)) fun r => -1 <= r /\ r < name.length := by
 refine iter_up (f := f127_2 name v) name.length (fun i s => -1 <= s.1 /\ s.1 < name.length /\ s.2 = (i : Int)) _ (fun i s hi ⟨g1, g2, g3⟩ => ?_) (fun s ⟨g1, g2, g3⟩ => ?_) (-1, 0) ⟨by simp, by simp only; omega, rfl⟩
 ·obtain ⟨x, k⟩ := s
  simp only at g1 g2 g3
  subst g3
  simp only [f127_2]
  rw [if_pos (by omega), ix_nat hi, bS, w64_succ (by omega)]
  by_cases c : name[i] = v
  ·rw [if_pos c, bS]; exact ⟨_, rfl, by simp only; omega, by simp only; omega, rfl⟩
  ·rw [if_neg c, bS]; exact ⟨_, rfl, g1, g2, rfl⟩
 ·obtain ⟨x, k⟩ := s
  simp only at g1 g2 g3
  subst g3
  simp only [f127_2]
  rw [if_neg (by omega)]; exact ⟨_, rfl, g1, g2⟩
theorem tightOk {q : Query} (h : q.Atoms.length <= 3) (ht : ∀ a ∈ q.Atoms, a.Terms.length <= 3) (hfr : q.Free.length <= 20) : Ens (f127 q) fun r => lens r.Atoms = lens q.Atoms /\ r.Free = q.Free /\ 0 <= r.VariableCount /\ r.VariableCount <= 20 := by
 unfold f127
 rw [copyQ ⟨by omega, fun a ha => by have := ht a ha; omega, by omega⟩, bS]
 refine Ens.bind (Q := fun s : Int × List Atom × List Int × List Int => lens s.2.1 = lens q.Atoms /\ s.2.2.1 = q.Free /\ s.2.2.2.length <= 20) ?_ fun s hs => ?_
 ·refine iter_up (f := f127_0) q.Atoms.length (fun i s => lens s.2.1 = lens q.Atoms /\ s.2.2.1 = q.Free /\ s.2.2.2.1.length <= 3 * i /\ s.2.2.2.2 = (i : Int)) _ (fun i s hi ⟨g1, g2, g3, g4⟩ => ?_) (fun s ⟨g1, g2, g3, g4⟩ => ?_) (q.VariableCount, q.Atoms, q.Free, [], 0) ⟨rfl, rfl, by simp, rfl⟩
  ·obtain ⟨v, xs, fr, nm, k⟩ := s
   simp only at g1 g2 g3 g4
   subst g4
   have hq3 := ht _ (List.getElem_mem hi)
   have hxl : xs.length = q.Atoms.length := by have := congrArg List.length g1; simpa [lens] using this
   obtain ⟨u, e, u1, u2, u3⟩ : Ens (iter (f127_1 (i : Int)) (v, xs, fr, nm, 0)) fun u => lens u.2.1 = lens q.Atoms /\ u.2.2.1 = q.Free /\ u.2.2.2.length <= nm.length + 3 := by
    refine iter_up (f := f127_1 (i : Int)) q.Atoms[i].Terms.length (fun j u => lens u.2.1 = lens q.Atoms /\ u.2.2.1 = q.Free /\ u.2.2.2.1.length <= nm.length + j /\ u.2.2.2.2 = (j : Int)) _ (fun j u hj ⟨k1, k2, k3, k4⟩ => ?_) (fun u ⟨k1, k2, k3, k4⟩ => ?_) (v, xs, fr, nm, 0) ⟨g1, g2, by simp, rfl⟩
    ·obtain ⟨v', xs', fr', nm', m⟩ := u
     simp only at k1 k2 k3 k4
     subst k4
     obtain ⟨hl1, hl2⟩ := lens_get k1 hi
     simp only [f127_1]
     rw [ix_nat hl1, bS, if_pos (by omega), ix_nat (by omega), w64_succ (by omega)]
     simp only [bS]
     by_cases c : xs'[i].Terms[j] < 0
     ·rw [if_pos c, bS]
      exact ⟨_, rfl, k1, k2, by simp only; omega, rfl⟩
     ·obtain ⟨z, z1, z2, z3⟩ := seek (name := nm') (v := xs'[i].Terms[j]) (by omega)
      rw [if_neg c, z1, bS]
      obtain ⟨y, y1, y2⟩ : Ens (if z < 0 then (app 8 nm' ([xs'[i].Terms[j]])).bind fun l_37 => some (l_37, (nm'.length : Int)) else some (nm', z)) fun y => y.1.length <= nm'.length + 1 := by
       refine Ens.ite (fun _ => ?_) fun _ => Ens.of (by simp only; omega)
       rw [app_fits (by simp; omega), bS]
       exact Ens.of (by simp)
      rw [y1, bS, bS]
      refine ⟨_, rfl, ?_, k2, by simp only; omega, rfl⟩
      simp only [Int.toNat_natCast]
      rw [lens_set hl1 (by simp)]; exact k1
    ·obtain ⟨v', xs', fr', nm', m⟩ := u
     simp only at k1 k2 k3 k4
     subst k4
     obtain ⟨hl1, hl2⟩ := lens_get k1 hi
     simp only [f127_1]
     rw [ix_nat hl1, bS, if_neg (by omega)]
     exact ⟨_, rfl, k1, k2, by simp only; omega⟩
   obtain ⟨uv, uxs, ufr, unm⟩ := u
   simp only at u1 u2 u3
   simp only [f127_0]
   rw [if_pos (by omega), e, bS, w64_succ (by omega)]
   exact ⟨_, rfl, u1, u2, by simp only; omega, rfl⟩
  ·obtain ⟨v, xs, fr, nm, k⟩ := s
   simp only at g1 g2 g3 g4
   subst g4
   have hxl : xs.length = q.Atoms.length := by have := congrArg List.length g1; simpa [lens] using this
   simp only [f127_0]
   rw [if_neg (by omega)]
   exact ⟨_, rfl, g1, g2, by simp only; omega⟩
 ·obtain ⟨v, xs, fr, nm⟩ := s
  simp only at hs ⊢
  exact Ens.of ⟨hs.1, hs.2.1, by simp only; omega, by simp only; omega⟩
theorem queryOk {c : L1Cur} (h : Cur c) : Ens (f116 c) fun r => QS r.1 /\ Cur r.2 := by
  unfold f116
  refine Ens.bind (belowOk h) fun o1 h1 => ?_
  refine Ens.bind (belowOk h1.2.2.2) fun o3 h3 => ?_
  refine Ens.bind (belowOk h3.2.2.2) fun o5 h5 => ?_
  have a1 := h1.2.2.1 (by decide)
  have a5 := h5.2.2.1 (by decide)
  have a10 := h1.1
  have a50 := h5.1
  obtain ⟨n, hn⟩ : ∃ n : Nat, 1 + o1.1 = n := ⟨(1 + o1.1).toNat, by omega⟩
  refine Ens.bind (Q := fun s : List Int × Int × Int × Int × List Atom × List Int => Cur ⟨s.1, s.2.1, s.2.2.1⟩ /\ s.2.2.2.2.1.length = n /\ (∀ a ∈ s.2.2.2.2.1, 2 <= a.Terms.length /\ a.Terms.length <= 3) /\ s.2.2.2.2.2 = []) ?_ fun s hs => ?_
  · refine iter_up (f := f116_0 o1 o3 o5) n (fun i s => Cur ⟨s.1, s.2.1, s.2.2.1⟩ /\ s.2.2.2.2.1.length = i /\ (∀ a ∈ s.2.2.2.2.1, 2 <= a.Terms.length /\ a.Terms.length <= 3) /\ s.2.2.2.2.2.1 = [] /\ s.2.2.2.2.2.2 = (i : Int)) _ (fun i s hi ⟨g1, g2, g3, g4, g5⟩ => ?_) (fun s ⟨g1, g2, g3, g4, g5⟩ => ?_) (o5.2.b, o5.2.i, o5.2.h, 0, [], [], 0) ⟨h5.2.2.2, rfl, by simp, rfl, rfl⟩
    · obtain ⟨cb, ci, ch, v, az, fr, k⟩ := s
      simp only at g1 g2 g3 g4 g5
      subst g4 g5
      have hr : 0 <= (o5.1 + (i : Int)).tmod 4 /\ (o5.1 + (i : Int)).tmod 4 < 4 := tmod_lt (by omega) (by decide)
      have hm : 0 <= ((o5.1 + (i : Int)).tmod 4).tdiv 3 /\ ((o5.1 + (i : Int)).tmod 4).tdiv 3 <= 1 := by
        rw [Int.tdiv_eq_ediv_of_nonneg hr.1]; omega
      obtain ⟨p, hp⟩ : ∃ p : Nat, 2 + ((o5.1 + (i : Int)).tmod 4).tdiv 3 = p := ⟨(2 + ((o5.1 + (i : Int)).tmod 4).tdiv 3).toNat, by omega⟩
      simp only [f116_0]
      rw [w64_of (n := 1 + o1.1) (by omega), if_pos (by omega), w64_of (n := o5.1 + (i : Int)) (by omega), w64_of (n := ((o5.1 + (i : Int)).tmod 4).tdiv 3) (by omega), w64_of (n := 2 + ((o5.1 + (i : Int)).tmod 4).tdiv 3) (by omega), hp]
      obtain ⟨u, e, u1, u2⟩ : Ens (iter (f116_1 o3) (cb, ci, ch, (o5.1 + (i : Int)).tmod 4, [], (p : Int))) fun u => Cur ⟨u.1, u.2.1, u.2.2.1⟩ /\ u.2.2.2.2.length = p := by
        refine iter_up (f := f116_1 o3) p (fun j u => Cur ⟨u.1, u.2.1, u.2.2.1⟩ /\ u.2.2.2.2.1.length = j /\ u.2.2.2.2.2 = ((p - j : Nat) : Int)) _ (fun j u hj ⟨k1, k2, k3⟩ => ?_) (fun u ⟨k1, k2, k3⟩ => ?_) _ ⟨g1, rfl, rfl⟩
        · obtain ⟨b, x, y, r, ts, m⟩ := u
          simp only at k1 k2 k3
          subst k3
          simp only [f116_1]
          rw [if_pos (by omega)]
          obtain ⟨z, z1, z2⟩ := onceB (n := 12) k1
          rw [z1, bS]
          obtain ⟨t, t1, t2, t3⟩ : Ens (if z.1 = true then (f96 z.2 2).bind fun o27 => (app 8 ts ([w64 ((-1) - o27.1)])).bind fun l_29 => some (o27.2.b, o27.2.i, o27.2.h, l_29)
              else (f96 z.2 (w64 (1 + o3.1))).bind fun o31 => (app 8 ts ([o31.1])).bind fun l_33 => some (o31.2.b, o31.2.i, o31.2.h, l_33)) fun t => Cur ⟨t.1, t.2.1, t.2.2.1⟩ /\ t.2.2.2.length = j + 1 := by
            refine Ens.ite (fun _ => ?_) fun _ => ?_
            · refine Ens.bind (belowOk z2) fun o ho => ?_
              rw [app_fits (by simp; omega), bS]
              exact Ens.of ⟨ho.2.2.2, by simp; omega⟩
            · refine Ens.bind (belowOk z2) fun o ho => ?_
              rw [app_fits (by simp; omega), bS]
              exact Ens.of ⟨ho.2.2.2, by simp; omega⟩
          rw [t1, bS, w64_of (by omega)]
          exact ⟨_, rfl, t2, t3, by simp only; omega⟩
        · obtain ⟨b, x, y, r, ts, m⟩ := u
          simp only at k1 k2 k3
          subst k3
          simp only [f116_1]
          rw [if_neg (by omega)]
          exact ⟨_, rfl, k1, k2⟩
      obtain ⟨b, x, y, r, ts⟩ := u
      simp only at u1 u2
      rw [e, bS, app_fits (by simp; omega), bS, w64_succ (by omega)]
      refine ⟨_, rfl, u1, by simp; omega, fun a ha => ?_, rfl, rfl⟩
      rcases List.mem_append.1 ha with ha | ha
      · exact g3 a ha
      · rw [List.mem_singleton] at ha
        subst ha
        simp only; omega
    · obtain ⟨cb, ci, ch, v, az, fr, k⟩ := s
      simp only at g1 g2 g3 g4 g5
      subst g4 g5
      simp only [f116_0]
      rw [w64_of (n := 1 + o1.1) (by omega), if_neg (by omega)]
      exact ⟨_, rfl, g1, g2, g3, rfl⟩
  · obtain ⟨cb, ci, ch, v, az, fr⟩ := s
    simp only at hs ⊢
    obtain ⟨s1, s2, s3, s4⟩ := hs
    subst s4
    refine Ens.bind (tightOk (q := ⟨v, az, []⟩) (by simp only; omega) (fun a ha => (s3 a ha).2) (by simp)) fun r ⟨r1, r2, r3, r4⟩ => Ens.of ⟨?_, s1⟩
    show QS r
    have hrl : r.Atoms.length = az.length := by have := congrArg List.length r1; simpa [lens] using this
    refine ⟨by omega, by omega, fun a ha => ?_, by rw [r2]; simp, r3, r4⟩
    obtain ⟨k, hk, rfl⟩ := List.getElem_of_mem ha
    obtain ⟨hl1, hl2⟩ := lens_get (l := r.Atoms) (m := az) r1 (i := k) (by omega)
    have := s3 az[k] (List.getElem_mem _)
    omega
end
section
def SigsG (l : List Relation) : Prop := ∃ a b : Int, l = sg a b /\ (a = 0 \/ a = 1 \/ a = 2) /\ (b = 1 \/ b = 2)
theorem SigsG.small {l : List Relation} (h : SigsG l) : l.length = 4 /\ ∀ x ∈ l, x.Name.length <= 100 := by
 obtain ⟨a, b, rfl, _⟩ := h
 refine ⟨rfl, fun x hx => ?_⟩
 simp only [sg, List.mem_cons, List.not_mem_nil, or_false] at hx
 rcases hx with rfl | rfl | rfl | rfl <;> simp
theorem sigsG {c : L1Cur} (h : Cur c) : Ens (f75 c) fun r => SigsG r.1 /\ Cur r.2 := by
 unfold f75
 refine Ens.bind (pickOk h (by simp)) fun o1 h1 => ?_
 refine Ens.bind (belowOk h1.2) fun o2 h2 => ?_
 have h3 := h2.2.2.1 (by decide)
 have h4 := h2.1
 refine Ens.of ⟨⟨o1.1, 1 + o2.1, ?_, ?_, by omega⟩, h2.2.2.2⟩
 ·rw [w64_of (by omega)]; rfl
 ·have := h1.1
  simp only [List.mem_cons, List.not_mem_nil, or_false] at this
  omega
theorem q0_qs : QS q0 := by
 refine ⟨by decide, by decide, fun a ha => ?_, by decide, by decide, by decide⟩
 simp only [q0, List.mem_cons, List.not_mem_nil, or_false] at ha
 rcases ha with rfl | rfl <;> decide
theorem knownOk {c : L1Cur} {l : List Relation} (h : Cur c) (hl : SigsG l) : Ens (f118 c l) fun r => QS r.1 /\ Cur r.2 := by
 unfold f118
 refine Ens.bind (Q := fun r : List UInt8 × L1Cur => (r.1.length <= 20 /\ r.1 ≠ []) /\ Cur r.2) ?_ fun o1 h1 => ?_
 ·unfold f129
  refine Ens.bind (belowOk h) fun o ho => ?_
  have a1 := ho.1
  have a2 := ho.2.2.1 (by decide)
  rw [ix_of a1, zE (by omega), bS]
  refine Ens.of ⟨?_, ho.2.2.2⟩
  have all : ∀ x ∈ ([[63, 114, 120, 124, 121, 32, 115, 121, 124, 122], [63, 114, 120, 124, 121, 32, 115, 121, 124, 120], [63, 114, 120, 124, 121, 32, 115, 122, 124, 121], [63, 114, 120, 124, 121, 32, 115, 120, 124, 122], [63, 114, 120, 124, 49], [63, 114, 120, 124, 120], [63, 114, 120, 124, 121, 32, 115, 121, 124, 49], [63, 114, 120, 124, 121, 32, 115, 121, 124, 122, 32, 114], [63, 114, 120, 124, 121], [63, 114, 120, 124, 122, 32, 115, 121, 124, 122]] : List (List UInt8)), x.length <= 20 /\ x ≠ [] := by decide
  exact all _ (List.getElem_mem _)
 obtain ⟨m1, m2⟩ := hl.small
 refine Ens.bind (parseOk (by omega) m2 h1.1.1 h1.1.2) fun o3 h3 => ?_
 refine Ens.bind (Q := fun r : Int × List Atom × List Int => QS ⟨r.1, r.2.1, r.2.2⟩) (Ens.ite (fun _ => ?_) fun hc => ?_) fun r hr => Ens.of ⟨hr, h1.2⟩
 ·obtain ⟨a, b, rfl, ha, hb⟩ := hl
  have := parseQ0 (a := a) (b := b) ha hb
  unfold s0 at this
  rw [this, bS]
  exact Ens.of q0_qs
 ·exact Ens.of (h3 (by simpa using hc))
def QB (q : Query) : Prop := q.Atoms.length <= 100 /\ (∀ a ∈ q.Atoms, a.Terms.length <= 100) /\ q.Free.length <= 100
theorem QB.fits {q : Query} (h : QB q) : FitsQ q := ⟨by have := h.1; omega, fun a ha => by have := h.2.1 a ha; omega, by have := h.2.2; omega⟩
theorem drawQ {c : L1Cur} {l : List Relation} (h : Cur c) (hl : SigsG l) : Ens (f97 c l) fun r => (1 <= r.1.Atoms.length /\ r.1.Atoms.length <= 40 /\ (∀ a ∈ r.1.Atoms, 1 <= a.Terms.length /\ a.Terms.length <= 40) /\ r.1.Free.length <= 40) /\ Cur r.2 := by
 unfold f97
 refine Ens.bind (queryOk h) fun o1 h1 => ?_
 refine Ens.bind (onceB h1.2) fun o3 h3 => ?_
 refine Ens.bind (Q := fun s : List Int × Int × Int × Int × List Atom × List Int => QS ⟨s.2.2.2.1, s.2.2.2.2.1, s.2.2.2.2.2⟩ /\ Cur ⟨s.1, s.2.1, s.2.2.1⟩) (Ens.ite (fun _ => ?_) fun _ => Ens.of ⟨h1.1, h3⟩) fun s hs => ?_
 ·exact Ens.bind (knownOk h3 hl) fun o ho => Ens.of ho
 obtain ⟨cb, ci, ch, v, az, fr⟩ := s
 simp only at hs ⊢
 obtain ⟨⟨q1, q2, q3, q4, q5, q6⟩, hc⟩ := hs
 simp only at q1 q2 q3 q4 q5 q6
 refine Ens.bind (onceB hc) fun o6 h6 => ?_
 refine Ens.bind (Q := fun s : List Int × Int × Int × Int × List Atom × List Int => s.2.2.2.2.1 = az /\ s.2.2.2.2.2.length <= 40 /\ Cur ⟨s.1, s.2.1, s.2.2.1⟩) (Ens.ite (fun _ => ?_) fun _ => Ens.of ⟨rfl, by simp only; omega, h6⟩) fun s hs => ?_
 ·refine Ens.bind (Q := fun s : List Int × Int × Int × Int × List Atom × List Int => s.2.2.2.2.1 = az /\ s.2.2.2.2.2.length <= 40 /\ Cur ⟨s.1, s.2.1, s.2.2.1⟩) ?_ fun s hs => Ens.of hs
  obtain ⟨n, hn⟩ : ∃ n : Nat, v = n := ⟨v.toNat, by omega⟩
  subst hn
  refine iter_up (f := f97_0) n (fun i s => s.2.2.2.1 = (n : Int) /\ s.2.2.2.2.1 = az /\ s.2.2.2.2.2.1.length <= 20 + i /\ Cur ⟨s.1, s.2.1, s.2.2.1⟩ /\ s.2.2.2.2.2.2 = (i : Int)) _ (fun i s hi ⟨g1, g2, g3, g4, g5⟩ => ?_) (fun s ⟨g1, g2, g3, g4, g5⟩ => ?_) _ ⟨rfl, rfl, by simp only; omega, h6, rfl⟩
  ·obtain ⟨b, x, y, v, az', fr', k⟩ := s
   simp only at g1 g2 g3 g4 g5
   subst g1 g2 g5
   simp only [f97_0]
   obtain ⟨z, z1, z2⟩ := onceB (n := 3) g4
   rw [if_pos (by omega), z1, bS, w64_succ (by omega)]
   obtain ⟨t, t1, t2⟩ : Ens (if z.1 = true then (app 8 fr' ([((i : Nat) : Int)])).bind fun l_34 => some l_34 else some fr') fun t => t.length <= fr'.length + 1 := by
    refine Ens.ite (fun _ => ?_) fun _ => Ens.of (by omega)
    rw [app_fits (by simp; omega), bS]
    exact Ens.of (by simp)
   rw [t1, bS]
   exact ⟨_, rfl, rfl, rfl, by simp only; omega, z2, rfl⟩
  ·obtain ⟨b, x, y, v, az', fr', k⟩ := s
   simp only at g1 g2 g3 g4 g5
   subst g1 g2 g5
   simp only [f97_0]
   rw [if_neg (by omega)]
   exact ⟨_, rfl, rfl, by simp only; omega, g4⟩
 obtain ⟨b, x, y, v', az', fr'⟩ := s
 simp only at hs ⊢
 obtain ⟨s1, s2, s3⟩ := hs
 subst s1
 exact Ens.of ⟨⟨q1, q2, q3, s2⟩, s3⟩
theorem anyOk {c : L1Cur} {l : List Relation} (h : Cur c) (hl : SigsG l) : Ens (f76 c l) fun r => QB r.1 /\ Cur r.2 := by
 unfold f76
 refine Ens.bind (drawQ h hl) fun o1 ⟨⟨q1, q2, q3, q4⟩, hc⟩ => ?_
 have q3' : ∀ a ∈ o1.1.Atoms, a.Terms.length <= 100 := fun a ha => by have := q3 a ha; omega
 refine Ens.bind (belowOk hc) fun o3 h3 => ?_
 have hc3 := h3.2.2.2
 refine Ens.bind (Q := fun s : List Int × Int × Int × Int × List Atom × List Int => (s.2.2.2.2.1.length <= 100 /\ (∀ a ∈ s.2.2.2.2.1, a.Terms.length <= 100) /\ s.2.2.2.2.2.length <= 100) /\ Cur ⟨s.1, s.2.1, s.2.2.1⟩) (Ens.ite (fun _ => ?_) fun _ => ?_) fun s hs => Ens.of hs
 ·exact Ens.bind (pickOk hc3 (by simp)) fun o ho => Ens.of ⟨⟨by simp only; omega, q3', by simp only; omega⟩, ho.2⟩
 refine Ens.bind (Q := fun s : List Int × Int × Int × List Atom × List Int => (s.2.2.2.1.length <= 100 /\ (∀ a ∈ s.2.2.2.1, a.Terms.length <= 100) /\ s.2.2.2.2.length <= 100) /\ Cur ⟨s.1, s.2.1, s.2.2.1⟩) (Ens.ite (fun _ => ?_) fun _ => ?_) fun s hs => Ens.of hs
 ·refine Ens.bind (belowOk hc3) fun o ho => ?_
  rw [app_fits (by simp; omega), bS]
  refine Ens.of ⟨⟨by simp; omega, fun a ha => ?_, by simp only; omega⟩, ho.2.2.2⟩
  rcases List.mem_append.1 ha with ha | ha
  ·exact q3' a ha
  ·rw [List.mem_singleton] at ha
   subst ha; simp
 refine Ens.bind (Q := fun s : List Int × Int × Int × List Atom × List Int => (s.2.2.2.1.length <= 100 /\ (∀ a ∈ s.2.2.2.1, a.Terms.length <= 100) /\ s.2.2.2.2.length <= 100) /\ Cur ⟨s.1, s.2.1, s.2.2.1⟩) (Ens.ite (fun _ => ?_) fun _ => ?_) fun s hs => Ens.of hs
 ·have i0 : ix o1.1.Atoms 0 = some o1.1.Atoms[0] := ix_nat (i := 0) (by omega)
  have ht := q3 _ (List.getElem_mem (show 0 < o1.1.Atoms.length by omega))
  rw [i0, bS]
  refine Ens.bind (pickOk hc3 (by simp)) fun o ho => ?_
  have i1 : ix o1.1.Atoms[0].Terms 0 = some o1.1.Atoms[0].Terms[0] := ix_nat (i := 0) (by omega)
  rw [i1, bS]
  refine Ens.of ⟨⟨by simp; omega, fun a ha => ?_, by simp only; omega⟩, ho.2⟩
  rcases List.mem_or_eq_of_mem_set ha with ha | rfl
  ·exact q3' a ha
  ·simp; omega
 refine Ens.bind (Q := fun s : List Int × Int × Int × List Int => s.2.2.2.length <= 100 /\ Cur ⟨s.1, s.2.1, s.2.2.1⟩) (Ens.ite (fun _ => ?_) fun _ => ?_) fun s hs => Ens.of ⟨⟨by simp only; omega, q3', hs.1⟩, hs.2⟩
 ·refine Ens.bind (belowOk hc3) fun o ho => ?_
  rw [app_fits (by simp; omega), bS]
  exact Ens.of ⟨by simp; omega, ho.2.2.2⟩
 ·exact Ens.of ⟨by simp only; omega, hc3⟩
theorem bothOk {code : List Int} (h : code.length <= 1048576) : Ens (f48 code) fun r => SigsG r.2.1 /\ QB r.2.2 /\ Cur r.1 := by
 unfold f48
 refine Ens.bind (newOk h) fun c hc => ?_
 refine Ens.bind (sigsG hc) fun o1 h1 => ?_
 exact Ens.bind (anyOk h1.2 h1.1) fun o3 h3 => Ens.of ⟨h1.1, h3.1, h3.2⟩
end
section
variable {n : Nat} {sk : Nat -> Nat -> Bool}
end
section
end
section
def none4 : Int -> Bool := fun _ => false
def bl (n : Nat) (X : Int -> Bool) : List Bool := (List.range n).map fun v => X ((v : Nat) : Int)
theorem bl_len {n : Nat} {X : Int -> Bool} : (bl n X).length = n := by simp [bl]
theorem bl_get {n : Nat} {X : Int -> Bool} {v : Nat} (h : v < n) : ix (bl n X) ((v : Nat) : Int) = some (X ((v : Nat) : Int)) := by
 rw [ix_nat (by rw [bl_len]; exact h)]; simp [bl]
theorem bl_congr {n : Nat} {X Y : Int -> Bool} (h : ∀ v : Nat, v < n -> X ((v : Nat) : Int) = Y ((v : Nat) : Int)) : bl n X = bl n Y := by
 unfold bl
 refine List.map_congr_left fun v hv => h v (List.mem_range.1 hv)
theorem bl_set {n : Nat} {X : Int -> Bool} {b : Nat} : (bl n X).set b true = bl n (fun v => X v || decide (v = ((b : Nat) : Int))) := by
 apply List.ext_getElem
 ·simp [bl]
 ·intro i h1 h2
  rw [List.getElem_set]
  simp only [bl, List.getElem_map, List.getElem_range]
  by_cases e : b = i
  ·subst e; simp
  ·rw [if_neg e]
   have : ¬ ((i : Nat) : Int) = ((b : Nat) : Int) := by omega
   simp [this]
theorem bl_none {n : Nat} : List.replicate n false = bl n none4 := by
 unfold bl none4
 apply List.ext_getElem
 ·simp
 ·intro i h1 h2; simp
end
section
section
variable {l : List Relation} {q : Query}
structure VQy (l : List Relation) (q : Query) : Prop where
 big : Big l.length
 fits : FitsQ q
 rels : vRels l = true
 n1 : 1 <= q.Atoms.length
 n3 : q.Atoms.length <= 3
 terms : ∀ a ∈ q.Atoms, a.Terms.length <= 3
 free : In4 q.Free.contains
 free4 : q.Free.length <= 4
theorem asc_len4 {n : Int} {f : List Int} (h : asc n f = true) (hn : n <= 4) : In4 f.contains /\ f.length <= 4 := by
 have hg := h
 unfold asc at hg
 have e : ∀ i (hi : i < f.length), (i : Int) <= f[i] /\ f[i] <= n - 1 := by
  intro i
  induction i with
  | zero =>
   intro hi
   have := (good_of hg hi).1
   unfold btw at this; simp only [Bool.and_eq_true, decide_eq_true_eq] at this
   omega
  | succ i ih =>
   intro hi
   have := good_of hg hi
   have g1 := this.1
   have g2 := this.2 (by omega)
   unfold btw at g1; simp only [Bool.and_eq_true, decide_eq_true_eq, Nat.add_sub_cancel] at g1 g2
   have := ih (by omega)
   omega
 refine ⟨fun v hv => ?_, ?_⟩
 ·rw [List.contains_iff_mem] at hv
  obtain ⟨i, hi, rfl⟩ := List.mem_iff_getElem.1 hv
  have := e i hi
  unfold btw; simp; omega
 ·apply Classical.byContradiction
  intro hc
  have := e (f.length - 1) (by omega)
  omega
theorem vq_of (hl : Big l.length) (hq : FitsQ q) (h : vQuery l q = true) : VQy l q := by
 unfold vQuery at h
 simp only [Bool.and_eq_true] at h
 obtain ⟨h1, h2, h3, h4, _, h5⟩ := h
 unfold btw at h2 h3; simp only [Bool.and_eq_true, decide_eq_true_eq] at h2 h3
 obtain ⟨f1, f2⟩ := asc_len4 h5 (by omega)
 refine ⟨hl, hq, h1, by omega, by omega, fun a ha => ?_, f1, f2⟩
 obtain ⟨i, hi, rfl⟩ := List.mem_iff_getElem.1 ha
 have := List.all_eq_true.1 h4 i (List.mem_range.2 hi)
 rw [vAtom_get hi] at this
 unfold vAt at this
 simp only [Bool.and_eq_true, decide_eq_true_eq] at this
 have := vRels_arity h1 this.1
 omega
theorem kvars_in {a : Atom} : In4 (kvars l a).contains := by
 unfold kvars; split
 ·rw [avars_nfl]; exact nfl_in
 ·intro v hv; simp at hv
theorem avars_in {t : List Int} : In4 (avars t).contains := nfl_in
def atomAt (q : Query) (i : Nat) : Atom := q.Atoms.getD i default
theorem atom_get {i : Nat} (h : i < q.Atoms.length) : atomAt q i = q.Atoms[i] := by
 unfold atomAt; rw [zD, zE h]; rfl
def ruleA (l : List Relation) (q : Query) (skip : Int) (i : Nat) : Rule := ⟨fun X => decide (((i : Nat) : Int) ≠ skip) && (kvars l (atomAt q i)).all X, (avars (atomAt q i).Terms).contains⟩
def rulesA (l : List Relation) (q : Query) (skip : Int) : List Rule := (List.range q.Atoms.length).map (ruleA l q skip)
theorem rulesA_len {skip : Int} : (rulesA l q skip).length = q.Atoms.length := by simp [rulesA]
theorem rulesA_get {skip : Int} {i : Nat} (h : i < (rulesA l q skip).length) : (rulesA l q skip)[i] = ruleA l q skip i := by simp [rulesA]
theorem rulesA_mono {skip : Int} : ∀ r ∈ rulesA l q skip, r.mono := by
 intro r hr
 unfold rulesA at hr
 obtain ⟨i, _, rfl⟩ := List.mem_map.1 hr
 intro X Y h hc
 simp only [ruleA, Bool.and_eq_true] at hc ⊢
 exact ⟨hc.1, List.all_eq_true.2 fun v hv => h v (List.all_eq_true.1 hc.2 v hv)⟩
theorem rulesA_in {skip : Int} : ∀ r ∈ rulesA l q skip, In4 r.a := by
 intro r hr
 unfold rulesA at hr
 obtain ⟨i, _, rfl⟩ := List.mem_map.1 hr
 exact avars_in
def closX (l : List Relation) (q : Query) (skip : Int) (X : Int -> Bool) : Int -> Bool := cl (rulesA l q skip) X
theorem closX_in {skip : Int} {X : Int -> Bool} (h : In4 X) : In4 (closX l q skip X) := passes_in h rulesA_in
def setOf (q : Query) (vars : List Int) : Int -> Bool := (nfl (cupX vars.contains q.Free.contains)).contains
theorem setOf_in {vars : List Int} : In4 (setOf q vars) := nfl_in
theorem nfl_setOf {vars : List Int} : nfl (setOf q vars) = nfl (cupX vars.contains q.Free.contains) := nfl_idem
variable (V : VQy l q)
include V
theorem small {i : Nat} (hi : i < q.Atoms.length) : q.Atoms[i].Terms.length <= 3 := V.terms _ (List.getElem_mem hi)
theorem roundSpec {skip : Int} {X : Int -> Bool} (hX : In4 X) : iter (f88_1 l q skip) (nfl X, 0) = some (nfl (pass (rulesA l q skip) X)) := by
 have := iter_steps (f := f88_1 l q skip) (fun i => (nfl (pass ((rulesA l q skip).take i) X), (i : Int))) q.Atoms.length (nfl (pass (rulesA l q skip) X)) (fun i hi => by
  have hl := rulesA_len (l := l) (q := q) (skip := skip)
  have n3 := V.n3
  rw [pass_take (by omega), rulesA_get]
  have hin : In4 (pass ((rulesA l q skip).take i) X) := pass_in hX fun r hr => rulesA_in r (List.mem_of_mem_take hr)
  generalize pass ((rulesA l q skip).take i) X = Y at hin
  have hs := small V hi
  have k4 := kvars_len (l := l) (a := q.Atoms[i])
  have a4 := avars_len (t := q.Atoms[i].Terms)
  have y4 := nfl_len (X := Y)
  simp only [f88_1]
  rw [if_pos (by omega), ix_nat hi, w64_succ (by omega)]
  unfold fire ruleA
  rw [atom_get hi]
  by_cases c : ((i : Nat) : Int) ≠ skip
  ·rw [if_pos c]
   simp only [c, decide_true, Bool.true_and, bS]
   rw [specKV V.big (by omega), bS, has14 (by omega) (by omega), bS, nfl_has hin, specVars (by omega)]
   cases (kvars l q.Atoms[i]).all Y
   ·simp
   ·simp only [if_true, bS]
    rw [bothS (by omega) (by omega), nfl_has hin]; simp [c]
  ·rw [if_neg c]
   simp [c]) (by
  simp only [f88_1]
  rw [if_neg (by omega), List.take_of_length_le (by rw [rulesA_len]; omega)])
 simp only [List.take_zero, pass, List.foldl_nil, Int.natCast_zero, Int.ofNat_zero] at this
 exact this
theorem roundImp {skip : Int} {X : Int -> Bool} (hX : In4 X) : iter (f100_1 l q.Atoms skip) (nfl X, 0) = some (nfl (pass (rulesA l q skip) X)) := by
 have := iter_steps (f := f100_1 l q.Atoms skip) (fun i => (nfl (pass ((rulesA l q skip).take i) X), (i : Int))) q.Atoms.length (nfl (pass (rulesA l q skip) X)) (fun i hi => by
  have hl := rulesA_len (l := l) (q := q) (skip := skip)
  have n3 := V.n3
  rw [pass_take (by omega), rulesA_get]
  have hin : In4 (pass ((rulesA l q skip).take i) X) := pass_in hX fun r hr => rulesA_in r (List.mem_of_mem_take hr)
  generalize pass ((rulesA l q skip).take i) X = Y at hin
  have hs := small V hi
  have k4 := kvars_len (l := l) (a := q.Atoms[i])
  have a4 := avars_len (t := q.Atoms[i].Terms)
  have y4 := nfl_len (X := Y)
  simp only [f100_1]
  rw [if_pos (by omega), ix_nat hi, w64_succ (by omega)]
  unfold fire ruleA
  rw [atom_get hi]
  by_cases c : ((i : Nat) : Int) ≠ skip
  ·rw [bS, if_pos c]
   simp only [c, decide_true, Bool.true_and, bS]
   rw [impKV V.big (by omega), bS, subset (by omega) (by omega), bS, nfl_has hin, impVars (by omega)]
   have e : (kvars l q.Atoms[i]).all Y = (kvars l q.Atoms[i]).all Y := rfl
   cases (kvars l q.Atoms[i]).all Y
   ·simp
   ·simp only [if_true, bS]
    rw [unionI (by omega) nfl_in avars_in, nfl_has hin]; simp [c]
  ·rw [bS, if_neg c]
   simp [c]) (by
  simp only [f100_1]
  rw [if_neg (by omega), List.take_of_length_le (by rw [rulesA_len]; omega)])
 simp only [List.take_zero, pass, List.foldl_nil, Int.natCast_zero, Int.ofNat_zero] at this
 exact this
theorem closSpec {skip : Int} {vars : List Int} (hv : vQuery l q = true) (hb : Big vars.length) : f88 l q skip vars = some (nfl (closX l q skip (setOf q vars))) := by
 unfold f88
 have f4 := V.free4
 rw [specQ V.big V.fits, hv, bS, if_neg (by simp), bothS hb (by omega), bS, <- nfl_setOf]
 have := iter_steps (f := f88_0 l q skip) (fun i => (nfl (passes (rulesA l q skip) i (setOf q vars)), (i : Int))) q.Atoms.length (nfl (closX l q skip (setOf q vars))) (fun i hi => by
  have n3 := V.n3
  simp only [f88_0]
  rw [if_pos (by omega), roundSpec V (passes_in setOf_in rulesA_in), bS, w64_succ (by omega)]; rfl) (by
  simp only [f88_0]
  rw [if_neg (by omega)]
  unfold closX cl
  rw [rulesA_len])
 simp only [passes, Int.natCast_zero, Int.ofNat_zero] at this
 erw [this]; rfl
theorem closImp {skip : Int} {vars : List Int} (hb : vars.length <= 12) (hi : In4 vars.contains) : f100 l q.Atoms skip vars = some (nfl (closX l q skip vars.contains)) := by
 unfold f100
 rw [unionI (by rw [List.length_nil]; omega) hi (fun v hv => by simp at hv), bS]
 have e : nfl (cupX vars.contains ([] : List Int).contains) = nfl vars.contains := nfl_congr fun v _ => by simp [cupX]
 rw [e]
 refine Ens.eq (Q := fun r => r = nfl (closX l q skip vars.contains)) (Ens.bind (Q := fun r => r = nfl (closX l q skip vars.contains)) ?_ fun a h => Ens.of h) _ fun _ h => h
 refine iter_up (f := f100_0 l q.Atoms skip) 5 (fun j s => s = nfl (passes (rulesA l q skip) j vars.contains) /\ j <= s.length) _ (fun j s hj ⟨h1, h2⟩ => ?_) (fun s ⟨h1, h2⟩ => ?_) _ ⟨rfl, by omega⟩
 ·subst h1
  have hin := passes_in (n := j) hi (rulesA_in (l := l) (q := q) (skip := skip))
  simp only [f100_0]
  rw [roundImp V hin, bS]
  have hle := pass_le (L := rulesA l q skip) (X := passes (rulesA l q skip) j vars.contains)
  by_cases c : (nfl (pass (rulesA l q skip) (passes (rulesA l q skip) j vars.contains))).length <= (nfl (passes (rulesA l q skip) j vars.contains)).length
  ·have e := nfl_len_lt hle c (pass_in hin rulesA_in)
   rw [<- e, if_pos rfl]
   exact ⟨_, rfl, by rw [passes_stop rulesA_mono e.symm]; rfl⟩
  ·rw [if_neg (by omega)]
   exact ⟨_, rfl, rfl, by omega⟩
 ·have := nfl_len (X := passes (rulesA l q skip) 5 vars.contains)
  rw [<- h1] at this
  omega
end
end
section
section
variable {l : List Relation} {q : Query}
def plus (l : List Relation) (q : Query) (k : Nat) : Int -> Bool := closX l q (k : Int) (setOf q (kvars l (atomAt q k)))
theorem plus_in {k : Nat} : In4 (plus l q k) := closX_in setOf_in
def outer (l : List Relation) (q : Query) (k i : Nat) : Int -> Bool := fun v => (avars (atomAt q i).Terms).contains v && !plus l q k v
theorem outer_in {k i : Nat} : In4 (outer l q k i) := fun v hv => by
 unfold outer at hv; simp only [Bool.and_eq_true] at hv
 exact avars_in v hv.1
def ruleS (l : List Relation) (q : Query) (k i : Nat) : Rule := ⟨fun X => decide (i = k) || (avars (atomAt q i).Terms).any X, outer l q k i⟩
def rulesS (l : List Relation) (q : Query) (k : Nat) : List Rule := (List.range q.Atoms.length).map (ruleS l q k)
def ruleI (l : List Relation) (q : Query) (k i : Nat) : Rule := ⟨fun X => (nfl (outer l q k i)).any X, outer l q k i⟩
def rulesI (l : List Relation) (q : Query) (k : Nat) : List Rule := (List.range q.Atoms.length).map (ruleI l q k)
theorem rulesS_len {k : Nat} : (rulesS l q k).length = q.Atoms.length := by simp [rulesS]
theorem rulesI_len {k : Nat} : (rulesI l q k).length = q.Atoms.length := by simp [rulesI]
theorem rulesS_get {k i : Nat} (h : i < (rulesS l q k).length) : (rulesS l q k)[i] = ruleS l q k i := by simp [rulesS]
theorem rulesI_get {k i : Nat} (h : i < (rulesI l q k).length) : (rulesI l q k)[i] = ruleI l q k i := by simp [rulesI]
theorem any_le {t : List Int} {X Y : Int -> Bool} (h : Le4 X Y) (ha : t.any X = true) : t.any Y = true := by
 obtain ⟨v, hv, hx⟩ := List.any_eq_true.1 ha
 exact List.any_eq_true.2 ⟨v, hv, h v hx⟩
theorem rulesS_mono {k : Nat} : ∀ r ∈ rulesS l q k, r.mono := by
 intro r hr
 obtain ⟨i, _, rfl⟩ := List.mem_map.1 hr
 intro X Y h hc
 simp only [ruleS, Bool.or_eq_true] at hc ⊢
 exact hc.imp id (any_le h)
theorem rulesI_mono {k : Nat} : ∀ r ∈ rulesI l q k, r.mono := by
 intro r hr
 obtain ⟨i, _, rfl⟩ := List.mem_map.1 hr
 intro X Y h hc
 exact any_le h hc
theorem rulesS_in {k : Nat} : ∀ r ∈ rulesS l q k, In4 r.a := by
 intro r hr
 obtain ⟨i, _, rfl⟩ := List.mem_map.1 hr
 exact outer_in
theorem rulesI_in {k : Nat} : ∀ r ∈ rulesI l q k, In4 r.a := by
 intro r hr
 obtain ⟨i, _, rfl⟩ := List.mem_map.1 hr
 exact outer_in
theorem none4_in : In4 none4 := fun v hv => by cases hv
def reach (l : List Relation) (q : Query) (k : Nat) : Int -> Bool := cl (rulesS l q k) none4
theorem reach_in {k : Nat} : In4 (reach l q k) := passes_in none4_in rulesS_in
theorem cl_clo {L : List Rule} (hm : ∀ r ∈ L, r.mono) {X : Int -> Bool} : Clo L (cl L X) := passes_clo hm (Nat.le_refl _)
theorem reach_imp {k : Nat} (hk : k < q.Atoms.length) : cl (rulesI l q k) (outer l q k k) = reach l q k := by
 have hno : Le4 (cl (rulesI l q k) (outer l q k k)) (fun v => !plus l q k v) := passes_least rulesI_mono (fun r hr hc v hv => by
  obtain ⟨i, _, rfl⟩ := List.mem_map.1 hr
  simp only [ruleI, outer, Bool.and_eq_true] at hv
  exact hv.2) (fun v hv => by
  simp only [outer, Bool.and_eq_true] at hv; exact hv.2)
 refine cl_uniq rulesS_mono ?_ (fun v hv => by cases hv) (fun Z hz _ => ?_)
 ·intro r hr hc
  obtain ⟨i, hi, rfl⟩ := List.mem_map.1 hr
  simp only [ruleS, Bool.or_eq_true, decide_eq_true_eq] at hc
  rcases hc with rfl | hc
  ·exact passes_le
  ·refine cl_clo (L := rulesI l q k) rulesI_mono (X := outer l q k k) (ruleI l q k i) (List.mem_map.2 ⟨i, hi, rfl⟩) ?_
   obtain ⟨v, hv, hx⟩ := List.any_eq_true.1 hc
   have h1 := hno v hx
   have hv' : (avars (atomAt q i).Terms).contains v = true := by rw [List.contains_iff_mem]; exact hv
   refine List.any_eq_true.2 ⟨v, nfl_mem.2 ⟨?_, avars_in v hv'⟩, hx⟩
   unfold outer; rw [hv']; exact h1
 ·refine passes_least rulesI_mono (fun r hr hc => ?_) ?_
  ·obtain ⟨i, hi, rfl⟩ := List.mem_map.1 hr
   refine hz (ruleS l q k i) (List.mem_map.2 ⟨i, hi, rfl⟩) ?_
   simp only [ruleS, Bool.or_eq_true]
   obtain ⟨v, hv, hx⟩ := List.any_eq_true.1 hc
   have hv := (nfl_mem.1 hv).1
   unfold outer at hv; simp only [Bool.and_eq_true] at hv
   exact .inr (List.any_eq_true.2 ⟨v, by simpa using hv.1, hx⟩)
  ·exact hz (ruleS l q k k) (List.mem_map.2 ⟨k, List.mem_range.2 hk, rfl⟩) (by simp [ruleS])
theorem fireS {k i : Nat} {Y : Int -> Bool} : fire Y (ruleS l q k i) = if (decide (i = k) || (avars (atomAt q i).Terms).any Y) = true then cupX Y (outer l q k i) else Y := rfl
theorem fireI {k i : Nat} {Y : Int -> Bool} : fire Y (ruleI l q k i) = if (nfl (outer l q k i)).any Y = true then cupX Y (outer l q k i) else Y := rfl
theorem keyClos {k : Nat} (V : VQy l q) (hv : vQuery l q = true) (hk : k < q.Atoms.length) : f87 l q (k : Int) = some (nfl (plus l q k)) := by
 unfold f87
 have n3 := V.n3
 have hb : btw (k : Int) 0 (w64 ((q.Atoms.length : Int) - 1)) = true := by rw [w64_of (by omega)]; unfold btw; simp; omega
 rw [specQ V.big V.fits, hv, bS, if_neg (by simp), specIn, hb]
 simp only [bS, not_true_eq_false, decide_false, Bool.false_eq_true, if_false]
 have hs := V.terms _ (List.getElem_mem hk)
 have k4 := kvars_len (l := l) (a := q.Atoms[k])
 rw [ix_nat hk, bS, specKV V.big (by omega), bS, closSpec V hv (by omega)]
 unfold plus; rw [atom_get hk]; rfl
theorem attRound {k : Nat} {X : Int -> Bool} (V : VQy l q) (hk : k < q.Atoms.length) (hX : In4 X) : iter (f62_1 q (k : Int) (nfl (plus l q k))) (nfl X, 0) = some (nfl (pass (rulesS l q k) X)) := by
 have := iter_steps (f := f62_1 q (k : Int) (nfl (plus l q k))) (fun i => (nfl (pass ((rulesS l q k).take i) X), (i : Int))) q.Atoms.length (nfl (pass (rulesS l q k) X)) (fun i hi => by
  have hl := rulesS_len (l := l) (q := q) (k := k)
  have n3 := V.n3
  rw [pass_take (by omega), rulesS_get]
  have hin : In4 (pass ((rulesS l q k).take i) X) := pass_in hX fun r hr => rulesS_in r (List.mem_of_mem_take hr)
  generalize pass ((rulesS l q k).take i) X = Y at hin
  have hs := V.terms _ (List.getElem_mem hi)
  have a4 := avars_len (t := q.Atoms[i].Terms)
  have y4 := nfl_len (X := Y)
  have p4 := nfl_len (X := plus l q k)
  simp only [f62_1]
  rw [if_pos (by omega), ix_nat hi, w64_succ (by omega), bS, specVars (by omega), bS]
  rw [fireS]
  unfold outer
  rw [atom_get hi]
  generalize hA : avars q.Atoms[i].Terms = A at a4
  have inA : In4 A.contains := by rw [<- hA]; exact avars_in
  rw [iter_foldl A (fun b v => b || Y v) id (fun j hj b => by
   simp only [f62_2]
   rw [if_pos (by omega), ix_nat hj, w64_succ (by omega), bS, hasI (by omega), nfl_has hin]
   cases b <;> simp) (fun b => by
   simp only [f62_2]
   rw [if_neg (by omega)]; rfl), foldl_any, bS]
  dsimp only [id]
  have ek : decide (((i : Nat) : Int) = (k : Int)) = decide (i = k) := decide_eq_decide.2 ⟨fun h => by omega, fun h => by omega⟩
  rw [ek]
  cases hc : (decide (i = k) || A.any Y)
  ·have : iter (f62_3 (nfl (plus l q k)) A false) (nfl Y, 0) = some (nfl Y) := iter_steps (fun _ => (nfl Y, 0)) 0 _ (fun i hi => by omega) (by
    simp only [f62_3]
    by_cases c : (0 : Int) < A.length
    ·rw [if_pos c]; rfl
    ·rw [if_neg c]; rfl)
   rw [this]; simp
  ·have := iter_steps (f := f62_3 (nfl (plus l q k)) A true) (fun j => (nfl (fun v => Y v || ((A.take j).contains v && !plus l q k v)), (j : Int))) A.length (nfl (cupX Y fun v => A.contains v && !plus l q k v)) (fun j hj => by
    have z4 := nfl_len (X := fun v => Y v || ((A.take j).contains v && !plus l q k v))
    have zin : In4 (fun v => Y v || ((A.take j).contains v && !plus l q k v)) := fun v hv => by
     simp only [Bool.or_eq_true, Bool.and_eq_true] at hv
     rcases hv with hv | hv
     ·exact hin v hv
     ·exact inA v (by rw [List.contains_iff_mem] at hv ⊢; exact List.mem_of_mem_take hv.1)
    simp only [f62_3]
    rw [if_pos (by omega), bS, if_pos rfl, ix_nat hj, bS, hasI (by omega), nfl_has plus_in, bS, w64_succ (by omega)]
    cases hp : plus l q k A[j]
    ·simp only [Bool.false_eq_true, not_false_eq_true, if_true]
     rw [bothS (by omega) (by simp), nfl_has zin]
     simp only [bS]
     congr 3
     refine nfl_congr fun v _ => ?_
     unfold cupX
     rw [has_succ hj]
     by_cases e : v = A[j]
     ·subst e; simp [hp]
     ·simp [e]
    ·simp only [not_true_eq_false, if_false, bS]
     congr 3
     refine nfl_congr fun v _ => ?_
     rw [has_succ hj]
     by_cases e : v = A[j]
     ·subst e; simp [hp]
     ·simp [e]) (by
    simp only [f62_3]
    rw [if_neg (by omega), List.take_of_length_le (Nat.le_refl _)]; rfl)
   have e0 : nfl (fun v => Y v || ((A.take 0).contains v && !plus l q k v)) = nfl Y := nfl_congr fun v _ => by simp
   simp only [e0, Int.natCast_zero, Int.ofNat_zero] at this
   rw [this]; simp) (by
  simp only [f62_1]
  rw [if_neg (by omega), List.take_of_length_le (by rw [rulesS_len]; omega)])
 simp only [List.take_zero, pass, List.foldl_nil, Int.natCast_zero, Int.ofNat_zero] at this
 exact this
theorem attSpec {k : Nat} (V : VQy l q) (hv : vQuery l q = true) (hk : k < q.Atoms.length) : f62 l q (k : Int) = some (nfl (reach l q k)) := by
 unfold f62
 have n3 := V.n3
 have hb : btw (k : Int) 0 (w64 ((q.Atoms.length : Int) - 1)) = true := by rw [w64_of (by omega)]; unfold btw; simp; omega
 rw [specQ V.big V.fits, hv, bS, if_neg (by simp), specIn, hb]
 simp only [bS, not_true_eq_false, decide_false, Bool.false_eq_true, if_false]
 rw [keyClos V hv hk, bS]
 have := iter_steps (f := f62_0 q (k : Int) (nfl (plus l q k))) (fun i => (nfl (passes (rulesS l q k) i none4), (i : Int))) (q.Atoms.length + 1) (nfl (reach l q k)) (fun i hi => by
  simp only [f62_0]
  rw [if_pos (by omega), attRound V hk (passes_in none4_in rulesS_in), bS, w64_succ (by omega)]; rfl) (by
  simp only [f62_0]
  rw [if_neg (by omega), passes_cl rulesS_mono (by rw [rulesS_len]; omega)]; rfl)
 simp only [passes, Int.natCast_zero, Int.ofNat_zero] at this
 have e0 : nfl none4 = [] := nfl_nil
 rw [e0] at this
 rw [this]; rfl
theorem withoutI {a b : List Int} (ha : a.length <= 1048576) (hb : Big b.length) : f21 a b = some (a.filter fun v => !b.contains v) := by
 unfold f21
 rw [iter_flat a (fun v => if (!b.contains v) = true then [v] else []) id (fun i hi => by
  have el : ((a.take i).flatMap fun v => if (!b.contains v) = true then [v] else []).length <= i := by
   have := take_flat_le (l := a) (i := i) (g := fun v => if (!b.contains v) = true then [v] else []) (m := 1) (fun a => by split <;> simp)
   omega
  generalize ((a.take i).flatMap fun v => if (!b.contains v) = true then [v] else []) = out at el ⊢
  simp only [f21_0]
  rw [if_pos (by omega), ix_nat hi, bS, containsI hb, bS, w64_succ (by omega)]
  cases b.contains a[i]
  ·simp only [Bool.false_eq_true, not_false_eq_true, if_true, Bool.not_false]
   rw [app_fits (by simp; omega)]; rfl
  ·simp) (by
  simp only [f21_0]
  rw [if_neg (by omega)]; rfl)]
 rw [bS]
 congr 1
 dsimp only [id]
 clear ha
 induction a with
 | nil => rfl
 | cons x a ih =>
  rw [List.flatMap_cons, ih, List.filter_cons]
  split <;> simp
theorem nfl_filter {X : Int -> Bool} {p : Int -> Bool} : (nfl X).filter p = nfl (fun v => X v && p v) := by
 refine up_ext (nfl_up.filter _) nfl_up fun y => ?_
 rw [List.mem_filter, nfl_mem, nfl_mem, Bool.and_eq_true]
 exact ⟨fun h => ⟨⟨h.1.1, h.2⟩, h.1.2⟩, fun h => ⟨⟨h.1.1, h.2⟩, h.1.2⟩⟩
theorem filter_lt {a : List Int} {p : Int -> Bool} : decide (((a.filter fun v => !p v).length : Int) < a.length) = a.any p := by
 rw [Bool.eq_iff_iff, decide_eq_true_eq]
 rw [show (((a.filter fun v => !p v).length : Int) < a.length) ↔ (a.filter fun v => !p v).length < a.length by omega]
 rw [List.length_filter_lt_length_iff_exists, List.any_eq_true]
 constructor
 ·rintro ⟨v, h1, h2⟩; exact ⟨v, h1, by simpa using h2⟩
 ·rintro ⟨v, h1, h2⟩; exact ⟨v, h1, by simpa using h2⟩
theorem outer_nfl {k i : Nat} : (avars (atomAt q i).Terms).filter (fun v => !plus l q k v) = nfl (outer l q k i) := by
 rw [avars_nfl, nfl_filter]
 refine nfl_congr fun v hv => ?_
 unfold outer
 congr 1
 rw [Bool.eq_iff_iff, List.contains_iff_mem, List.contains_iff_mem, avars_nfl, nfl_mem, List.contains_iff_mem]
 exact ⟨fun h => ⟨h, hv⟩, fun h => h.1⟩
theorem attRoundI {k : Nat} {X : Int -> Bool} (V : VQy l q) (hX : In4 X) : iter (f81_1 q.Atoms (nfl (plus l q k))) (nfl X, 0) = some (nfl (pass (rulesI l q k) X)) := by
 have := iter_steps (f := f81_1 q.Atoms (nfl (plus l q k))) (fun i => (nfl (pass ((rulesI l q k).take i) X), (i : Int))) q.Atoms.length (nfl (pass (rulesI l q k) X)) (fun i hi => by
  have hl := rulesI_len (l := l) (q := q) (k := k)
  have n3 := V.n3
  rw [pass_take (by omega), rulesI_get]
  have hin : In4 (pass ((rulesI l q k).take i) X) := pass_in hX fun r hr => rulesI_in r (List.mem_of_mem_take hr)
  generalize pass ((rulesI l q k).take i) X = Y at hin
  have hs := V.terms _ (List.getElem_mem hi)
  have a4 := avars_len (t := q.Atoms[i].Terms)
  have y4 := nfl_len (X := Y)
  have p4 := nfl_len (X := plus l q k)
  have o4 := nfl_len (X := outer l q k i)
  simp only [f81_1]
  have eo := outer_nfl (l := l) (q := q) (k := k) (i := i)
  rw [atom_get hi] at eo
  rw [if_pos (by omega), ix_nat hi, w64_succ (by omega), bS, impVars (by omega), bS, withoutI (by omega) (by omega), nfl_has plus_in, eo, bS, withoutI (by omega) (by omega), nfl_has hin, bS]
  have hlt := filter_lt (a := nfl (outer l q k i)) (p := Y)
  rw [fireI]
  cases hc : (nfl (outer l q k i)).any Y
  ·rw [hc] at hlt
   rw [if_neg (by simpa using hlt)]; rfl
  ·rw [hc] at hlt
   rw [if_pos (by simpa using hlt), unionI (by omega) nfl_in nfl_in, nfl_has hin, nfl_has outer_in]; rfl) (by
  simp only [f81_1]
  rw [if_neg (by omega), List.take_of_length_le (by rw [rulesI_len]; omega)])
 simp only [List.take_zero, pass, List.foldl_nil, Int.natCast_zero, Int.ofNat_zero] at this
 exact this
theorem attImp {k : Nat} (V : VQy l q) (hk : k < q.Atoms.length) : f81 l q.Atoms q.Free (k : Int) = some (nfl (reach l q k)) := by
 unfold f81
 have n3 := V.n3
 have f4 := V.free4
 have hs := V.terms _ (List.getElem_mem hk)
 have k4 := kvars_len (l := l) (a := q.Atoms[k])
 have a4 := avars_len (t := q.Atoms[k].Terms)
 have p4 := nfl_len (X := plus l q k)
 have ef : [q.Free, kvars l q.Atoms[k]].flatten = q.Free ++ kvars l q.Atoms[k] := by simp
 rw [ix_nat hk, bS, impKV V.big (by omega), bS, concatN (by simp) (by rw [ef, List.length_append]; omega), ef, bS]
 rw [closImp V (by rw [List.length_append]; omega) (fun v hv => by
  rw [List.contains_iff_mem, List.mem_append] at hv
  rcases hv with hv | hv
  ·exact V.free v (by rw [List.contains_iff_mem]; exact hv)
  ·exact kvars_in v (by rw [List.contains_iff_mem]; exact hv))]
 have e : (q.Free ++ kvars l q.Atoms[k]).contains = setOf q (kvars l (atomAt q k)) := by
  funext v
  unfold setOf
  rw [atom_get hk, Bool.eq_iff_iff, List.contains_iff_mem, List.mem_append, List.contains_iff_mem, nfl_mem]
  unfold cupX
  simp only [Bool.or_eq_true, List.contains_iff_mem]
  constructor
  ·rintro (h | h)
   ·exact ⟨.inr h, V.free v (by rw [List.contains_iff_mem]; exact h)⟩
   ·exact ⟨.inl h, kvars_in v (by rw [List.contains_iff_mem]; exact h)⟩
  ·rintro ⟨h | h, _⟩
   ·exact .inr h
   ·exact .inl h
 rw [e]
 change ((some (nfl (plus l q k))).bind _) = _
 have eo := outer_nfl (l := l) (q := q) (k := k) (i := k)
 rw [atom_get hk] at eo
 rw [bS, impVars (by omega), bS, withoutI (by omega) (by omega), nfl_has plus_in, eo, bS, <- reach_imp hk]
 refine Ens.eq (Q := fun r => r = nfl (cl (rulesI l q k) (outer l q k k))) (Ens.bind (Q := fun r => r = nfl (cl (rulesI l q k) (outer l q k k))) ?_ fun a h => Ens.of h) _ fun _ h => h
 refine iter_up (f := f81_0 q.Atoms (nfl (plus l q k))) 5 (fun j s => s = nfl (passes (rulesI l q k) j (outer l q k k)) /\ j <= s.length) _ (fun j s hj ⟨h1, h2⟩ => ?_) (fun s ⟨h1, h2⟩ => ?_) _ ⟨rfl, by omega⟩
 ·subst h1
  have hin := passes_in (n := j) (outer_in (l := l) (q := q) (k := k) (i := k)) (rulesI_in (l := l) (q := q) (k := k))
  simp only [f81_0]
  rw [attRoundI V hin, bS]
  have hle := pass_le (L := rulesI l q k) (X := passes (rulesI l q k) j (outer l q k k))
  by_cases c : (nfl (pass (rulesI l q k) (passes (rulesI l q k) j (outer l q k k)))).length <= (nfl (passes (rulesI l q k) j (outer l q k k))).length
  ·have e := nfl_len_lt hle c (pass_in hin rulesI_in)
   rw [<- e, if_pos rfl]
   exact ⟨_, rfl, by rw [passes_stop rulesI_mono e.symm]⟩
  ·rw [if_neg (by omega)]
   exact ⟨_, rfl, rfl, by omega⟩
 ·have := nfl_len (X := passes (rulesI l q k) 5 (outer l q k k))
  rw [<- h1] at this
  omega
def att (l : List Relation) (q : Query) (i k : Nat) : Bool := decide (i ≠ k) && (avars (atomAt q k).Terms).any (reach l q i)
def hAtt (l : List Relation) (q : Query) (i k : Int) : Bool := vQuery l q && (btw i 0 (q.Atoms.length - 1) && (btw k 0 (q.Atoms.length - 1) && att l q i.toNat k.toNat))
theorem btw_nat {i : Int} {n : Nat} (h : btw i 0 ((n : Int) - 1) = true) : ∃ k : Nat, i = k /\ k < n := by
 unfold btw at h; simp only [Bool.and_eq_true, decide_eq_true_eq] at h
 exact ⟨i.toNat, by omega, by omega⟩
theorem hasSpec {i k : Int} (hl : Big l.length) (hq : FitsQ q) : f30 l q i k = some (hAtt l q i k) := by
 unfold f30 hAtt
 rw [specQ hl hq, bS]
 have hn := hq.1
 cases hv : vQuery l q
 ·simp
 have V := vq_of hl hq hv
 rw [w64_of (by omega)]
 simp only [specIn, not_true_eq_false, if_false, bS, Bool.true_and]
 cases hi : btw i 0 ((q.Atoms.length : Int) - 1)
 ·simp
 cases hk : btw k 0 ((q.Atoms.length : Int) - 1)
 ·simp
 obtain ⟨i, rfl, hi'⟩ := btw_nat hi
 obtain ⟨k, rfl, hk'⟩ := btw_nat hk
 simp only [not_true_eq_false, if_false, bS, Int.toNat_natCast, Bool.true_and]
 unfold att
 have ek : decide (((i : Nat) : Int) = (k : Int)) = decide (i = k) := decide_eq_decide.2 ⟨fun h => by omega, fun h => by omega⟩
 rw [ek]
 by_cases c : i = k
 ·simp [c]
 have hs := V.terms _ (List.getElem_mem hk')
 have a4 := avars_len (t := q.Atoms[k].Terms)
 have r4 := nfl_len (X := reach l q i)
 simp only [c, decide_false, Bool.false_eq_true, if_false]
 rw [attSpec V hv hi', bS, ix_nat hk', bS, specVars (by omega), bS, atom_get hk']
 rw [iter_ex (avars q.Atoms[k].Terms) (reach l q i) true (fun j hj => by
  simp only [f30_0]
  rw [if_pos (by omega), ix_nat hj, bS, hasI (by omega), nfl_has reach_in, w64_succ (by omega)]
  cases reach l q i (avars q.Atoms[k].Terms)[j] <;> simp) (by
  simp only [f30_0]
  rw [if_neg (by omega)])]
 cases (avars q.Atoms[k].Terms).any (reach l q i) <;> simp [c]
theorem hasImp {i k : Int} (hl : Big l.length) (hq : FitsQ q) : f50 l q i k = some (hAtt l q i k) := by
 unfold f50 hAtt
 rw [impQ hl hq, bS]
 have hn := hq.1
 cases hv : vQuery l q
 ·simp
 have V := vq_of hl hq hv
 rw [w64_of (by omega)]
 simp only [impIn, if_true, bS, Bool.true_and]
 cases hi : btw i 0 ((q.Atoms.length : Int) - 1)
 ·simp
 cases hk : btw k 0 ((q.Atoms.length : Int) - 1)
 ·simp
 obtain ⟨i, rfl, hi'⟩ := btw_nat hi
 obtain ⟨k, rfl, hk'⟩ := btw_nat hk
 simp only [if_true, bS, Int.toNat_natCast, Bool.true_and]
 unfold f54 att
 have hs := V.terms _ (List.getElem_mem hk')
 have a4 := avars_len (t := q.Atoms[k].Terms)
 have r4 := nfl_len (X := reach l q i)
 rw [ix_nat hk', bS, impVars (by omega), bS, atom_get hk']
 by_cases c : i = k
 ·simp [c]
 rw [if_pos (by omega), attImp V hi', bS, withoutI (by omega) (by omega), nfl_has reach_in, bS, filter_lt]
 simp [c]
end
end
section
section
variable {l : List Relation} {q : Query}
def ruleP (l : List Relation) (q : Query) (i a : Nat) : Rule := ⟨fun X => decide (a = i) || X ((a : Nat) : Int), fun b => hAtt l q ((a : Nat) : Int) b⟩
def rulesP (l : List Relation) (q : Query) (i : Nat) : List Rule := (List.range q.Atoms.length).map (ruleP l q i)
theorem rulesP_len {i : Nat} : (rulesP l q i).length = q.Atoms.length := by simp [rulesP]
theorem rulesP_get {i k : Nat} (h : k < (rulesP l q i).length) : (rulesP l q i)[k] = ruleP l q i k := by simp [rulesP]
theorem rulesP_mono {i : Nat} : ∀ r ∈ rulesP l q i, r.mono := by
 intro r hr
 obtain ⟨a, _, rfl⟩ := List.mem_map.1 hr
 intro X Y h hc
 simp only [ruleP, Bool.or_eq_true] at hc ⊢
 exact hc.imp id (h _)
theorem fireP {i a : Nat} {Y : Int -> Bool} : fire Y (ruleP l q i a) = if (decide (a = i) || Y ((a : Nat) : Int)) = true then cupX Y (fun b => hAtt l q ((a : Nat) : Int) b) else Y := rfl
def pathTo (l : List Relation) (q : Query) (i : Nat) : Int -> Bool := cl (rulesP l q i) none4
def hPath (l : List Relation) (q : Query) (i k : Int) : Bool := vQuery l q && (btw i 0 (q.Atoms.length - 1) && (btw k 0 (q.Atoms.length - 1) && pathTo l q i.toNat k))
theorem hAtt_self {a : Int} : hAtt l q a a = false := by unfold hAtt att; simp
theorem hAtt_rng {a b : Int} (h : hAtt l q a b = true) : ∃ k : Nat, b = k /\ k < q.Atoms.length := by
 unfold hAtt at h; simp only [Bool.and_eq_true] at h
 exact btw_nat h.2.2.1
theorem pathInner {i a : Nat} {X : Int -> Bool} (V : VQy l q) (ha : a < q.Atoms.length) : iter (f32_2 l q (i : Int) (a : Int)) (bl q.Atoms.length X, 0) = some (bl q.Atoms.length (fire X (ruleP l q i a))) := by
 have n3 := V.n3
 have := iter_steps (f := f32_2 l q (i : Int) (a : Int)) (fun b => (bl q.Atoms.length (fun v => X v || (decide (v < ((b : Nat) : Int)) && ((decide (a = i) || X ((a : Nat) : Int)) && hAtt l q ((a : Nat) : Int) v))), (b : Int))) q.Atoms.length (bl q.Atoms.length (fire X (ruleP l q i a))) (fun b hb => by
  simp only [f32_2]
  rw [if_pos (by omega), bl_get ha, w64_succ (by omega)]
  simp only [hasSpec V.big V.fits, bS]
  rw [hAtt_self]
  have e1 : (if ((a : Nat) : Int) = (i : Int) then some (hAtt l q ((a : Nat) : Int) ((b : Nat) : Int)) else (if (X ((a : Nat) : Int) || (decide (((a : Nat) : Int) < ((b : Nat) : Int)) && ((decide (a = i) || X ((a : Nat) : Int)) && false))) = true then some (hAtt l q ((a : Nat) : Int) ((b : Nat) : Int)) else some false).bind fun x => some x) = some ((decide (a = i) || X ((a : Nat) : Int)) && hAtt l q ((a : Nat) : Int) ((b : Nat) : Int)) := by
   by_cases c : a = i
   ·rw [if_pos (by omega)]; simp [c]
   ·rw [if_neg (by omega)]
    cases X ((a : Nat) : Int) <;> simp [c]
  rw [e1, bS]
  cases hc : ((decide (a = i) || X ((a : Nat) : Int)) && hAtt l q ((a : Nat) : Int) ((b : Nat) : Int))
  ·simp only [Bool.false_eq_true, if_false, bS]
   congr 3
   refine bl_congr fun v hv => ?_
   by_cases e : v = b
   ·subst e
    rw [hc]; simp
   ·have : decide (((v : Nat) : Int) < ((b : Nat) : Int)) = decide (((v : Nat) : Int) < ((b + 1 : Nat) : Int)) := decide_eq_decide.2 ⟨fun h => by omega, fun h => by omega⟩
    rw [this]
  ·simp only [if_true]
   rw [bl_get hb, bS, bS, Int.toNat_natCast, bl_set]
   congr 3
   refine bl_congr fun v hv => ?_
   by_cases e : v = b
   ·subst e
    rw [hc]
    have h1 : decide (((v : Nat) : Int) < ((v + 1 : Nat) : Int)) = true := decide_eq_true (by omega)
    have h2 : decide (((v : Nat) : Int) = ((v : Nat) : Int)) = true := decide_eq_true rfl
    rw [h1, h2]; simp
   ·have h1 : decide (((v : Nat) : Int) < ((b : Nat) : Int)) = decide (((v : Nat) : Int) < ((b + 1 : Nat) : Int)) := decide_eq_decide.2 ⟨fun h => by omega, fun h => by omega⟩
    have h2 : decide (((v : Nat) : Int) = ((b : Nat) : Int)) = false := decide_eq_false (by omega)
    rw [h1, h2, Bool.or_false]) (by
  simp only [f32_2]
  rw [if_neg (by omega)]
  congr 2
  refine bl_congr fun v hv => ?_
  rw [fireP]
  have : ((v : Nat) : Int) < ((q.Atoms.length : Nat) : Int) := by omega
  cases decide (a = i) || X ((a : Nat) : Int)
  ·simp
  ·simp [this, cupX])
 have e0 : bl q.Atoms.length (fun v => X v || (decide (v < ((0 : Nat) : Int)) && ((decide (a = i) || X ((a : Nat) : Int)) && hAtt l q ((a : Nat) : Int) v))) = bl q.Atoms.length X := bl_congr fun v _ => by
  have : decide (((v : Nat) : Int) < ((0 : Nat) : Int)) = false := decide_eq_false (by omega)
  rw [this]; simp
 rw [e0] at this
 exact this
theorem pathRound {i : Nat} {X : Int -> Bool} (V : VQy l q) : iter (f32_1 l q (i : Int)) (bl q.Atoms.length X, 0) = some (bl q.Atoms.length (pass (rulesP l q i) X)) := by
 have n3 := V.n3
 have := iter_steps (f := f32_1 l q (i : Int)) (fun a => (bl q.Atoms.length (pass ((rulesP l q i).take a) X), (a : Int))) q.Atoms.length (bl q.Atoms.length (pass (rulesP l q i) X)) (fun a ha => by
  simp only [f32_1]
  rw [if_pos (by omega), pathInner V ha, bS, w64_succ (by omega), pass_take (by rw [rulesP_len]; exact ha), rulesP_get]) (by
  simp only [f32_1]
  rw [if_neg (by omega), List.take_of_length_le (by rw [rulesP_len]; omega)])
 simp only [List.take_zero, pass, List.foldl_nil, Int.natCast_zero, Int.ofNat_zero] at this
 exact this
theorem pathSpec {i k : Int} (hl : Big l.length) (hq : FitsQ q) : f32 l q i k = some (hPath l q i k) := by
 unfold f32 hPath
 rw [specQ hl hq, bS]
 have hn := hq.1
 cases hv : vQuery l q
 ·simp
 have V := vq_of hl hq hv
 rw [w64_of (by omega)]
 simp only [specIn, not_true_eq_false, if_false, bS, Bool.true_and]
 cases hi : btw i 0 ((q.Atoms.length : Int) - 1)
 ·simp
 cases hk : btw k 0 ((q.Atoms.length : Int) - 1)
 ·simp
 obtain ⟨i, rfl, hi'⟩ := btw_nat hi
 obtain ⟨k, rfl, hk'⟩ := btw_nat hk
 simp only [not_true_eq_false, if_false, bS, Int.toNat_natCast, Bool.true_and, decide_false, Bool.false_eq_true]
 rw [mkl_ok (by omega) (by omega) (by omega), bS, Int.toNat_natCast, bl_none]
 have := iter_steps (f := f32_0 l q (i : Int)) (fun j => (bl q.Atoms.length (passes (rulesP l q i) j none4), (j : Int))) (q.Atoms.length + 1) (bl q.Atoms.length (pathTo l q i)) (fun j hj => by
  simp only [f32_0]
  rw [if_pos (by omega), pathRound V, bS, w64_succ (by omega)]; rfl) (by
  simp only [f32_0]
  rw [if_neg (by omega), passes_cl rulesP_mono (by rw [rulesP_len]; omega)]; rfl)
 simp only [passes, Int.natCast_zero, Int.ofNat_zero] at this
 erw [this]
 rw [bS, bl_get hk']; rfl
theorem bfsRound {i j : Nat} {H : List Int} {v : Int} (V : VQy l q) (hj : j < (((i : Nat) : Int) :: H).length) (hv : v = ((i : Nat) : Int) \/ pathTo l q i v = true)
  (hvr : ∃ a : Nat, v = a /\ a < q.Atoms.length) (hd : H.Nodup) (hr : ∀ x ∈ H, 0 <= x /\ x < q.Atoms.length) (hs : ∀ x ∈ H, pathTo l q i x = true) :
  Ens (iter (f52_1 l q v) (bl q.Atoms.length H.contains, (((i : Nat) : Int) :: H).drop (j + 1), 0)) fun o => ∃ t, o = (bl q.Atoms.length (H ++ t).contains, (((i : Nat) : Int) :: (H ++ t)).drop (j + 1)) /\ (H ++ t).Nodup /\ (∀ x ∈ H ++ t, 0 <= x /\ x < q.Atoms.length) /\ (∀ x ∈ H ++ t, pathTo l q i x = true) /\ ∀ b : Nat, b < q.Atoms.length -> hAtt l q v ((b : Nat) : Int) = true -> ((b : Nat) : Int) ∈ H ++ t := by
 have n3 := V.n3
 refine iter_up (f := f52_1 l q v) q.Atoms.length (fun x s => s.2.2 = (x : Int) /\ ∃ t, s.1 = bl q.Atoms.length (H ++ t).contains /\ s.2.1 = (((i : Nat) : Int) :: (H ++ t)).drop (j + 1) /\ (H ++ t).Nodup /\ (∀ x ∈ H ++ t, 0 <= x /\ x < q.Atoms.length) /\ (∀ x ∈ H ++ t, pathTo l q i x = true) /\ ∀ b : Nat, b < x -> hAtt l q v ((b : Nat) : Int) = true -> ((b : Nat) : Int) ∈ H ++ t) _ (fun x s hx hI => ?_) (fun s hI => ?_) _ ⟨rfl, [], by simp, by simp, by simpa using hd, by simpa using hr, by simpa using hs, fun b hb => by omega⟩
 ·obtain ⟨r, td, y⟩ := s
  obtain ⟨e1, t, e2, e3, d1, d2, d3, d4⟩ := hI
  dsimp only at e1 e2 e3
  subst e1; subst e2; subst e3
  simp only [f52_1]
  rw [if_pos (by omega), bl_get hx, bS, w64_succ (by omega)]
  simp only [hasImp V.big V.fits, bS]
  have hlen := nodup_le d1 d2
  cases hc : (H ++ t).contains ((x : Nat) : Int)
  ·have hnm : ¬ ((x : Nat) : Int) ∈ H ++ t := fun h => by rw [<- List.contains_iff_mem, hc] at h; cases h
   simp only [Bool.false_eq_true, not_false_eq_true, if_true, bS]
   cases ht : hAtt l q v ((x : Nat) : Int)
   ·simp only [Bool.false_eq_true, if_false, bS]
    refine ⟨_, rfl, rfl, t, rfl, rfl, d1, d2, d3, fun b hb hh => ?_⟩
    by_cases e : b = x
    ·subst e; rw [ht] at hh; cases hh
    ·exact d4 b (by omega) hh
   ·simp only [if_true]
    rw [app_fits (by simp only [List.length_drop, List.length_cons, List.length_nil]; omega)]
    simp only [bS, Int.toNat_natCast]
    refine ⟨_, rfl, rfl, t ++ [((x : Nat) : Int)], ?_, ?_, ?_, ?_, ?_, ?_⟩
    ·dsimp only
     rw [bl_set]
     refine bl_congr fun u hu => ?_
     rw [<- List.append_assoc, Bool.eq_iff_iff]
     simp only [Bool.or_eq_true, List.contains_iff_mem, decide_eq_true_eq, List.mem_append, List.mem_singleton]
    ·dsimp only
     have e : ((i : Nat) : Int) :: (H ++ (t ++ [((x : Nat) : Int)])) = (((i : Nat) : Int) :: (H ++ t)) ++ [((x : Nat) : Int)] := by simp
     rw [e, List.drop_append_of_le_length]
     simp only [List.length_cons, List.length_append] at hj ⊢; omega
    ·rw [<- List.append_assoc]
     refine List.nodup_append.2 ⟨d1, by simp, fun a ha b hb e => ?_⟩
     rw [List.mem_singleton] at hb
     subst e; subst hb; exact hnm ha
    ·intro u hu
     rw [<- List.append_assoc] at hu
     rcases List.mem_append.1 hu with hu | hu
     ·exact d2 u hu
     ·rw [List.mem_singleton] at hu; subst hu; omega
    ·intro u hu
     rw [<- List.append_assoc] at hu
     rcases List.mem_append.1 hu with hu | hu
     ·exact d3 u hu
     ·rw [List.mem_singleton] at hu; subst hu
      obtain ⟨a, rfl, ha⟩ := hvr
      refine cl_clo (L := rulesP l q i) rulesP_mono (X := none4) (ruleP l q i a) (List.mem_map.2 ⟨a, List.mem_range.2 ha, rfl⟩) ?_ _ ht
      simp only [ruleP, Bool.or_eq_true, decide_eq_true_eq]
      exact hv.imp (fun h => by omega) id
    ·intro b hb hh
     rw [<- List.append_assoc]
     by_cases e : b = x
     ·subst e; simp
     ·exact List.mem_append_left _ (d4 b (by omega) hh)
  ·simp only [not_true_eq_false, if_false, bS, Bool.false_eq_true]
   refine ⟨_, rfl, rfl, t, rfl, rfl, d1, d2, d3, fun b hb hh => ?_⟩
   by_cases e : b = x
   ·subst e; rwa [List.contains_iff_mem] at hc
   ·exact d4 b (by omega) hh
 ·obtain ⟨r, td, y⟩ := s
  obtain ⟨e1, t, e2, e3, d1, d2, d3, d4⟩ := hI
  dsimp only at e1 e2 e3
  subst e1; subst e2; subst e3
  simp only [f52_1]
  rw [if_neg (by omega)]
  exact ⟨_, rfl, t, rfl, d1, d2, d3, d4⟩
theorem pathImp {i k : Int} (hl : Big l.length) (hq : FitsQ q) : f52 l q i k = some (hPath l q i k) := by
 unfold f52 hPath
 rw [impQ hl hq, bS]
 have hn := hq.1
 cases hv : vQuery l q
 ·simp
 have V := vq_of hl hq hv
 have n1 := V.n1
 have n3 := V.n3
 rw [w64_of (n := (q.Atoms.length : Int) - 1) (by omega)]
 simp only [impIn, not_true_eq_false, if_false, bS, Bool.true_and]
 cases hi : btw i 0 ((q.Atoms.length : Int) - 1)
 ·simp
 cases hk : btw k 0 ((q.Atoms.length : Int) - 1)
 ·simp
 obtain ⟨i, rfl, hi'⟩ := btw_nat hi
 obtain ⟨k, rfl, hk'⟩ := btw_nat hk
 simp only [not_true_eq_false, if_false, bS, Int.toNat_natCast, Bool.true_and, decide_false, Bool.false_eq_true]
 rw [w64_of (by omega), show (q.Atoms.length : Int) - 1 + 1 = (q.Atoms.length : Int) by omega, mkl_ok (by omega) (by omega) (by omega), bS, Int.toNat_natCast, bl_none]
 refine Ens.eq (Q := fun r => r = pathTo l q i ((k : Nat) : Int)) (Ens.bind (Q := fun r => r = bl q.Atoms.length (pathTo l q i)) ?_ fun a h => ?_) _ fun _ h => h
 ·have e0 : bl q.Atoms.length none4 = bl q.Atoms.length ([] : List Int).contains := bl_congr fun v _ => by simp [none4]
  rw [e0]
  refine iter_up (f := f52_0 l q) (q.Atoms.length + 1) (fun j s => ∃ H : List Int, s = (bl q.Atoms.length H.contains, (((i : Nat) : Int) :: H).drop j) /\ H.Nodup /\ (∀ x ∈ H, 0 <= x /\ x < q.Atoms.length) /\ (∀ x ∈ H, pathTo l q i x = true) /\ ∀ p (hp : p < (((i : Nat) : Int) :: H).length), p < j -> ∀ b : Nat, b < q.Atoms.length -> hAtt l q ((((i : Nat) : Int) :: H)[p]) ((b : Nat) : Int) = true -> ((b : Nat) : Int) ∈ H) (fun r => r = bl q.Atoms.length (pathTo l q i)) (fun j s hj hI => ?_) (fun s hI => ?_) _ ⟨[], by simp, by simp, by simp, by simp, fun p _ hp => by omega⟩
  ·obtain ⟨H, rfl, d1, d2, d3, d4⟩ := hI
   have hlen := nodup_le d1 d2
   simp only [f52_0]
   by_cases c : j < (((i : Nat) : Int) :: H).length
   ·have hdl : ((((i : Nat) : Int) :: H).drop j).length = (((i : Nat) : Int) :: H).length - j := List.length_drop
    have hcut : cutL ((((i : Nat) : Int) :: H).drop j) 1 (((((i : Nat) : Int) :: H).drop j).length : Int) = some ((((i : Nat) : Int) :: H).drop (j + 1)) := by
     rw [cutL_ok (by omega) (by rw [hdl]; omega) (by omega), Int.toNat_natCast, List.take_of_length_le (Nat.le_refl _), List.drop_drop]; rfl
    have hix : ix ((((i : Nat) : Int) :: H).drop j) 0 = some ((((i : Nat) : Int) :: H)[j]) := by
     rw [ix_of (by omega), List.getElem?_drop]
     simp only [Int.toNat_zero, Nat.add_zero]
     exact zE c
    rw [if_pos (by omega), hix, bS, hcut, bS]
    have hm : (((i : Nat) : Int) :: H)[j] = ((i : Nat) : Int) \/ (((i : Nat) : Int) :: H)[j] ∈ H := by
     have := List.getElem_mem c
     rwa [List.mem_cons] at this
    obtain ⟨o, ho, t, rfl, g1, g2, g3, g4⟩ := bfsRound (v := (((i : Nat) : Int) :: H)[j]) V c (hm.imp id (d3 _)) (by
     rcases hm with h | h
     ·exact ⟨i, h, hi'⟩
     ·have := d2 _ h; exact ⟨((((i : Nat) : Int) :: H)[j]).toNat, by omega, by omega⟩) d1 d2 d3
    rw [ho]
    refine ⟨_, rfl, H ++ t, rfl, g1, g2, g3, fun p hp hpj b hb hh => ?_⟩
    have hp' : p < (((i : Nat) : Int) :: H).length := by omega
    have eg : (((i : Nat) : Int) :: (H ++ t))[p] = (((i : Nat) : Int) :: H)[p] := by
     simp only [<- List.cons_append]
     exact List.getElem_append_left hp'
    rw [eg] at hh
    by_cases e : p = j
    ·subst e; exact g4 b hb hh
    ·exact List.mem_append_left _ (d4 p hp' (by omega) b hb hh)
   ·have hdl : ((((i : Nat) : Int) :: H).drop j).length = 0 := by rw [List.length_drop]; omega
    rw [if_neg (by omega)]
    refine ⟨_, rfl, ?_⟩
    dsimp only
    refine bl_congr fun u hu => ?_
    rw [Bool.eq_iff_iff, List.contains_iff_mem]
    refine ⟨d3 _, fun h => ?_⟩
    have hcl : Clo (rulesP l q i) H.contains := fun r hr hc b hb => by
     obtain ⟨a, ha, rfl⟩ := List.mem_map.1 hr
     simp only [ruleP, Bool.or_eq_true, decide_eq_true_eq] at hc hb
     obtain ⟨b, rfl, hbn⟩ := hAtt_rng hb
     rw [List.contains_iff_mem]
     rcases hc with rfl | hc
     ·exact d4 0 (by simp) (by simp only [List.length_cons] at c; omega) b hbn hb
     ·rw [List.contains_iff_mem] at hc
      obtain ⟨p, hp, e⟩ := List.mem_iff_getElem.1 hc
      refine d4 (p + 1) (by simp only [List.length_cons]; omega) (by simp only [List.length_cons] at c; omega) b hbn ?_
      rw [List.getElem_cons_succ, e]; exact hb
    have := passes_least (rulesP_mono (l := l) (q := q) (i := i)) hcl (X := none4) (fun v hv => by cases hv) (n := (rulesP l q i).length) _ h
    rwa [List.contains_iff_mem] at this
  ·obtain ⟨H, rfl, d1, d2, d3, d4⟩ := hI
   have hlen := nodup_le d1 d2
   simp only [f52_0]
   have hdl : ((((i : Nat) : Int) :: H).drop (q.Atoms.length + 1)).length = 0 := by rw [List.length_drop, List.length_cons]; omega
   rw [if_neg (by omega)]
   refine ⟨_, rfl, ?_⟩
   refine bl_congr fun u hu => ?_
   rw [Bool.eq_iff_iff, List.contains_iff_mem]
   refine ⟨d3 _, fun h => ?_⟩
   have hcl : Clo (rulesP l q i) H.contains := fun r hr hc b hb => by
    obtain ⟨a, ha, rfl⟩ := List.mem_map.1 hr
    simp only [ruleP, Bool.or_eq_true, decide_eq_true_eq] at hc hb
    obtain ⟨b, rfl, hbn⟩ := hAtt_rng hb
    rw [List.contains_iff_mem]
    rcases hc with rfl | hc
    ·exact d4 0 (by simp) (by omega) b hbn hb
    ·rw [List.contains_iff_mem] at hc
     obtain ⟨p, hp, e⟩ := List.mem_iff_getElem.1 hc
     refine d4 (p + 1) (by simp only [List.length_cons]; omega) (by omega) b hbn ?_
     rw [List.getElem_cons_succ, e]; exact hb
   have := passes_least (rulesP_mono (l := l) (q := q) (i := i)) hcl (X := none4) (fun v hv => by cases hv) (n := (rulesP l q i).length) _ h
   rwa [List.contains_iff_mem] at this
 ·subst h
  rw [bl_get hk']; exact Ens.of rfl
end
end
section
section
variable {l : List Relation} {q : Query}
def hCyc (l : List Relation) (q : Query) : Bool := (List.range q.Atoms.length).any fun i => hPath l q ((i : Nat) : Int) ((i : Nat) : Int)
theorem cycSpec (hl : Big l.length) (hq : FitsQ q) : f33 l q = some (hCyc l q) := by
 unfold f33
 have hn := hq.1
 rw [iter_ex (List.range q.Atoms.length) (fun i => hPath l q ((i : Nat) : Int) ((i : Nat) : Int)) true (fun i hi => by
  simp only [List.length_range] at hi
  simp only [List.getElem_range]
  simp only [f33_0]
  rw [if_pos (by omega), pathSpec hl hq, bS, w64_succ (by omega)]
  split <;> rfl) (by
  simp only [f33_0]
  rw [if_neg (by simp)])]
 unfold hCyc
 cases (List.range q.Atoms.length).any fun i => hPath l q ((i : Nat) : Int) ((i : Nat) : Int) <;> simp
theorem cycImp (hl : Big l.length) (hq : FitsQ q) : f53 l q = some (hCyc l q) := by
 unfold f53
 have hn := hq.1
 rw [iter_ex (List.range q.Atoms.length) (fun i => hPath l q ((i : Nat) : Int) ((i : Nat) : Int)) true (fun i hi => by
  simp only [List.length_range] at hi
  simp only [List.getElem_range]
  simp only [f53_0]
  rw [if_pos (by omega), pathImp hl hq, bS, w64_succ (by omega)]
  split <;> rfl) (by
  simp only [f53_0]
  rw [if_neg (by simp)])]
 unfold hCyc
 cases (List.range q.Atoms.length).any fun i => hPath l q ((i : Nat) : Int) ((i : Nat) : Int) <;> simp
end
end
section
section
variable {l : List Relation} {q : Query}
def deter (l : List Relation) (q : Query) (a b : List Int) : Bool := vQuery l q && b.all (closX l q (-1) (setOf q a))
theorem detSpec {a b : List Int} (hl : Big l.length) (hq : FitsQ q) (ha : Big a.length) (hb : Big b.length) : f63 l q a b = some (deter l q a b) := by
 unfold f63 deter
 rw [specQ hl hq, bS]
 cases hv : vQuery l q
 ·simp
 have V := vq_of hl hq hv
 have c4 := nfl_len (X := closX l q (-1) (setOf q a))
 simp only [if_true]
 rw [closSpec V hv ha, bS, has14 (by omega) hb, nfl_has (closX_in setOf_in)]
 simp
theorem detImp {a b : List Int} (hl : Big l.length) (hq : FitsQ q) (ha : a.length <= 8) (hai : In4 a.contains) (hb : Big b.length) : f80 l q a b = some (deter l q a b) := by
 unfold f80 deter
 rw [impQ hl hq, bS]
 cases hv : vQuery l q
 ·simp
 have V := vq_of hl hq hv
 have f4 := V.free4
 simp only [if_true]
 have key : f99 l q (-1) a = some (nfl (closX l q (-1) (setOf q a))) := by
  unfold f99 f119
  rw [impQ hl hq, hv, bS, if_neg (by simp), app_fits (by simp; omega)]
  simp only [bS, List.nil_append]
  have it := iter_steps (f := f99_0 a) (fun i => (q.Free ++ a.take i, (i : Int))) a.length (q.Free ++ a) (fun i hi => by
   simp only [f99_0]
   have hb : btw a[i] 0 3 = true := hai _ (by rw [List.contains_iff_mem]; exact List.getElem_mem hi)
   rw [if_pos (by omega), ix_nat hi, bS, impIn, hb, w64_succ (by omega)]
   simp only [bS, if_true]
   rw [app_fits (by simp; omega)]
   simp only [bS]
   rw [take_succ' hi, List.append_assoc]) (by
   simp only [f99_0]
   rw [if_neg (by omega), List.take_of_length_le (Nat.le_refl _)])
  simp only [List.take_zero, List.append_nil, Int.natCast_zero, Int.ofNat_zero] at it
  rw [it, bS, closImp V (by simp; omega) (fun v hv => by
   rw [List.contains_iff_mem, List.mem_append] at hv
   rcases hv with hv | hv
   ·exact V.free v (by rw [List.contains_iff_mem]; exact hv)
   ·exact hai v (by rw [List.contains_iff_mem]; exact hv))]
  have e : (q.Free ++ a).contains = setOf q a := by
   funext v
   unfold setOf
   rw [Bool.eq_iff_iff, List.contains_iff_mem, List.mem_append, List.contains_iff_mem, nfl_mem]
   unfold cupX
   simp only [Bool.or_eq_true, List.contains_iff_mem]
   constructor
   ·rintro (h | h)
    ·exact ⟨.inr h, V.free v (by rw [List.contains_iff_mem]; exact h)⟩
    ·exact ⟨.inl h, hai v (by rw [List.contains_iff_mem]; exact h)⟩
   ·rintro ⟨h | h, _⟩
    ·exact .inr h
    ·exact .inl h
  rw [e]; rfl
 have c4 := nfl_len (X := closX l q (-1) (setOf q a))
 rw [key, bS, subset hb (by omega), nfl_has (closX_in setOf_in)]
 simp
def hWeak (l : List Relation) (q : Query) (i k : Int) : Bool := hAtt l q i k && deter l q (kvars l (atomAt q i.toNat)) (kvars l (atomAt q k.toNat))
theorem weakSpec {i k : Int} (hl : Big l.length) (hq : FitsQ q) : f31 l q i k = some (hWeak l q i k) := by
 unfold f31 hWeak
 rw [hasSpec hl hq, bS]
 cases h : hAtt l q i k
 ·simp
 unfold hAtt at h; simp only [Bool.and_eq_true] at h
 obtain ⟨i, rfl, hi⟩ := btw_nat h.2.1
 obtain ⟨k, rfl, hk⟩ := btw_nat h.2.2.1
 have h1 := hq.2.1 _ (List.getElem_mem hi)
 have h2 := hq.2.1 _ (List.getElem_mem hk)
 have k1 := kvars_len (l := l) (a := q.Atoms[i])
 have k2 := kvars_len (l := l) (a := q.Atoms[k])
 simp only [if_true, Int.toNat_natCast, Bool.true_and]
 rw [ix_nat hi, ix_nat hk, atom_get hi, atom_get hk]
 simp only [bS]
 rw [specKV hl (by omega), bS, specKV hl (by omega), bS, detSpec hl hq (by omega) (by omega)]
 rfl
theorem weakImp {i k : Int} (hl : Big l.length) (hq : FitsQ q) : f51 l q i k = some (hWeak l q i k) := by
 unfold f51 hWeak
 rw [hasImp hl hq, bS]
 cases h : hAtt l q i k
 ·simp
 unfold hAtt at h; simp only [Bool.and_eq_true] at h
 have V := vq_of hl hq h.1
 obtain ⟨i, rfl, hi⟩ := btw_nat h.2.1
 obtain ⟨k, rfl, hk⟩ := btw_nat h.2.2.1
 have h1 := V.terms _ (List.getElem_mem hi)
 have h2 := V.terms _ (List.getElem_mem hk)
 have k1 := kvars_len (l := l) (a := q.Atoms[i])
 have k2 := kvars_len (l := l) (a := q.Atoms[k])
 simp only [if_true, Int.toNat_natCast, Bool.true_and]
 rw [ix_nat hi, ix_nat hk, atom_get hi, atom_get hk]
 simp only [bS]
 rw [impKV hl (by omega), bS, impKV hl (by omega), bS, detImp hl hq (by omega) kvars_in (by omega)]
 rfl
def hard (l : List Relation) (q : Query) (i k : Nat) : Bool := hAtt l q ((i : Nat) : Int) ((k : Nat) : Int) && (!hWeak l q ((i : Nat) : Int) ((k : Nat) : Int) && hPath l q ((k : Nat) : Int) ((i : Nat) : Int))
def cls (l : List Relation) (q : Query) : Int :=
 if vQuery l q = true then (if ((List.range q.Atoms.length).any fun i => (List.range q.Atoms.length).any fun k => hard l q i k) = true then 3 else if hCyc l q = true then 2 else 1) else 0
theorem iter_ex2 {ρ : Type} {f : Int -> Option (Int ⊕ (Unit ⊕ ρ))} {n : Nat} {p : Nat -> Bool} {c : ρ}
  (hs : ∀ (i : Nat) (h : i < n), f (i : Int) = some (if p i = true then .inr (.inr c) else .inl ((i + 1 : Nat) : Int))) (he : f (n : Int) = some (.inr (.inl ()))) :
  iter f 0 = some (if (List.range n).any p = true then .inr c else .inl ()) :=
 iter_ex (List.range n) p c (fun i hi => by simp only [List.length_range] at hi; simp only [List.getElem_range]; exact hs i hi) (by simpa using he)
theorem clsSpec (hl : Big l.length) (hq : FitsQ q) : f8 l q = some (cls l q) := by
 unfold f8 cls
 rw [specQ hl hq, bS]
 have hn := hq.1
 cases hv : vQuery l q
 ·simp
 rw [if_neg (by simp), if_pos rfl]
 rw [iter_ex2 (n := q.Atoms.length) (p := fun i => (List.range q.Atoms.length).any fun k => hard l q i k) (c := 3) (fun i hi => by
  simp only [f8_0]
  rw [if_pos (by omega), iter_ex2 (n := q.Atoms.length) (p := fun k => hard l q i k) (c := 3) (fun k hk => by
   simp only [f8_1]
   rw [if_pos (by omega), hasSpec hl hq, weakSpec hl hq, pathSpec hl hq, w64_succ (by omega)]
   unfold hard
   cases hAtt l q ((i : Nat) : Int) ((k : Nat) : Int)
   ·simp
   ·cases hWeak l q ((i : Nat) : Int) ((k : Nat) : Int)
    ·cases hPath l q ((k : Nat) : Int) ((i : Nat) : Int) <;> simp
    ·simp) (by
   simp only [f8_1]
   rw [if_neg (by omega)]), w64_succ (by omega)]
  cases (List.range q.Atoms.length).any fun k => hard l q i k <;> simp) (by
  simp only [f8_0]
  rw [if_neg (by omega)])]
 cases (List.range q.Atoms.length).any fun i => (List.range q.Atoms.length).any fun k => hard l q i k
 ·simp only [Bool.false_eq_true, if_false, bS]
  rw [cycSpec hl hq, bS]
  split <;> rfl
 ·simp
theorem clsImp (hl : Big l.length) (hq : FitsQ q) : f16 l q = some (cls l q) := by
 unfold f16 cls
 rw [impQ hl hq, bS]
 have hn := hq.1
 cases hv : vQuery l q
 ·simp
 rw [if_neg (by simp), if_pos rfl]
 rw [iter_ex2 (n := q.Atoms.length) (p := fun i => (List.range q.Atoms.length).any fun k => hard l q i k) (c := 3) (fun i hi => by
  simp only [f16_0]
  rw [if_pos (by omega), iter_ex2 (n := q.Atoms.length) (p := fun k => hard l q i k) (c := 3) (fun k hk => by
   simp only [f16_1]
   rw [if_pos (by omega), hasImp hl hq, weakImp hl hq, pathImp hl hq, w64_succ (by omega)]
   unfold hard
   cases hAtt l q ((i : Nat) : Int) ((k : Nat) : Int)
   ·simp
   ·cases hWeak l q ((i : Nat) : Int) ((k : Nat) : Int)
    ·cases hPath l q ((k : Nat) : Int) ((i : Nat) : Int) <;> simp
    ·simp) (by
   simp only [f16_1]
   rw [if_neg (by omega)]), w64_succ (by omega)]
  cases (List.range q.Atoms.length).any fun k => hard l q i k <;> simp) (by
  simp only [f16_0]
  rw [if_neg (by omega)])]
 cases (List.range q.Atoms.length).any fun i => (List.range q.Atoms.length).any fun k => hard l q i k
 ·simp only [Bool.false_eq_true, if_false, bS]
  rw [cycImp hl hq, bS]
  split <;> rfl
 ·simp
end
end
section
def FitsS (a : RewritingStep) : Prop := a.Atom.Terms.length <= 1048576 /\ a.Existential.length <= 1048576 /\ a.Universal.length <= 1048576
def vStep (l : List Relation) (s : RewritingStep) : Bool :=
 vRels l && (btw s.Atom.Relation 0 (l.length - 1) && (decide ((s.Atom.Terms.length : Int) = arity l s.Atom.Relation) && ((s.Atom.Terms.all fun v => btw v (-10) 3) && (s.Existential.all (kvars l s.Atom).contains && s.Universal.all (avars s.Atom.Terms).contains))))
def vRw (l : List Relation) (f : List RewritingStep) : Bool := f.all (vStep l) && decide (f.length <= 3)
theorem specRw {l : List Relation} {f : List RewritingStep} (hl : Big l.length) (hf : Big f.length) (h : ∀ x ∈ f, FitsS x) : f14 l f = some (vRw l f) := by
 unfold f14
 rw [iter_ex f (fun s => !vStep l s) false (fun i hi => by
  have hs := h _ (List.getElem_mem hi)
  simp only [f14_0]
  rw [if_pos (by omega), ix_nat hi, w64_succ (by omega)]
  generalize f[i] = s at hs
  obtain ⟨s1, s2, s3⟩ := hs
  unfold vStep
  rw [bS, specRels hl, bS, w64_of (by omega)]
  cases vRels l
  ·simp
  simp only [specIn]
  cases hb : btw s.Atom.Relation 0 (l.length - 1)
  ·simp
  obtain ⟨x, h1, _, h2, _⟩ := ix_rel hb
  rw [h1]
  by_cases ha : (s.Atom.Terms.length : Int) = arity l s.Atom.Relation
  ·rw [iter_ex s.Atom.Terms (fun v => !btw v (-10) 3) false (fun i hi => by
    simp only [f14_1]
    rw [if_pos (by omega), ix_nat hi, w64_succ (by omega)]
    simp only [bS, specIn]
    cases btw s.Atom.Terms[i] (-10) 3 <;> simp) (by
    simp only [f14_1]
    rw [if_neg (by omega)]), any_not]
   have k1 := kvars_len (l := l) (a := s.Atom)
   have k2 := avars_len (t := s.Atom.Terms)
   cases s.Atom.Terms.all (fun v => btw v (-10) 3)
   ·simp [h2, ha]
   ·simp only [h2, ha, not_true_eq_false, if_false, bS, ne_eq, decide_false, Bool.false_eq_true, Bool.not_true, specKV hl (show Big s.Atom.Terms.length by omega), has14 (l := kvars l s.Atom) (w := s.Existential) (by omega) (by omega),
     specVars (a := s.Atom) (by omega), has14 (l := avars s.Atom.Terms) (w := s.Universal) (by omega) (by omega)]
    cases s.Existential.all (kvars l s.Atom).contains
    ·simp
    ·cases s.Universal.all (avars s.Atom.Terms).contains <;> simp
  ·simp [h2, ha]) (by
  simp only [f14_0]
  rw [if_neg (by omega)]), any_not]
 unfold vRw
 cases f.all (vStep l)
 ·simp
 ·simp; omega
theorem impRw {l : List Relation} {f : List RewritingStep} (hl : Big l.length) (hf : Big f.length) (h : ∀ x ∈ f, FitsS x) : f13 l f = some (vRw l f) := by
 unfold f13
 rw [iter_ex (List.range f.length) (fun i => decide (3 <= i) || !(match f[i]? with | some s => vStep l s | none => true)) false (fun i hi => by
  simp only [List.length_range] at hi
  simp only [List.getElem_range]
  rw [zE hi]
  dsimp only
  have hs := h _ (List.getElem_mem hi)
  simp only [f13_0]
  rw [if_pos (by omega), ix_nat hi, w64_succ (by omega)]
  generalize f[i] = s at hs
  obtain ⟨s1, s2, s3⟩ := hs
  by_cases c3 : 3 <= i
  ·rw [bS, if_pos (by omega)]; simp [c3]
  rw [bS, if_neg (by omega)]
  simp only [c3, decide_false, Bool.false_or]
  unfold vStep
  rw [impRels hl, bS, w64_of (by omega)]
  cases hv : vRels l
  ·simp
  simp only [impIn]
  cases hb : btw s.Atom.Relation 0 (l.length - 1)
  ·simp
  obtain ⟨x, h1, _, h2, _⟩ := ix_rel hb
  rw [h1]
  by_cases ha : (s.Atom.Terms.length : Int) = arity l s.Atom.Relation
  ·have h3 := vRels_arity hv hb
   have i1 : f43 s.Atom.Terms (fun x0 => f44 x0) = some (s.Atom.Terms.any fun v => !btw v (-10) 3) := indexI (by omega) (fun v _ => by
    unfold f44
    rw [impIn]; cases btw v (-10) 3 <;> simp)
   rw [i1, any_not]
   have k1 := kvars_len (l := l) (a := s.Atom)
   have k2 := avars_len (t := s.Atom.Terms)
   cases s.Atom.Terms.all (fun v => btw v (-10) 3)
   ·simp [h2, ha]
   ·simp only [h2, ha, not_true_eq_false, if_false, bS, ne_eq, decide_false, Bool.false_eq_true, Bool.not_true, impKV hl (show s.Atom.Terms.length <= 12 by omega), subset (a := s.Existential) (b := kvars l s.Atom) (by omega) (by omega),
     impVars (a := s.Atom) (by omega), subset (a := s.Universal) (b := avars s.Atom.Terms) (by omega) (by omega)]
    cases s.Existential.all (kvars l s.Atom).contains
    ·simp
    ·cases s.Universal.all (avars s.Atom.Terms).contains <;> simp
  ·simp [h2, ha]) (by
  simp only [f13_0]
  rw [if_neg (by simp)])]
 have e : ((List.range f.length).any fun i => decide (3 <= i) || !(match f[i]? with | some s => vStep l s | none => true)) = !vRw l f := by
  unfold vRw
  by_cases hn : f.length <= 3
  ·have e1 : ((List.range f.length).any fun i => decide (3 <= i) || !(match f[i]? with | some s => vStep l s | none => true)) = f.any fun s => !vStep l s := by
    rw [Bool.eq_iff_iff]
    simp only [List.any_eq_true, List.mem_range]
    constructor
    ·rintro ⟨i, hi, hp⟩
     rw [zE hi] at hp
     simp only [show ¬ 3 <= i by omega, decide_false, Bool.false_or] at hp
     exact ⟨f[i], List.getElem_mem hi, hp⟩
    ·rintro ⟨s, hs, hp⟩
     obtain ⟨i, hi, rfl⟩ := List.mem_iff_getElem.1 hs
     refine ⟨i, hi, ?_⟩
     rw [zE hi]
     dsimp only
     rw [hp]; simp
   rw [e1, any_not]; simp [hn]
  ·simp only [hn, decide_false, Bool.and_false, Bool.not_false]
   rw [List.any_eq_true]
   exact ⟨3, by simp; omega, by simp⟩
 rw [e]
 cases vRw l f <;> simp
end
section
section
variable {l : List Relation} {q : Query}
end
end
section
section
variable {l : List Relation} {q : Query}
def lnk (l : List Relation) (q : Query) (i a b : Nat) : Bool := (avars (atomAt q a).Terms).any fun v => (avars (atomAt q b).Terms).contains v && !plus l q i v
theorem shareS {a b n : List Int} (hb : Big b.length) (hn : Big n.length) (ha : Big a.length) : f86 a b n = some (a.any fun v => b.contains v && !n.contains v) := by
 unfold f86
 rw [iter_ex a (fun v => b.contains v && !n.contains v) true (fun i hi => by
  simp only [f86_0]
  rw [if_pos (by omega), ix_nat hi, bS, hasI hb, bS, w64_succ (by omega), hasI hn]
  cases b.contains a[i] <;> cases n.contains a[i] <;> simp) (by
  simp only [f86_0]
  rw [if_neg (by omega)])]
 cases a.any fun v => b.contains v && !n.contains v <;> rfl
theorem round17 {i : Nat} {X : Int -> Bool} (V : VQy l q) (hX : In4 X) : iter (f59_2 l q (i : Int)) (nfl X, 0) = some (nfl (pass (rulesA l q (i : Int)) X)) := by
 have := iter_steps (f := f59_2 l q (i : Int)) (fun j => (nfl (pass ((rulesA l q (i : Int)).take j) X), (j : Int))) q.Atoms.length (nfl (pass (rulesA l q (i : Int)) X)) (fun j hi => by
  have hl := rulesA_len (l := l) (q := q) (skip := (i : Int))
  have n3 := V.n3
  rw [pass_take (by omega), rulesA_get]
  have hin : In4 (pass ((rulesA l q (i : Int)).take j) X) := pass_in hX fun r hr => rulesA_in r (List.mem_of_mem_take hr)
  generalize pass ((rulesA l q (i : Int)).take j) X = Y at hin
  have hs := small V hi
  have k4 := kvars_len (l := l) (a := q.Atoms[j])
  have a4 := avars_len (t := q.Atoms[j].Terms)
  have y4 := nfl_len (X := Y)
  simp only [f59_2]
  rw [if_pos (by omega), ix_nat hi, w64_succ (by omega)]
  unfold fire ruleA
  rw [atom_get hi]
  by_cases c : ((j : Nat) : Int) ≠ (i : Int)
  ·rw [if_pos c]
   simp only [c, decide_true, Bool.true_and, bS]
   rw [specKV V.big (by omega), bS, has14 (by omega) (by omega), bS, nfl_has hin, specVars (by omega)]
   cases (kvars l q.Atoms[j]).all Y
   ·simp
   ·simp only [if_true, bS]
    rw [bothS (by omega) (by omega), nfl_has hin]; simp [c]
  ·rw [if_neg c]
   simp [c]) (by
  simp only [f59_2]
  rw [if_neg (by omega), List.take_of_length_le (by rw [rulesA_len]; omega)])
 simp only [List.take_zero, pass, List.foldl_nil, Int.natCast_zero, Int.ofNat_zero] at this
 exact this
structure Met (l : List Relation) (q : Query) (i : Nat) (M : List Int) : Prop where
 nd : M.Nodup
 rng : ∀ x ∈ M, 0 <= x /\ x < q.Atoms.length
 own : ((i : Nat) : Int) ∈ M
 snd : ∀ b : Nat, ((b : Nat) : Int) ∈ M -> b = i \/ (avars (atomAt q b).Terms).any (reach l q i) = true
def Shut (l : List Relation) (q : Query) (i : Nat) (M : List Int) : Prop := ∀ a b : Nat, ((a : Nat) : Int) ∈ M -> b < q.Atoms.length -> lnk l q i a b = true -> ((b : Nat) : Int) ∈ M
theorem outer_reach {i a : Nat} (ha : a < q.Atoms.length) (h : a = i \/ (avars (atomAt q a).Terms).any (reach l q i) = true) : Le4 (outer l q i a) (reach l q i) :=
 cl_clo (L := rulesS l q i) rulesS_mono (X := none4) (ruleS l q i a) (List.mem_map.2 ⟨a, List.mem_range.2 ha, rfl⟩) (by
  simp only [ruleS, Bool.or_eq_true, decide_eq_true_eq]; exact h)
theorem Met.more {i : Nat} {M : List Int} {a b : Nat} (h : Met l q i M) (ha : ((a : Nat) : Int) ∈ M) (hb : b < q.Atoms.length) (hn : ¬ ((b : Nat) : Int) ∈ M) (hk : lnk l q i a b = true) : Met l q i (M ++ [((b : Nat) : Int)]) := by
 have hr := h.rng _ ha
 refine ⟨List.nodup_append.2 ⟨h.nd, by simp, fun x hx y hy e => ?_⟩, fun x hx => ?_, List.mem_append_left _ h.own, fun c hc => ?_⟩
 ·rw [List.mem_singleton] at hy; subst e; subst hy; exact hn hx
 ·rcases List.mem_append.1 hx with hx | hx
  ·exact h.rng x hx
  ·rw [List.mem_singleton] at hx; subst hx; omega
 ·rcases List.mem_append.1 hc with hc | hc
  ·exact h.snd c hc
  ·rw [List.mem_singleton] at hc
   have : c = b := by omega
   subst this
   right
   obtain ⟨v, hv, hx⟩ := List.any_eq_true.1 hk
   rw [Bool.and_eq_true, List.contains_iff_mem] at hx
   refine List.any_eq_true.2 ⟨v, hx.1, outer_reach (by omega) (h.snd a ha) v ?_⟩
   unfold outer
   rw [Bool.and_eq_true, List.contains_iff_mem]
   exact ⟨hv, hx.2⟩
theorem Met.len {i : Nat} {M : List Int} (h : Met l q i M) : M.length <= q.Atoms.length := nodup_le h.nd h.rng
theorem Met.hits {i k : Nat} {M : List Int} (h : Met l q i M) (hs : Shut l q i M) (hk : k < q.Atoms.length) (hik : i ≠ k) : M.contains ((k : Nat) : Int) = att l q i k := by
 rw [Bool.eq_iff_iff, List.contains_iff_mem]
 unfold att
 simp only [Bool.and_eq_true, decide_eq_true_eq]
 constructor
 ·intro hm
  exact ⟨hik, (h.snd k hm).resolve_left (fun e => hik e.symm)⟩
 ·rintro ⟨_, ha⟩
  let Z : Int -> Bool := fun v => M.any fun a => outer l q i a.toNat v
  have hz : Clo (rulesS l q i) Z := fun r hr hc v hv => by
   obtain ⟨a, ha, rfl⟩ := List.mem_map.1 hr
   rw [List.mem_range] at ha
   simp only [ruleS, Bool.or_eq_true, decide_eq_true_eq] at hc hv
   have hm : ((a : Nat) : Int) ∈ M := by
    rcases hc with rfl | hc
    ·exact h.own
    ·obtain ⟨w, hw, hx⟩ := List.any_eq_true.1 hc
     obtain ⟨c, hcM, ho⟩ := List.any_eq_true.1 hx
     have hr := h.rng c hcM
     obtain ⟨c, rfl⟩ : ∃ n : Nat, c = n := ⟨c.toNat, by omega⟩
     rw [Int.toNat_natCast] at ho
     unfold outer at ho
     rw [Bool.and_eq_true, List.contains_iff_mem] at ho
     refine hs c a hcM ha (List.any_eq_true.2 ⟨w, ho.1, ?_⟩)
     rw [Bool.and_eq_true, List.contains_iff_mem]
     exact ⟨hw, ho.2⟩
   exact List.any_eq_true.2 ⟨_, hm, by rw [Int.toNat_natCast]; exact hv⟩
  have hle : Le4 (reach l q i) Z := passes_least rulesS_mono hz (fun v hv => by cases hv)
  obtain ⟨v, hv, hx⟩ := List.any_eq_true.1 ha
  obtain ⟨c, hcM, ho⟩ := List.any_eq_true.1 (hle v hx)
  have hr := h.rng c hcM
  obtain ⟨c, rfl⟩ : ∃ n : Nat, c = n := ⟨c.toNat, by omega⟩
  rw [Int.toNat_natCast] at ho
  unfold outer at ho
  rw [Bool.and_eq_true, List.contains_iff_mem] at ho
  refine hs c k hcM hk (List.any_eq_true.2 ⟨v, ho.1, ?_⟩)
  rw [Bool.and_eq_true, List.contains_iff_mem]
  exact ⟨hv, ho.2⟩
structure Grow (l : List Relation) (q : Query) (i : Nat) (M N : List Int) : Prop where
 mtt : Met l q i N
 ext : ∃ t, N = M ++ t /\ (Shut l q i M -> t = [])
theorem Grow.refl {i : Nat} {M : List Int} (h : Met l q i M) : Grow l q i M M := ⟨h, [], by simp, fun _ => rfl⟩
theorem Grow.sub {i : Nat} {M N : List Int} (h : Grow l q i M N) {x : Int} (hx : x ∈ M) : x ∈ N := by
 obtain ⟨t, rfl, _⟩ := h.ext; exact List.mem_append_left _ hx
theorem Grow.trans {i : Nat} {M N O : List Int} (h : Grow l q i M N) (g : Grow l q i N O) : Grow l q i M O := by
 obtain ⟨t, rfl, ht⟩ := h.ext
 obtain ⟨u, rfl, hu⟩ := g.ext
 refine ⟨g.mtt, t ++ u, by rw [List.append_assoc], fun hs => ?_⟩
 have e := ht hs
 subst e
 rw [List.append_nil] at hu
 rw [hu hs]; rfl
theorem Grow.one {i : Nat} {M : List Int} {a b : Nat} (h : Met l q i M) (ha : ((a : Nat) : Int) ∈ M) (hb : b < q.Atoms.length) (hn : ¬ ((b : Nat) : Int) ∈ M) (hk : lnk l q i a b = true) : Grow l q i M (M ++ [((b : Nat) : Int)]) :=
 ⟨h.more ha hb hn hk, _, rfl, fun hs => absurd (hs a b ha hb hk) hn⟩
theorem met4 {i a : Nat} {M : List Int} (V : VQy l q) (h : Met l q i M) (ha : a < q.Atoms.length) : Ens (iter (f59_4 q (nfl (plus l q i)) (a : Int)) (M, 0)) fun N => Grow l q i M N /\ (((a : Nat) : Int) ∈ M -> ∀ b : Nat, b < q.Atoms.length -> lnk l q i a b = true -> ((b : Nat) : Int) ∈ N) := by
 have n3 := V.n3
 refine iter_up (f := f59_4 q (nfl (plus l q i)) (a : Int)) q.Atoms.length (fun y s => s.2 = (y : Int) /\ Grow l q i M s.1 /\ (((a : Nat) : Int) ∈ M -> ∀ b : Nat, b < y -> lnk l q i a b = true -> ((b : Nat) : Int) ∈ s.1)) _ (fun y s hy ⟨s1, s2, s3⟩ => ?_) (fun s ⟨s1, s2, s3⟩ => ?_) _ ⟨rfl, Grow.refl h, fun _ b hb => by omega⟩
 ·obtain ⟨N, y'⟩ := s
  simp only at s1 s2 s3
  subst s1
  have hN := s2.mtt.len
  have hsa := V.terms _ (List.getElem_mem ha)
  have hsb := V.terms _ (List.getElem_mem hy)
  have va := avars_len (t := q.Atoms[a].Terms)
  have vb := avars_len (t := q.Atoms[y].Terms)
  have p4 := nfl_len (X := plus l q i)
  simp only [f59_4]
  rw [if_pos (by omega), hasI (by omega), bS, hasI (by omega), ix_nat ha, ix_nat hy, w64_succ (by omega)]
  simp only [bS]
  rw [specVars (by omega), specVars (by omega), bS, bS, shareS (by omega) (by omega) (by omega), nfl_has plus_in]
  have ek : ((avars q.Atoms[a].Terms).any fun v => (avars q.Atoms[y].Terms).contains v && !plus l q i v) = lnk l q i a y := by
   unfold lnk; rw [atom_get ha, atom_get hy]
  rw [ek]
  by_cases cm : ((a : Nat) : Int) ∈ N
  ·have cm' : N.contains ((a : Nat) : Int) = true := by rw [List.contains_iff_mem]; exact cm
   rw [cm']
   by_cases cy : ((y : Nat) : Int) ∈ N
   ·have cy' : N.contains ((y : Nat) : Int) = true := by rw [List.contains_iff_mem]; exact cy
    rw [cy']
    simp only [not_true_eq_false, if_false, if_true, bS, Bool.false_eq_true]
    refine ⟨_, rfl, rfl, s2, fun hm b hb hl => ?_⟩
    by_cases e : b = y
    ·subst e; exact cy
    ·exact s3 hm b (by omega) hl
   ·have cy' : N.contains ((y : Nat) : Int) = false := by
     cases hc : N.contains ((y : Nat) : Int)
     ·rfl
     ·rw [List.contains_iff_mem] at hc; exact absurd hc cy
    rw [cy']
    simp only [Bool.false_eq_true, not_false_eq_true, if_true, bS]
    cases hl : lnk l q i a y
    ·simp only [Bool.false_eq_true, if_false, bS]
     refine ⟨_, rfl, rfl, s2, fun hm b hb hb' => ?_⟩
     by_cases e : b = y
     ·subst e; rw [hl] at hb'; cases hb'
     ·exact s3 hm b (by omega) hb'
    ·simp only [if_true]
     rw [app_fits (by simp; omega), bS, bS]
     have g := Grow.one s2.mtt cm hy cy hl
     refine ⟨_, rfl, rfl, s2.trans g, fun hm b hb hb' => ?_⟩
     by_cases e : b = y
     ·subst e; simp
     ·exact List.mem_append_left _ (s3 hm b (by omega) hb')
  ·have cm' : N.contains ((a : Nat) : Int) = false := by
    cases hc : N.contains ((a : Nat) : Int)
    ·rfl
    ·rw [List.contains_iff_mem] at hc; exact absurd hc cm
   rw [cm']
   simp only [Bool.false_eq_true, if_false, bS]
   exact ⟨_, rfl, rfl, s2, fun hm => absurd (s2.sub hm) cm⟩
 ·obtain ⟨N, y'⟩ := s
  simp only at s1 s2 s3
  subst s1
  simp only [f59_4]
  rw [if_neg (by omega)]
  exact ⟨_, rfl, s2, s3⟩
theorem met3 {i : Nat} {M : List Int} (V : VQy l q) (h : Met l q i M) : Ens (iter (f59_3 q (nfl (plus l q i))) (M, 0)) fun N => Grow l q i M N /\ ∀ a : Nat, ((a : Nat) : Int) ∈ M -> ∀ b : Nat, b < q.Atoms.length -> lnk l q i a b = true -> ((b : Nat) : Int) ∈ N := by
 have n3 := V.n3
 refine iter_up (f := f59_3 q (nfl (plus l q i))) q.Atoms.length (fun y s => s.2 = (y : Int) /\ Grow l q i M s.1 /\ ∀ a : Nat, a < y -> ((a : Nat) : Int) ∈ M -> ∀ b : Nat, b < q.Atoms.length -> lnk l q i a b = true -> ((b : Nat) : Int) ∈ s.1) _ (fun y s hy ⟨s1, s2, s3⟩ => ?_) (fun s ⟨s1, s2, s3⟩ => ?_) _ ⟨rfl, Grow.refl h, fun a ha => by omega⟩
 ·obtain ⟨N, y'⟩ := s
  simp only at s1 s2 s3
  subst s1
  simp only [f59_3]
  obtain ⟨O, e, g1, g2⟩ := met4 V s2.mtt hy
  rw [if_pos (by omega), e, bS, w64_succ (by omega)]
  refine ⟨_, rfl, rfl, s2.trans g1, fun a ha hm b hb hl => ?_⟩
  by_cases ea : a = y
  ·subst ea; exact g2 (s2.sub hm) b hb hl
  ·exact g1.sub (s3 a (by omega) hm b hb hl)
 ·obtain ⟨N, y'⟩ := s
  simp only at s1 s2 s3
  subst s1
  simp only [f59_3]
  rw [if_neg (by omega)]
  refine ⟨_, rfl, s2, fun a hm => s3 a ?_ hm⟩
  have := h.rng _ hm
  omega
theorem met1 {i : Nat} (V : VQy l q) (hi : i < q.Atoms.length) : Ens (iter (f59_1 q (nfl (plus l q i))) ([((i : Nat) : Int)], 0)) fun M => Met l q i M /\ Shut l q i M := by
 have n3 := V.n3
 have h0 : Met l q i [((i : Nat) : Int)] := ⟨by simp, fun x hx => by rw [List.mem_singleton] at hx; subst hx; omega, by simp, fun b hb => by rw [List.mem_singleton] at hb; left; omega⟩
 refine iter_up (f := f59_1 q (nfl (plus l q i))) q.Atoms.length (fun y s => s.2 = (y : Int) /\ Met l q i s.1 /\ (Shut l q i s.1 \/ y + 1 <= s.1.length)) _ (fun y s hy ⟨s1, s2, s3⟩ => ?_) (fun s ⟨s1, s2, s3⟩ => ?_) _ ⟨rfl, h0, .inr (by simp)⟩
 ·obtain ⟨N, y'⟩ := s
  simp only at s1 s2 s3
  subst s1
  simp only [f59_1]
  obtain ⟨O, e, g1, g2⟩ := met3 V s2
  rw [if_pos (by omega), e, bS, w64_succ (by omega)]
  refine ⟨_, rfl, rfl, g1.mtt, ?_⟩
  obtain ⟨t, et, ht⟩ := g1.ext
  dsimp only
  by_cases c : t = []
  ·subst c
   rw [List.append_nil] at et
   subst et
   exact .inl fun a b ha hb hl => g2 a ha b hb hl
  ·right
   have hn : ¬ Shut l q i N := fun hs => c (ht hs)
   have := s3.resolve_left hn
   have := List.length_pos_iff.2 c
   rw [et, List.length_append]; omega
 ·obtain ⟨N, y'⟩ := s
  simp only at s1 s2 s3
  subst s1
  simp only [f59_1]
  rw [if_neg (by omega)]
  refine ⟨_, rfl, s2, s3.resolve_right fun h => ?_⟩
  have := s2.len
  omega
theorem att17 {i k : Nat} (V : VQy l q) (hi : i < q.Atoms.length) (hk : k < q.Atoms.length) : f59 l q (i : Int) (k : Int) = some (att l q i k) := by
 unfold f59
 have n3 := V.n3
 have f4 := V.free4
 by_cases c : i = k
 ·rw [if_pos (by omega)]
  unfold att; simp [c]
 rw [if_neg (by omega)]
 have hs := V.terms _ (List.getElem_mem hi)
 have k4 := kvars_len (l := l) (a := q.Atoms[i])
 rw [ix_nat hi, bS, specKV V.big (by omega), bS, bothS (by omega) (by omega), bS]
 have e0 : nfl (cupX q.Free.contains (kvars l q.Atoms[i]).contains) = nfl (setOf q (kvars l (atomAt q i))) := by
  rw [nfl_setOf, atom_get hi]
  exact nfl_congr fun v _ => by unfold cupX; rw [Bool.or_comm]
 rw [e0]
 have := iter_steps (f := f59_0 l q (i : Int)) (fun j => (nfl (passes (rulesA l q (i : Int)) j (setOf q (kvars l (atomAt q i)))), (j : Int))) q.Atoms.length (nfl (plus l q i)) (fun j hj => by
  simp only [f59_0]
  rw [if_pos (by omega), round17 V (passes_in setOf_in rulesA_in), bS, w64_succ (by omega)]; rfl) (by
  simp only [f59_0]
  rw [if_neg (by omega)]
  unfold plus closX cl
  rw [rulesA_len])
 simp only [passes, Int.natCast_zero, Int.ofNat_zero] at this
 rw [this, bS]
 obtain ⟨M, e, h1, h2⟩ := met1 V hi
 have := h1.len
 rw [e, bS, hasI (by omega), bS, h1.hits h2 hk c]
def hit (l : List Relation) (q : Query) (k : Nat) : Bool := (List.range q.Atoms.length).any fun i => att l q i k
def fstU (l : List Relation) (q : Query) : Option Nat := (List.range q.Atoms.length).find? fun k => !hit l q k
theorem first17 (V : VQy l q) : f26 l q = some (match fstU l q with | some k => (k : Int) | none => -1) := by
 unfold f26
 have n3 := V.n3
 refine Ens.eq (Q := fun r => r = match fstU l q with | some k => (k : Int) | none => -1) (Ens.bind (Q := fun o => match o with | .inl _ => fstU l q = none | .inr x => ∃ k, fstU l q = some k /\ x = (k : Int)) ?_ fun o ho => ?_) _ fun _ h => h
 ·refine iter_up (f := f26_0 l q) q.Atoms.length (fun y s => s = (y : Int) /\ ∀ k, k < y -> hit l q k = true) _ (fun y s hy ⟨s1, s2⟩ => ?_) (fun s ⟨s1, s2⟩ => ?_) _ ⟨rfl, fun k hk => by omega⟩
  ·subst s1
   simp only [f26_0]
   have it := iter_foldl (f := f26_1 l q (y : Int)) (b0 := false) (List.range q.Atoms.length) (fun b i => b || att l q i y) id (fun i hi b => by
    simp only [List.length_range] at hi
    simp only [f26_1, List.getElem_range]
    rw [if_pos (by omega), att17 V hi hy, w64_succ (by omega)]
    cases b <;> simp) (fun b => by
    simp only [f26_1]
    rw [if_neg (by simp)]; rfl)
   rw [foldl_any] at it
   rw [if_pos (by omega), it, bS]
   dsimp only [id]
   cases hh : hit l q y
   ·have hh' : ((List.range q.Atoms.length).any fun i => att l q i y) = false := hh
    rw [hh', Bool.or_false, if_pos (by simp)]
    refine ⟨_, rfl, y, ?_, rfl⟩
    unfold fstU
    rw [List.find?_eq_some_iff_getElem]
    refine ⟨by simp [hh], y, by simpa using hy, by simp, fun j hj => ?_⟩
    simp [s2 j hj]
   ·have hh' : ((List.range q.Atoms.length).any fun i => att l q i y) = true := hh
    rw [hh', Bool.or_true, if_neg (by simp), w64_succ (by omega)]
    refine ⟨_, rfl, rfl, fun k hk => ?_⟩
    by_cases e : k = y
    ·subst e; exact hh
    ·exact s2 k (by omega)
  ·subst s1
   simp only [f26_0]
   rw [if_neg (by omega)]
   refine ⟨_, rfl, ?_⟩
   unfold fstU
   rw [List.find?_eq_none]
   intro k hk
   rw [List.mem_range] at hk
   simp [s2 k hk]
 ·match o, ho with
  | .inl _, h => exact Ens.of (by rw [h])
  | .inr x, ⟨k, hk, e⟩ => exact Ens.of (by rw [hk, e])
end
end
section
section
variable {l : List Relation} {q : Query}
structure RemQ (l : List Relation) (q : Query) : Prop where
 big : Big l.length
 rels : vRels l = true
 n3 : q.Atoms.length <= 3
 terms : ∀ a ∈ q.Atoms, a.Terms.length <= 3
 free : In4 q.Free.contains
 free4 : q.Free.length <= 4
theorem RemQ.vq (h : RemQ l q) (h1 : 1 <= q.Atoms.length) : VQy l q := ⟨h.big, ⟨by have := h.n3; omega, fun a ha => by have := h.terms a ha; omega, by have := h.free4; omega⟩, h.rels, h1, h.n3, h.terms, h.free, h.free4⟩
theorem VQy.rq (V : VQy l q) : RemQ l q := ⟨V.big, V.rels, V.n3, V.terms, V.free, V.free4⟩
def rest (q : Query) (k : Nat) : Query := ⟨q.VariableCount, q.Atoms.eraseIdx k, nfl (cupX q.Free.contains (avars (atomAt q k).Terms).contains)⟩
theorem RemQ.rest (h : RemQ l q) (k : Nat) : RemQ l (rest q k) := ⟨h.big, h.rels, by
  have := h.n3
  have := List.length_eraseIdx_le (l := q.Atoms) (i := k)
  unfold YtjfeimhiiomgoaaGreatDoorH.rest
  dsimp only; omega, fun a ha => h.terms a (List.mem_of_mem_eraseIdx ha), nfl_in, nfl_len⟩
def exF (l : List Relation) (q : Query) (k : Nat) : Int -> Bool := fun v => (kvars l (atomAt q k)).contains v && !q.Free.contains v
def unF (l : List Relation) (q : Query) (k : Nat) : Int -> Bool := fun v => (avars (atomAt q k).Terms).contains v && !(kvars l (atomAt q k)).contains v && !q.Free.contains v
def stp (l : List Relation) (q : Query) (k : Nat) : RewritingStep := ⟨atomAt q k, nfl (exF l q k), nfl (unF l q k)⟩
def rwg (l : List Relation) : Nat -> Query -> Option (List RewritingStep)
 | 0, _ => some []
 | n + 1, q => match fstU l q with
  | none => none
  | some k => match rwg l n (rest q k) with
   | none => none
   | some f => some (stp l q k :: f)
theorem fstU_lt {k : Nat} (h : fstU l q = some k) : k < q.Atoms.length /\ hit l q k = false := by
 unfold fstU at h
 have h1 := List.find?_some h
 have h2 := List.mem_of_find?_eq_some h
 rw [List.mem_range] at h2
 exact ⟨h2, by simpa using h1⟩
theorem asked17 {k : Nat} (h : RemQ l q) (hk : k < q.Atoms.length) : f28 q (k : Int) = some (rest q k) := by
 have n3 := h.n3
 have f4 := h.free4
 unfold f28 f60
 have hm : QM q := ⟨by omega, fun a ha => by have := h.terms a ha; omega, by omega⟩
 have ha := h.terms _ (List.getElem_mem hk)
 have vl := avars_len (t := q.Atoms[k].Terms)
 rw [copyQ hm, bS, specIn, w64_of (by omega), bS, show btw (k : Int) 0 ((q.Atoms.length : Int) - 1) = true by unfold btw; simp; omega, if_pos rfl, w64_of (by omega), cutL_ok (by omega) (by omega) (by omega), bS, cutL_ok (by omega) (by omega) (by omega), bS, app_fits (by simp; omega), bS, app_fits (by simp; omega), bS, bS, bS, ix_nat hk, bS, specVars (by omega), bS, bothS (by omega) (by omega), bS]
 unfold rest
 rw [atom_get hk]
 congr 2
 rw [List.eraseIdx_eq_take_drop_succ]
 simp [show ((k : Int) + 1).toNat = k + 1 by omega]
theorem nfl_step {X : Int -> Bool} {j : Nat} : ((List.range (j + 1)).flatMap fun v => if X ((v : Nat) : Int) = true then [((v : Nat) : Int)] else []) = ((List.range j).flatMap fun v => if X ((v : Nat) : Int) = true then [((v : Nat) : Int)] else []) ++ (if X ((j : Nat) : Int) = true then [((j : Nat) : Int)] else []) := by
 rw [List.range_succ, List.flatMap_append]; simp
theorem nfl_part {X : Int -> Bool} {j : Nat} : ((List.range j).flatMap fun v => if X ((v : Nat) : Int) = true then [((v : Nat) : Int)] else []).length <= j := by
 induction j with
 | zero => simp
 | succ j ih =>
  rw [nfl_step, List.length_append]
  split
  ·simp only [List.length_singleton]; omega
  ·simp only [List.length_nil]; omega
theorem kvars_sub {a : Atom} (v : Int) (h : (kvars l a).contains v = true) : a.Terms.contains v = true := by
 unfold kvars at h
 split at h
 ·rw [List.contains_iff_mem, avars_mem] at h
  rw [List.contains_iff_mem]; exact List.mem_of_mem_take h.1
 ·simp at h
theorem kvars_nfl {a : Atom} : kvars l a = nfl (kvars l a).contains := by
 unfold kvars
 split
 ·rw [avars_nfl, nfl_idem]
 ·rw [show ([] : List Int).contains = fun _ => false by funext v; rfl, nfl_nil]
theorem vars17 {k : Nat} {r : Int} {t : List Int} (h : RemQ l q) (hk : k < q.Atoms.length) : iter (f7_1 l q.Free q.Atoms[k]) (r, t, [], [], 0) = some (r, t, nfl (exF l q k), nfl (unF l q k)) := by
 have f4 := h.free4
 have ha := h.terms _ (List.getElem_mem hk)
 have kl := kvars_len (l := l) (a := q.Atoms[k])
 have hki : ∀ v, (kvars l q.Atoms[k]).contains v = true -> q.Atoms[k].Terms.contains v = true := kvars_sub
 have := iter_steps (f := f7_1 l q.Free q.Atoms[k]) (fun j => (r, t, ((List.range j).flatMap fun v => if exF l q k ((v : Nat) : Int) = true then [((v : Nat) : Int)] else []), ((List.range j).flatMap fun v => if unF l q k ((v : Nat) : Int) = true then [((v : Nat) : Int)] else []), (j : Int))) 4 (r, t, nfl (exF l q k), nfl (unF l q k)) (fun j hj => by
  have n1 := nfl_part (X := exF l q k) (j := j)
  have n2 := nfl_part (X := unF l q k) (j := j)
  rw [nfl_step, nfl_step]
  generalize ((List.range j).flatMap fun v => if exF l q k ((v : Nat) : Int) = true then [((v : Nat) : Int)] else []) = A at n1 ⊢
  generalize ((List.range j).flatMap fun v => if unF l q k ((v : Nat) : Int) = true then [((v : Nat) : Int)] else []) = B at n2 ⊢
  simp only [f7_1]
  rw [if_pos (by omega), hasI (by omega), bS, hasI (by omega), bS, specKV h.big (by omega), bS, hasI (by omega), bS, app_fits (by simp; omega), bS, app_fits (by simp; omega), bS, w64_succ (by omega)]
  have ev : (avars q.Atoms[k].Terms).contains (j : Int) = q.Atoms[k].Terms.contains (j : Int) := by
   rw [Bool.eq_iff_iff, List.contains_iff_mem, List.contains_iff_mem, avars_mem]
   exact ⟨fun h => h.1, fun h => ⟨h, by unfold btw; simp; omega⟩⟩
  have hkj := hki (j : Int)
  unfold exF unF
  rw [atom_get hk, ev]
  cases q.Free.contains (j : Int) <;> cases ht : q.Atoms[k].Terms.contains (j : Int) <;> cases hc : (kvars l q.Atoms[k]).contains (j : Int) <;> first | (exfalso; rw [hkj hc] at ht; cases ht; done) | simp) (by
  simp only [f7_1]
  rw [if_neg (by omega)]
  rfl)
 exact this
theorem loop17 : ∀ (n : Nat) (out : List RewritingStep) (q : Query), RemQ l q -> q.Atoms.length = n -> out.length + n <= 3 -> iter (f7_0 l) (out, q.VariableCount, q.Atoms, q.Free) = some (match rwg l n q with | some f => .inl (out ++ f) | none => .inr ([], false))
 | 0, out, q, h, hn, ho => by
  rw [iter_eq]
  simp only [f7_0, rwg]
  rw [if_neg (by omega)]
  simp
 | n + 1, out, q, h, hn, ho => by
  have V := h.vq (by omega)
  have f4 := h.free4
  rw [iter_eq]
  simp only [f7_0, rwg]
  rw [if_pos (by omega), first17 V, bS]
  cases hf : fstU l q with
  | none => simp
  | some k =>
   have hk := (fstU_lt hf).1
   have ha := h.terms _ (List.getElem_mem hk)
   dsimp only
   rw [if_neg (by omega), ix_nat hk, bS, app_fits (by simp; omega), bS, vars17 h hk, bS, app_fits (by simp; omega), bS, asked17 h hk, bS]
   have := loop17 n (out ++ [stp l q k]) (rest q k) (h.rest k) (by unfold rest; dsimp only; rw [List.length_eraseIdx_of_lt hk]; omega) (by simp; omega)
   have e : (⟨⟨q.Atoms[k].Relation, [] ++ q.Atoms[k].Terms⟩, nfl (exF l q k), nfl (unF l q k)⟩ : RewritingStep) = stp l q k := by
    unfold stp; rw [atom_get hk]; rfl
   dsimp only
   rw [e]
   refine this.trans ?_
   cases rwg l n (rest q k) <;> simp
theorem attackImp {i k : Nat} (V : VQy l q) (hi : i < q.Atoms.length) (hk : k < q.Atoms.length) : f54 l q.Atoms q.Free (i : Int) (k : Int) = some (att l q i k) := by
 unfold f54 att
 have n3 := V.n3
 have hs := V.terms _ (List.getElem_mem hk)
 have a4 := avars_len (t := q.Atoms[k].Terms)
 have r4 := nfl_len (X := reach l q i)
 rw [ix_nat hk, bS, impVars (by omega), bS, atom_get hk]
 by_cases c : i = k
 ·simp [c]
 rw [if_pos (by omega), attImp V hi, bS, withoutI (by omega) (by omega), nfl_has reach_in, bS, filter_lt]
 simp [c]
def frees (l : List Relation) (q : Query) : List Int := (List.range q.Atoms.length).flatMap fun k => if hit l q k = false then [((k : Nat) : Int)] else []
theorem frees_part {j : Nat} : (((List.range q.Atoms.length).take j).flatMap fun k => if hit l q k = false then [((k : Nat) : Int)] else []).length <= j := by
 have := take_flat_le (l := List.range q.Atoms.length) (i := j) (g := fun k => if hit l q k = false then [((k : Nat) : Int)] else []) (m := 1) (fun a => by split <;> simp)
 omega
theorem unattImp (V : VQy l q) : f17 l q.Atoms q.Free = some (frees l q) := by
 unfold f17
 have n3 := V.n3
 rw [iter_flat (List.range q.Atoms.length) (fun k => if hit l q k = false then [((k : Nat) : Int)] else []) id (fun y hy => by
  simp only [List.length_range] at hy
  have el := frees_part (l := l) (q := q) (j := y)
  generalize (((List.range q.Atoms.length).take y).flatMap fun k => if hit l q k = false then [((k : Nat) : Int)] else []) = out at el ⊢
  have it := iter_foldl (f := f17_1 l q.Atoms q.Free (y : Int)) (b0 := true) (List.range q.Atoms.length) (fun b i => b && !att l q i y) id (fun i hi b => by
   simp only [List.length_range] at hi
   simp only [f17_1, List.getElem_range]
   rw [if_pos (by omega), attackImp V hi hy, w64_succ (by omega)]
   cases b <;> simp) (fun b => by
   simp only [f17_1]
   rw [if_neg (by simp)]; rfl)
  have ef : (List.range q.Atoms.length).foldl (fun b i => b && !att l q i y) true = !hit l q y := by
   unfold hit
   have g : ∀ (L : List Nat) (b : Bool), L.foldl (fun b i => b && !att l q i y) b = (b && !L.any fun i => att l q i y) := by
    intro L
    induction L with
    | nil => intro b; simp
    | cons a L ih => intro b; rw [List.foldl_cons, ih, List.any_cons]; cases b <;> cases att l q a y <;> simp
   rw [g]; simp
  rw [ef] at it
  simp only [f17_0, List.getElem_range]
  rw [if_pos (by omega), it, bS, w64_succ (by omega)]
  dsimp only [id]
  cases hit l q y
  ·simp only [Bool.not_false, if_true]
   rw [app_fits (by simp; omega)]; rfl
  ·simp) (by
  simp only [f17_0]
  rw [if_neg (by simp)]; rfl)]
 rfl
theorem frees_first : (frees l q).head? = (fstU l q).map fun k => ((k : Nat) : Int) := by
 unfold frees fstU
 have g : ∀ L : List Nat, (L.flatMap fun k => if hit l q k = false then [((k : Nat) : Int)] else []).head? = (L.find? fun k => !hit l q k).map fun k => ((k : Nat) : Int) := by
  intro L
  induction L with
  | nil => rfl
  | cons a L ih =>
   rw [List.flatMap_cons, List.find?_cons]
   cases hit l q a
   ·simp
   ·simpa using ih
 exact g _
def rwo (l : List Relation) (q : Query) : List RewritingStep × Bool := if cls l q = 1 then (match rwg l q.Atoms.length q with | some f => (f, true) | none => ([], false)) else ([], false)
theorem rwSpec (hl : Big l.length) (hq : FitsQ q) : f7 l q = some (rwo l q) := by
 unfold f7 rwo
 rw [clsSpec hl hq, bS]
 by_cases hc : cls l q = 1
 ·have hv : vQuery l q = true := by
   unfold cls at hc
   split at hc
   ·assumption
   ·simp at hc
  have V := vq_of hl hq hv
  have n3 := V.n3
  have f4 := V.free4
  rw [if_neg (by simpa using hc), copyQ ⟨by omega, fun a ha => by have := V.terms a ha; omega, by omega⟩, bS, loop17 q.Atoms.length [] q V.rq rfl (by simpa using n3), bS, if_pos hc]
  cases rwg l q.Atoms.length q <;> simp
 ·rw [if_pos (by simpa using hc), if_neg hc]
theorem copyAt {a : Atom} (h : a.Terms.length <= 1048576) : f18 a = some a := by
 unfold f18
 rw [app_fits (by simp; omega)]; rfl
theorem loopImp : ∀ (n : Nat) (out : List RewritingStep) (q : Query), RemQ l q -> q.Atoms.length = n -> out.length + n <= 3 -> iter (f6_0 l) (out, q.Free, q.Atoms) = some (match rwg l n q with | some f => .inl (out ++ f) | none => .inr ([], false))
 | 0, out, q, h, hn, ho => by
  rw [iter_eq]
  simp only [f6_0, rwg]
  rw [if_neg (by omega)]
  simp
 | n + 1, out, q, h, hn, ho => by
  have V := h.vq (by omega)
  have f4 := h.free4
  have ff := frees_first (l := l) (q := q)
  rw [iter_eq]
  simp only [f6_0, rwg]
  rw [if_pos (by omega), unattImp V, bS]
  cases hf : fstU l q with
  | none =>
   rw [hf] at ff
   have : frees l q = [] := List.head?_eq_none_iff.1 ff
   rw [this, if_pos (by simp)]
  | some k =>
   rw [hf] at ff
   obtain ⟨t, et⟩ : ∃ t, frees l q = (k : Int) :: t := by
    cases hh : frees l q with
    | nil => rw [hh] at ff; simp at ff
    | cons a t => rw [hh] at ff; simp at ff; exact ⟨t, by rw [ff]⟩
   have hk := (fstU_lt hf).1
   have ha := h.terms _ (List.getElem_mem hk)
   have k4 := kvars_len (l := l) (a := q.Atoms[k])
   have a4 := avars_len (t := q.Atoms[k].Terms)
   have ef : frees l q = (k : Int) :: t := et
   have e0 : ix ((k : Int) :: t) 0 = some (k : Int) := ix_nat (i := 0) (by simp)
   rw [ef, if_neg (by simp; omega), e0, bS, ix_nat hk, bS, copyAt (by omega), bS, impKV h.big (by omega), bS, impVars (by omega), bS, withoutI (by omega) (by omega), bS, withoutI (by omega) (by omega), bS]
   have l1 := List.length_filter_le (fun v => !(kvars l q.Atoms[k]).contains v) (avars q.Atoms[k].Terms)
   rw [withoutI (by omega) (by omega), bS, app_fits (by simp; omega), bS, unionI (by omega) h.free avars_in, bS]
   have ex : (kvars l q.Atoms[k]).filter (fun v => !q.Free.contains v) = nfl (exF l q k) := by
    rw [kvars_nfl, nfl_filter]
    exact nfl_congr fun v hv => by
     unfold exF; rw [atom_get hk]
   have un : ((avars q.Atoms[k].Terms).filter fun v => !(kvars l q.Atoms[k]).contains v).filter (fun v => !q.Free.contains v) = nfl (unF l q k) := by
    rw [avars_nfl, nfl_filter, nfl_filter]
    exact nfl_congr fun v hv => by
     unfold unF
     rw [atom_get hk, avars_nfl]
     congr 2
     rw [Bool.eq_iff_iff, List.contains_iff_mem, List.contains_iff_mem]
     constructor
     ·intro hm; exact nfl_mem.2 ⟨by rw [List.contains_iff_mem]; exact hm, hv⟩
     ·intro hm; have := (nfl_mem.1 hm).1; rwa [List.contains_iff_mem] at this
   rw [ex, un]
   have e : (⟨q.Atoms[k], nfl (exF l q k), nfl (unF l q k)⟩ : RewritingStep) = stp l q k := by
    unfold stp; rw [atom_get hk]
   rw [e]
   have del : delN 32 q.Atoms (k : Int) (w64 ((k : Int) + 1)) = some (q.Atoms.eraseIdx k) := by
    unfold delN
    rw [if_pos ⟨by omega, by omega, w64_of (by omega), by have := h.n3; omega⟩, Int.toNat_natCast]
   have cl : f24 q.Atoms = some q.Atoms := by
    unfold f24
    rw [app_fits (by simp; omega)]; rfl
   unfold f23
   rw [cl, bS, del, bS]
   have := loopImp n (out ++ [stp l q k]) (rest q k) (h.rest k) (by unfold rest; dsimp only; rw [List.length_eraseIdx_of_lt hk]; omega) (by simp; omega)
   have er : (rest q k).Free = nfl (cupX q.Free.contains (avars q.Atoms[k].Terms).contains) := by unfold rest; rw [atom_get hk]
   rw [er] at this
   refine this.trans ?_
   cases hr : rwg l n (rest q k) <;> simp [hr]
theorem rwImp (hl : Big l.length) (hq : FitsQ q) : f6 l q = some (rwo l q) := by
 unfold f6 rwo
 rw [clsImp hl hq, bS]
 by_cases hc : cls l q = 1
 ·have hv : vQuery l q = true := by
   unfold cls at hc
   split at hc
   ·assumption
   ·simp at hc
  have V := vq_of hl hq hv
  have n3 := V.n3
  rw [if_neg (by simpa using hc), loopImp q.Atoms.length [] q V.rq rfl (by simpa using n3), bS, if_pos hc]
  cases rwg l q.Atoms.length q <;> simp
 ·rw [if_pos (by simpa using hc), if_neg hc]
end
end
section
variable {l : List Relation} {q : Query}
theorem clo_cl {L : List Rule} (hm : ∀ r ∈ L, r.mono) {X : Int -> Bool} : Clo L (cl L X) := passes_clo hm (Nat.le_refl _)
theorem cl_ge {L : List Rule} {X : Int -> Bool} : Le4 X (cl L X) := passes_le
theorem cl_least {L : List Rule} (hm : ∀ r ∈ L, r.mono) {X Z : Int -> Bool} (hz : Clo L Z) (h : Le4 X Z) : Le4 (cl L X) Z := passes_least hm hz h
theorem path_one {i k : Nat} (hi : i < q.Atoms.length) (h : hAtt l q (i : Int) (k : Int) = true) : pathTo l q i (k : Int) = true := by
 refine clo_cl rulesP_mono (ruleP l q i i) (List.mem_map.2 ⟨i, List.mem_range.2 hi, rfl⟩) ?_ _ h
 simp [ruleP]
theorem path_go {i k : Nat} (h : pathTo l q i (k : Int) = true) : Le4 (pathTo l q k) (pathTo l q i) := by
 refine cl_least rulesP_mono (fun r hr hc => ?_) (fun v hv => by cases hv)
 unfold rulesP at hr
 obtain ⟨a, ha, rfl⟩ := List.mem_map.1 hr
 refine clo_cl rulesP_mono (ruleP l q i a) (List.mem_map.2 ⟨a, ha, rfl⟩) ?_
 simp only [ruleP, Bool.or_eq_true, decide_eq_true_eq] at hc ⊢
 rcases hc with rfl | hc
 ·exact .inr h
 ·exact .inr hc
theorem hAtt_path {i k : Int} (h : hAtt l q i k = true) : hPath l q i k = true := by
 have h0 := h
 unfold hAtt at h0
 simp only [Bool.and_eq_true] at h0
 obtain ⟨h1, h2, h3, h4⟩ := h0
 obtain ⟨a, rfl, ha⟩ := btw_nat h2
 obtain ⟨b, rfl, hb⟩ := btw_nat h3
 unfold hPath
 simp only [Bool.and_eq_true, Int.toNat_natCast]
 exact ⟨h1, h2, h3, path_one ha h⟩
theorem hPath_trans {i j k : Int} (h1 : hPath l q i j = true) (h2 : hPath l q j k = true) : hPath l q i k = true := by
 unfold hPath at h1 h2 ⊢
 simp only [Bool.and_eq_true] at h1 h2 ⊢
 obtain ⟨b, rfl, hb⟩ := btw_nat h1.2.2.1
 exact ⟨h1.1, h1.2.1, h2.2.2.1, path_go h1.2.2.2 _ (by simpa using h2.2.2.2)⟩
theorem cyc_of {i : Int} (h : hPath l q i i = true) : hCyc l q = true := by
 have h0 := h
 unfold hPath at h0
 simp only [Bool.and_eq_true] at h0
 obtain ⟨a, rfl, ha⟩ := btw_nat h0.2.1
 exact List.any_eq_true.2 ⟨a, List.mem_range.2 ha, h⟩
theorem cls_first (hv : vQuery l q = true) : cls l q = 1 ↔ hCyc l q = false := by
 unfold cls
 rw [if_pos hv]
 constructor
 ·intro h
  split at h
  ·cases h
  ·split at h
   ·cases h
   ·rename_i c; simpa using c
 ·intro h
  rw [if_neg, if_neg (by rw [h]; simp)]
  intro hh
  obtain ⟨i, _, hi⟩ := List.any_eq_true.1 hh
  obtain ⟨k, _, hk⟩ := List.any_eq_true.1 hi
  unfold hard at hk
  simp only [Bool.and_eq_true] at hk
  have := cyc_of (hPath_trans (hAtt_path hk.1) hk.2.2)
  rw [h] at this; cases this
end
section
section
variable {l : List Relation} {q x : Query} {s : Nat -> Nat}
structure Emb (q x : Query) (s : Nat -> Nat) : Prop where
 lt : ∀ i, i < x.Atoms.length -> s i < q.Atoms.length
 atm : ∀ i, i < x.Atoms.length -> atomAt x i = atomAt q (s i)
 inj : ∀ i j, i < x.Atoms.length -> j < x.Atoms.length -> s i = s j -> i = j
 free : ∀ v, q.Free.contains v = true -> x.Free.contains v = true
 cov : ∀ k, k < q.Atoms.length -> (∃ i, i < x.Atoms.length /\ s i = k) \/ ∀ v, (avars (atomAt q k).Terms).contains v = true -> x.Free.contains v = true
theorem Emb.refl : Emb q q id := ⟨fun _ h => h, fun _ _ => rfl, fun _ _ _ _ h => h, fun _ h => h, fun k hk => .inl ⟨k, hk, rfl⟩⟩
theorem restV {k : Nat} (h : RemQ l x) (hk : k < x.Atoms.length) (v : Int) : (rest x k).Free.contains v = (x.Free.contains v || (avars (atomAt x k).Terms).contains v) := by
 show (nfl (cupX x.Free.contains (avars (atomAt x k).Terms).contains)).contains v = _
 rw [nfl_has (cup_in h.free avars_in)]; rfl
theorem Emb.rest {k : Nat} (h : Emb q x s) (hx : RemQ l x) (hk : k < x.Atoms.length) : Emb q (rest x k) (fun i => s (if i < k then i else i + 1)) := by
 have len : (YtjfeimhiiomgoaaGreatDoorH.rest x k).Atoms.length + 1 = x.Atoms.length := by
  unfold YtjfeimhiiomgoaaGreatDoorH.rest; dsimp only; rw [List.length_eraseIdx_of_lt hk]; omega
 refine ⟨fun i hi => h.lt _ (by split <;> omega), fun i hi => ?_, fun i j hi hj e => ?_, fun v hv => ?_, fun a ha => ?_⟩
 ·have hi' : (if i < k then i else i + 1) < x.Atoms.length := by split <;> omega
  rw [<- h.atm _ hi', atom_get hi, atom_get hi']
  simp only [YtjfeimhiiomgoaaGreatDoorH.rest, List.getElem_eraseIdx]
  by_cases c : i < k
  ·simp only [c, dite_true, if_true]
  ·simp only [c, dite_false, if_false]
 ·have := h.inj _ _ (by split <;> omega) (by split <;> omega) e
  split at this <;> split at this <;> omega
 ·rw [restV hx hk, h.free v hv]; rfl
 ·rcases h.cov a ha with ⟨i, hi, rfl⟩ | hf
  ·by_cases c : i = k
   ·subst c
    right
    intro v hv
    rw [restV hx hk, h.atm i hi, hv, Bool.or_true]
   ·left
    by_cases c2 : i < k
    ·exact ⟨i, by omega, by simp only [c2, if_true]⟩
    ·exact ⟨i - 1, by omega, by
      have : ¬ (i - 1 < k) := by omega
      simp only [this, if_false]
      rw [show i - 1 + 1 = i by omega]⟩
  ·right
   intro v hv
   rw [restV hx hk, hf v hv]; rfl
theorem setOf_iff {K : List Int} {v : Int} : setOf q K v = true ↔ (K.contains v = true \/ q.Free.contains v = true) /\ btw v 0 3 = true := by
 unfold setOf
 rw [List.contains_iff_mem, nfl_mem]
 unfold cupX
 rw [Bool.or_eq_true]
theorem plus_emb {i : Nat} (h : Emb q x s) (hi : i < x.Atoms.length) : Le4 (plus l q (s i)) (plus l x i) := by
 unfold plus closX
 refine cl_least rulesA_mono (fun r hr hc => ?_) fun v hv => cl_ge v ?_
 ·unfold rulesA at hr
  obtain ⟨a, ha, rfl⟩ := List.mem_map.1 hr
  rw [List.mem_range] at ha
  simp only [ruleA, Bool.and_eq_true, decide_eq_true_eq] at hc ⊢
  rcases h.cov a ha with ⟨j, hj, rfl⟩ | hf
  ·have := clo_cl (L := rulesA l x (i : Int)) (X := setOf x (kvars l (atomAt x i))) rulesA_mono (ruleA l x (i : Int) j) (List.mem_map.2 ⟨j, List.mem_range.2 hj, rfl⟩) (by
    simp only [ruleA, Bool.and_eq_true, decide_eq_true_eq]
    refine ⟨fun e => hc.1 (by rw [show j = i by omega]), ?_⟩
    rw [h.atm j hj]; exact hc.2)
   simp only [ruleA] at this
   rw [h.atm j hj] at this
   exact this
  ·exact fun v hv => cl_ge v (setOf_iff.2 ⟨.inr (hf v hv), avars_in v hv⟩)
 ·have := setOf_iff.1 hv
  rw [h.atm i hi]
  exact setOf_iff.2 ⟨this.1.imp id (h.free v), this.2⟩
theorem outer_emb {i j : Nat} (h : Emb q x s) (hi : i < x.Atoms.length) (hj : j < x.Atoms.length) : Le4 (outer l x i j) (outer l q (s i) (s j)) := fun v hv => by
 unfold outer at hv ⊢
 simp only [Bool.and_eq_true, Bool.not_eq_true'] at hv ⊢
 refine ⟨by rw [<- h.atm j hj]; exact hv.1, ?_⟩
 cases c : plus l q (s i) v
 ·rfl
 ·have := plus_emb (l := l) h hi v c
  rw [hv.2] at this; cases this
theorem reach_emb {i : Nat} (h : Emb q x s) (hi : i < x.Atoms.length) : Le4 (reach l x i) (reach l q (s i)) := by
 refine cl_least rulesS_mono (fun r hr hc => ?_) (fun v hv => by cases hv)
 unfold rulesS at hr
 obtain ⟨j, hj, rfl⟩ := List.mem_map.1 hr
 rw [List.mem_range] at hj
 refine (outer_emb h hi hj).trans (outer_reach (h.lt j hj) ?_)
 simp only [ruleS, Bool.or_eq_true, decide_eq_true_eq] at hc
 rcases hc with rfl | hc
 ·exact .inl rfl
 ·right; rw [<- h.atm j hj]; exact hc
theorem att_emb {i k : Nat} (h : Emb q x s) (hi : i < x.Atoms.length) (hk : k < x.Atoms.length) (ha : att l x i k = true) : att l q (s i) (s k) = true := by
 unfold att at ha ⊢
 simp only [Bool.and_eq_true, decide_eq_true_eq] at ha ⊢
 refine ⟨fun e => ha.1 (h.inj i k hi hk e), ?_⟩
 rw [<- h.atm k hk]
 exact any_le (reach_emb h hi) ha.2
theorem btw_of {i n : Nat} (h : i < n) : btw (i : Int) 0 ((n : Int) - 1) = true := by unfold btw; simp; omega
theorem walk_emb {i k : Nat} (hv : vQuery l q = true) (h : Emb q x s) (hi : i < x.Atoms.length) (hk : k < x.Atoms.length) (ha : att l x i k = true) : hPath l q (s i : Int) (s k : Int) = true := by
 refine hAtt_path ?_
 unfold hAtt
 simp only [Bool.and_eq_true, Int.toNat_natCast]
 exact ⟨hv, btw_of (h.lt i hi), btw_of (h.lt k hk), att_emb h hi hk ha⟩
theorem stuck (hv : vQuery l q = true) (h : Emb q x s) (h1 : 1 <= x.Atoms.length) (h3 : x.Atoms.length <= 3) (hn : fstU l x = none) : hCyc l q = true := by
 have pre : ∀ k, k < x.Atoms.length -> ∃ i, i < x.Atoms.length /\ att l x i k = true := fun k hk => by
  unfold fstU at hn
  rw [List.find?_eq_none] at hn
  have := hn k (List.mem_range.2 hk)
  simp only [Bool.not_eq_true', Bool.not_eq_false] at this
  obtain ⟨i, hi, ha⟩ := List.any_eq_true.1 this
  exact ⟨i, List.mem_range.1 hi, ha⟩
 obtain ⟨a, la, ea⟩ := pre 0 (by omega)
 obtain ⟨b, lb, eb⟩ := pre a la
 obtain ⟨c, lc, ec⟩ := pre b lb
 have p1 := walk_emb hv h la (by omega) ea
 have p2 := walk_emb hv h lb la eb
 have p3 := walk_emb hv h lc lb ec
 have q2 := hPath_trans p3 p2
 have q1 := hPath_trans p2 p1
 have q3 := hPath_trans p3 q1
 have hc : a = 0 \/ b = a \/ c = b \/ b = 0 \/ c = a \/ c = 0 := by omega
 rcases hc with e | e | e | e | e | e
 ·rw [e] at p1; exact cyc_of p1
 ·rw [e] at p2; exact cyc_of p2
 ·rw [e] at p3; exact cyc_of p3
 ·rw [e] at q1; exact cyc_of q1
 ·rw [e] at q2; exact cyc_of q2
 ·rw [e] at q3; exact cyc_of q3
theorem rwg_ends (hv : vQuery l q = true) (hc : hCyc l q = false) : ∀ (n : Nat) (x : Query) (s : Nat -> Nat), Emb q x s -> RemQ l x -> x.Atoms.length = n -> ∃ f, rwg l n x = some f /\ f.length = n
 | 0, x, s, h, hx, hn => ⟨[], rfl, rfl⟩
 | n + 1, x, s, h, hx, hn => by
  cases hf : fstU l x with
  | none =>
   have := stuck hv h (by omega) hx.n3 hf
   rw [hc] at this; cases this
  | some k =>
   have hk := (fstU_lt hf).1
   obtain ⟨f, e, hl⟩ := rwg_ends hv hc n (rest x k) _ (h.rest hx hk) (hx.rest k) (by unfold rest; dsimp only; rw [List.length_eraseIdx_of_lt hk]; omega)
   exact ⟨stp l x k :: f, by simp only [rwg, hf, e], by rw [List.length_cons, hl]⟩
theorem rwo_first (hl : Big l.length) (hq : FitsQ q) (hc : cls l q = 1) : ∃ f, rwo l q = (f, true) /\ rwg l q.Atoms.length q = some f /\ f.length = q.Atoms.length := by
 have hv : vQuery l q = true := by
  have h0 := hc
  unfold cls at h0
  split at h0
  ·assumption
  ·simp at h0
 have V := vq_of hl hq hv
 obtain ⟨f, e, hf⟩ := rwg_ends hv ((cls_first hv).1 hc) q.Atoms.length q id Emb.refl V.rq rfl
 exact ⟨f, by unfold rwo; rw [if_pos hc, e], e, hf⟩
end
end
section
section
variable {l : List Relation} {q : Query}
theorem rwg_fits : ∀ (n : Nat) (q : Query) (f : List RewritingStep), RemQ l q -> q.Atoms.length = n -> rwg l n q = some f -> f.length = n /\ ∀ x ∈ f, x.Atom ∈ q.Atoms /\ x.Existential.length <= 4 /\ x.Universal.length <= 4
 | 0, q, f, h, hn, hf => by
  simp only [rwg, zJ] at hf
  subst hf
  exact ⟨rfl, by simp⟩
 | n + 1, q, f, h, hn, hf => by
  rw [rwg] at hf
  cases hu : fstU l q with
  | none => rw [hu] at hf; cases hf
  | some k =>
   rw [hu] at hf
   dsimp only at hf
   have hk := (fstU_lt hu).1
   cases hr : rwg l n (rest q k) with
   | none => rw [hr] at hf; cases hf
   | some g =>
    rw [hr] at hf
    simp only [zJ] at hf
    subst hf
    obtain ⟨g1, g2⟩ := rwg_fits n (rest q k) g (h.rest k) (by unfold rest; dsimp only; rw [List.length_eraseIdx_of_lt hk]; omega) hr
    refine ⟨by simp [g1], fun x hx => ?_⟩
    rcases List.mem_cons.1 hx with rfl | hx
    ·refine ⟨?_, nfl_len, nfl_len⟩
     show atomAt q k ∈ q.Atoms
     rw [atom_get hk]; exact List.getElem_mem hk
    ·obtain ⟨a, b, c⟩ := g2 x hx
     exact ⟨List.mem_of_mem_eraseIdx a, b, c⟩
theorem rwo_fits (hl : Big l.length) (hq : FitsQ q) : (rwo l q).1.length <= 3 /\ ∀ x ∈ (rwo l q).1, x.Atom.Terms.length <= 3 /\ x.Existential.length <= 4 /\ x.Universal.length <= 4 := by
 unfold rwo
 by_cases hc : cls l q = 1
 ·have hv : vQuery l q = true := by
   unfold cls at hc
   split at hc
   ·assumption
   ·simp at hc
  have V := vq_of hl hq hv
  rw [if_pos hc]
  cases hf : rwg l q.Atoms.length q with
  | none => simp
  | some f =>
   obtain ⟨g1, g2⟩ := rwg_fits _ q f V.rq rfl hf
   have := V.n3
   refine ⟨by simp only; omega, fun x hx => ?_⟩
   obtain ⟨a, b, c⟩ := g2 x hx
   exact ⟨V.terms _ a, b, c⟩
 ·rw [if_neg hc]; simp
end
end
section
theorem sub_len : ∀ {H K : List Int}, H.Nodup -> (∀ v ∈ H, v ∈ K) -> H.length <= K.length
 | [], K, _, _ => by simp
 | a :: t, K, hd, h => by
  rw [List.nodup_cons] at hd
  have h1 := sub_len (K := K.erase a) hd.2 fun v hv => (List.mem_erase_of_ne (fun e => hd.1 (by rw [<- e]; exact hv))).2 (h v (List.mem_cons_of_mem _ hv))
  have h2 := List.length_erase_of_mem (h a (by simp))
  have h3 := List.length_pos_of_mem (h a (by simp))
  rw [List.length_cons]; omega
theorem hasK {P : List Int} {v : Int} (h : P.length <= 1048576) : f11 P v = some (P.contains v) := by
 unfold f11
 rw [iter_ex P (fun x => x == v) true (fun i hi => by
  simp only [f11_0]
  rw [if_pos (by omega), ix_nat hi, bS, w64_succ (by omega)]
  by_cases c : P[i] = v
  ·simp [c]
  ·simp [c]) (by
  simp only [f11_0]
  rw [if_neg (by omega)])]
 have : P.any (fun x => x == v) = P.contains v := by
  rw [Bool.eq_iff_iff, List.any_eq_true, List.contains_iff_mem]
  constructor
  ·rintro ⟨x, hx, e⟩
   simp only [beq_iff_eq] at e
   exact e ▸ hx
  ·intro h; exact ⟨v, h, by simp⟩
 rw [this]
 cases P.contains v <;> rfl
section
variable {l : List Relation} {q x : Query} {K : List Int} {k : Nat}
structure Kn (x : Query) (K : List Int) : Prop where
 nd : K.Nodup
 eq : ∀ v, K.contains v = x.Free.contains v
def Cov (q x : Query) : Prop := ∀ v, btw v 0 3 = true -> (x.Free.contains v || x.Atoms.any fun a => a.Terms.contains v) = decide (v < q.VariableCount)
theorem Kn.len (h : Kn x K) (hx : In4 x.Free.contains) : K.length <= 4 := nodup_le h.nd fun v hv => by
 have := hx v (by rw [<- h.eq, List.contains_iff_mem]; exact hv)
 unfold btw at this; simp at this; omega
theorem exF_in : In4 (exF l x k) := fun v hv => by
 unfold exF at hv
 simp only [Bool.and_eq_true] at hv
 exact kvars_in v hv.1
theorem unF_in : In4 (unF l x k) := fun v hv => by
 unfold unF at hv
 simp only [Bool.and_eq_true] at hv
 exact avars_in v hv.1.1
theorem kv_av {a : Atom} {v : Int} (h : (kvars l a).contains v = true) : (avars a.Terms).contains v = true := by
 have h1 := kvars_sub v h
 have h2 := kvars_in v h
 rw [List.contains_iff_mem] at h1 ⊢
 exact avars_mem.2 ⟨h1, h2⟩
theorem nfl_nodup {X : Int -> Bool} : (nfl X).Nodup := up_nodup nfl_up
theorem Kn.step (h : Kn x K) (hx : RemQ l x) (hk : k < x.Atoms.length) : Kn (rest x k) (K ++ nfl (exF l x k) ++ nfl (unF l x k)) := by
 refine ⟨?_, fun v => ?_⟩
 ·rw [List.nodup_append, List.nodup_append]
  refine ⟨⟨h.nd, nfl_nodup, fun a ha b hb e => ?_⟩, nfl_nodup, fun a ha b hb e => ?_⟩
  ·subst e
   have h1 := (nfl_mem.1 hb).1
   unfold exF at h1
   rw [<- h.eq, List.contains_iff_mem.2 ha] at h1
   simp at h1
  ·subst e
   have h1 := (nfl_mem.1 hb).1
   unfold unF at h1
   rcases List.mem_append.1 ha with ha | ha
   ·rw [<- h.eq, List.contains_iff_mem.2 ha] at h1
    simp at h1
   ·have h2 := (nfl_mem.1 ha).1
    unfold exF at h2
    simp only [Bool.and_eq_true] at h2
    rw [h2.1] at h1
    simp at h1
 ·have e1 : ∀ (A B : List Int), (A ++ B).contains v = (A.contains v || B.contains v) := fun A B => by
   rw [Bool.eq_iff_iff, Bool.or_eq_true, List.contains_iff_mem, List.contains_iff_mem, List.contains_iff_mem, List.mem_append]
  rw [e1, e1, h.eq, nfl_has exF_in, nfl_has unF_in, restV hx hk]
  have h2 := kv_av (l := l) (a := atomAt x k) (v := v)
  unfold exF unF
  cases x.Free.contains v <;> cases hc : (kvars l (atomAt x k)).contains v <;> cases ha : (avars (atomAt x k).Terms).contains v <;> first | (exfalso; rw [h2 hc] at ha; cases ha; done) | rfl
theorem Cov.step (h : Cov q x) (hx : RemQ l x) (hk : k < x.Atoms.length) : Cov q (rest x k) := fun v hv => by
 rw [<- h v hv, restV hx hk, atom_get hk]
 have e1 : (avars x.Atoms[k].Terms).contains v = x.Atoms[k].Terms.contains v := by
  rw [Bool.eq_iff_iff, List.contains_iff_mem, List.contains_iff_mem, avars_mem]
  exact ⟨fun h => h.1, fun h => ⟨h, hv⟩⟩
 rw [e1, Bool.or_assoc]
 congr 1
 rw [Bool.eq_iff_iff, Bool.or_eq_true, List.any_eq_true, List.any_eq_true]
 constructor
 ·rintro (h | ⟨a, ha, hc⟩)
  ·exact ⟨_, List.getElem_mem hk, h⟩
  ·exact ⟨a, List.mem_of_mem_eraseIdx ha, hc⟩
 ·rintro ⟨a, ha, hc⟩
  obtain ⟨i, hi, rfl⟩ := List.mem_iff_getElem.1 ha
  by_cases c : i = k
  ·subst c; exact .inl hc
  ·right
   exact ⟨x.Atoms[i], List.mem_eraseIdx_iff_getElem.2 ⟨i, hi, c, rfl⟩, hc⟩
theorem Kn.full (h : Kn x K) (hx : In4 x.Free.contains) (hc : Cov q x) (h0 : 0 <= q.VariableCount /\ q.VariableCount <= 4) (hn : x.Atoms.length = 0) : (K.length : Int) = q.VariableCount := by
 have he : x.Atoms = [] := List.length_eq_zero_iff.1 hn
 have hm : ∀ v, btw v 0 3 = true -> (v ∈ K ↔ v < q.VariableCount) := fun v hv => by
  have := hc v hv
  rw [he, <- h.eq] at this
  simp only [List.any_nil, Bool.or_false] at this
  rw [<- List.contains_iff_mem, this, decide_eq_true_eq]
 have h1 : K.length <= q.VariableCount.toNat := nodup_le h.nd fun v hv => by
  have hb := hx v (by rw [<- h.eq, List.contains_iff_mem]; exact hv)
  have := (hm v hb).1 hv
  unfold btw at hb; simp at hb
  omega
 have h2 := sub_len (H := (List.range q.VariableCount.toNat).map fun i => ((i : Nat) : Int)) (K := K) (by
  unfold List.Nodup
  rw [List.pairwise_map]
  exact List.nodup_range.imp fun h => by omega) fun v hv => by
  obtain ⟨i, hi, rfl⟩ := List.mem_map.1 hv
  rw [List.mem_range] at hi
  exact (hm _ (by unfold btw; simp; omega)).2 (by omega)
 simp only [List.length_map, List.length_range] at h2
 omega
theorem vq_cov (hv : vQuery l q = true) : Cov q q := fun v hb => by
 have h0 := hv
 unfold vQuery at h0
 simp only [Bool.and_eq_true] at h0
 have hb' := hb
 unfold btw at hb'; simp only [Bool.and_eq_true, decide_eq_true_eq] at hb'
 rw [Bool.eq_iff_iff, Bool.or_eq_true, decide_eq_true_eq]
 constructor
 ·rintro (h | h)
  ·rw [List.contains_iff_mem] at h
   have := h0.2.2.2.2.2
   have hn := vq_vars hv
   obtain ⟨n, hn'⟩ : ∃ n : Nat, q.VariableCount = n := ⟨q.VariableCount.toNat, by omega⟩
   rw [hn'] at this
   have := (asc_of this).2 v h
   omega
  ·obtain ⟨a, ha, hc⟩ := List.any_eq_true.1 h
   obtain ⟨i, hi, rfl⟩ := List.mem_iff_getElem.1 ha
   rw [List.contains_iff_mem] at hc
   exact ((vq_atom hv hi).2 v hc).2
 ·intro h
  right
  have := List.all_eq_true.1 h0.2.2.2.2.1 v.toNat (List.mem_range.2 (by omega))
  rw [Bool.or_eq_true, decide_eq_true_eq, show ((v.toNat : Nat) : Int) = v by omega] at this
  exact this.resolve_left (by omega)
theorem rwg_all : ∀ (n : Nat) (q : Query) (f : List RewritingStep), RemQ l q -> q.Atoms.length = n -> rwg l n q = some f -> ∀ s ∈ f, s.Atom ∈ q.Atoms /\ s.Existential.all (kvars l s.Atom).contains = true /\ s.Universal.all (avars s.Atom.Terms).contains = true
 | 0, q, f, h, hn, hf => by
  simp only [rwg, zJ] at hf
  subst hf
  exact fun s hs => by cases hs
 | n + 1, q, f, h, hn, hf => by
  rw [rwg] at hf
  cases hu : fstU l q with
  | none => rw [hu] at hf; cases hf
  | some k =>
   rw [hu] at hf
   dsimp only at hf
   have hk := (fstU_lt hu).1
   cases hr : rwg l n (rest q k) with
   | none => rw [hr] at hf; cases hf
   | some g =>
    rw [hr] at hf
    simp only [zJ] at hf
    subst hf
    have g2 := rwg_all n (rest q k) g (h.rest k) (by unfold rest; dsimp only; rw [List.length_eraseIdx_of_lt hk]; omega) hr
    intro s hs
    rcases List.mem_cons.1 hs with rfl | hs
    ·refine ⟨?_, List.all_eq_true.2 fun v hv => ?_, List.all_eq_true.2 fun v hv => ?_⟩
     ·show atomAt q k ∈ q.Atoms
      rw [atom_get hk]; exact List.getElem_mem hk
     ·have := (nfl_mem.1 hv).1
      unfold exF at this
      simp only [Bool.and_eq_true] at this
      exact this.1
     ·have := (nfl_mem.1 hv).1
      unfold unF at this
      simp only [Bool.and_eq_true] at this
      exact this.1.1
    ·obtain ⟨a, b, c⟩ := g2 s hs
     exact ⟨List.mem_of_mem_eraseIdx a, b, c⟩
theorem rwg_valid {f : List RewritingStep} (hl : Big l.length) (hq : FitsQ q) (hv : vQuery l q = true) (hf : rwg l q.Atoms.length q = some f) : vRw l f = true := by
 have V := vq_of hl hq hv
 have g := rwg_all _ q f V.rq rfl hf
 have g1 := (rwg_fits _ q f V.rq rfl hf).1
 have n3 := V.n3
 unfold vRw
 rw [Bool.and_eq_true, List.all_eq_true, decide_eq_true_eq]
 refine ⟨fun s hs => ?_, by omega⟩
 obtain ⟨a, b, c⟩ := g s hs
 obtain ⟨i, hi, e⟩ := List.mem_iff_getElem.1 a
 have h1 := vq_atom hv hi
 rw [e] at h1
 have h2 : btw s.Atom.Relation 0 (l.length - 1) = true := by
  have h0 := hv
  unfold vQuery at h0
  simp only [Bool.and_eq_true] at h0
  have := List.all_eq_true.1 h0.2.2.2.1 i (List.mem_range.2 hi)
  rw [vAtom_get hi, e] at this
  unfold vAt at this
  simp only [Bool.and_eq_true] at this
  exact this.1
 have hn := vq_vars hv
 unfold vStep
 simp only [Bool.and_eq_true, decide_eq_true_eq]
 refine ⟨V.rels, h2, h1.1, List.all_eq_true.2 fun v hv => ?_, b, c⟩
 have := h1.2 v hv
 unfold btw; simp; omega
end
end
section
def dgs (n : Int) : List UInt8 := if n = 0 then [] else Lib.decDigits n.natAbs
theorem dgs_step {n : Int} (h : n ≠ 0) : dgs n = dgs (n.tdiv 10) ++ [UInt8.ofNat (48 + n.natAbs % 10)] := by
 unfold dgs
 have e : (n.tdiv 10).natAbs = n.natAbs / 10 := by rw [Int.natAbs_tdiv]; rfl
 rw [if_neg h, Lib.decDigits]
 by_cases c : n.natAbs < 10
 ·have e0 : n.tdiv 10 = 0 := Int.natAbs_eq_zero.1 (by rw [e]; omega)
  rw [dif_pos c, if_pos e0, List.nil_append, Nat.mod_eq_of_lt c]
 ·have e0 : ¬ n.tdiv 10 = 0 := fun h0 => by rw [h0] at e; simp at e; omega
  rw [dif_neg c, if_neg e0, e]
theorem fmt_loop : ∀ (m : Nat) (n : Int) (out : List UInt8), (-9223372036854775808 <= n /\ n <= 9223372036854775807) -> n.natAbs < 10 ^ m -> out.length + m <= 100 -> iter f94_0 (n, out) = some (dgs n ++ out) := by
 intro m
 induction m with
 | zero =>
  intro n out _ hn _
  have : n = 0 := by simp at hn; omega
  subst this
  rw [iter_eq]
  simp [f94_0, dgs]
 | succ m ih =>
  intro n out hm hn ho
  by_cases h : n = 0
  ·subst h
   rw [iter_eq]
   simp [f94_0, dgs]
  ·rw [iter_eq]
   simp only [f94_0]
   rw [if_pos h]
   have e1 : (n.tmod 10).natAbs = n.natAbs % 10 := by rw [Int.natAbs_tmod]; rfl
   have e2 : (n.tdiv 10).natAbs = n.natAbs / 10 := by rw [Int.natAbs_tdiv]; rfl
   have hd : (if n.tmod 10 < 0 then some (w64 (-(n.tmod 10))) else some (n.tmod 10) : Option Int) = some ((n.natAbs % 10 : Nat) : Int) := by
    split
    ·rw [w64_of (by omega)]; congr 1; omega
    ·congr 1; omega
   have hlt : n.natAbs % 10 < 10 := Nat.mod_lt _ (by decide)
   have hb : ∀ d : Nat, d < 10 -> UInt8.ofNat (w8 (w64 (48 + (d : Int)))).toNat = UInt8.ofNat (48 + d) := by
    intro d hd
    rw [w64_of (by omega)]
    have : d = 0 \/ d = 1 \/ d = 2 \/ d = 3 \/ d = 4 \/ d = 5 \/ d = 6 \/ d = 7 \/ d = 8 \/ d = 9 := by omega
    rcases this with rfl | rfl | rfl | rfl | rfl | rfl | rfl | rfl | rfl | rfl <;> rfl
   rw [hd, bS, hb _ hlt, cat_ok (by simp; omega), bS]
   rw [w64_of (by omega)]
   dsimp only
   rw [ih _ _ (by omega) (by rw [e2]; rw [Nat.pow_succ] at hn; omega) (by simp; omega), dgs_step h, List.append_assoc]
theorem fmtI {n : Int} (h0 : -9223372036854775808 <= n) (h1 : n <= 9223372036854775807) : f94 n = some (Lib.itoa n) := by
 unfold f94 Lib.itoa
 by_cases h : n = 0
 ·subst h
  rw [if_pos rfl, if_neg (by decide), Lib.decDigits]; rfl
 ·have hl : (dgs n).length <= 40 := by
   unfold dgs
   rw [if_neg h, Lib.decDigits_length]
   have := Lib.nDigits_le20 n.natAbs (by omega)
   omega
  rw [if_neg h, fmt_loop 20 n [] ⟨h0, h1⟩ (by omega) (by simp), bS, List.append_nil]
  by_cases c : n < 0
  ·rw [if_pos c, if_pos c, cat_ok (by simp; omega), bS]
   unfold dgs
   rw [if_neg h]; rfl
  ·rw [if_neg c, if_neg c]
   unfold dgs
   rw [if_neg h, show n.natAbs = n.toNat by omega]
theorem itoI {n : Int} (h0 : -9223372036854775808 <= n) (h1 : n <= 9223372036854775807) : f92 n = some (Lib.itoa n) := by
 unfold f92 f114 itoaN
 rw [if_pos ⟨h0, h1⟩]; rfl
theorem join_snoc (L : List (List UInt8)) (x sep : List UInt8) : Lib.join (L ++ [x]) sep = if L = [] then x else Lib.join L sep ++ sep ++ x := by
 cases L with
 | nil => rw [if_pos rfl, List.nil_append, Lib.join_one]
 | cons a r =>
  rw [if_neg (by simp), List.cons_append, Lib.join_cons, Lib.join_cons]
  simp [Lib.joinTail]
theorem join_flat (L : List (List UInt8)) : Lib.join L [] = L.flatten := by
 cases L with
 | nil => rfl
 | cons a r => rw [Lib.join_cons]; simp [Lib.joinTail]
theorem flatK {K : Nat} : ∀ {L : List (List UInt8)}, (∀ x ∈ L, x.length <= K) -> L.flatten.length <= K * L.length
 | [], _ => by simp
 | x :: L, h => by
  have h1 := h x (by simp)
  have h2 := flatK (L := L) fun y hy => h y (by simp [hy])
  simp only [List.flatten_cons, List.length_append, List.length_cons, Nat.mul_succ]
  omega
theorem join_len {K : Nat} {sep : List UInt8} {L : List (List UInt8)} (h : ∀ x ∈ L, x.length <= K) : (Lib.join L sep).length <= (K + sep.length) * L.length := by
 cases L with
 | nil => simp [Lib.join_nil]
 | cons a r =>
  have h1 := h a (by simp)
  have h2 : (Lib.joinTail sep r).length <= (K + sep.length) * r.length := by
   unfold Lib.joinTail
   have := flatK (K := K + sep.length) (L := r.map (sep ++ ·)) (fun x hx => by
    obtain ⟨y, hy, rfl⟩ := List.mem_map.1 hx
    have := h y (by simp [hy])
    simp; omega)
   simpa using this
  rw [Lib.join_cons, List.length_append, List.length_cons, Nat.mul_succ]
  omega
theorem joinI {xs : List (List UInt8)} {sep : List UInt8} (h1 : xs.length <= 140737488355328) (h2 : (Lib.join xs sep).length <= 140737488355328) : f34 xs sep = some (Lib.join xs sep) := by
 unfold f34 joinN
 rw [if_pos ⟨h1, h2⟩]
theorem iter_words {f : List UInt8 × Int -> Option ((List UInt8 × Int) ⊕ List UInt8)} (L : List (List UInt8)) (K : Nat) (hK : ∀ x ∈ L, x.length <= K)
  (hs : ∀ (i : Nat) (h : i < L.length) (s : List UInt8), s.length <= (K + 1) * i -> f (s, (i : Int)) = some (.inl ((if i = 0 then s else s ++ [32]) ++ L[i], ((i + 1 : Nat) : Int)))) (he : ∀ s, f (s, (L.length : Int)) = some (.inr s)) :
  iter f ([], 0) = some (Lib.join L [32]) := by
 have := iter_steps (f := f) (fun i => (Lib.join (L.take i) [32], (i : Int))) L.length (Lib.join L [32]) (fun i hi => by
  rw [hs i hi _ (by
   have := join_len (sep := [32]) (L := L.take i) fun x hx => hK x (List.mem_of_mem_take hx)
   rw [List.length_take, show min i L.length = i by omega] at this
   simpa using this), take_succ' hi, join_snoc]
  congr 3
  by_cases c : i = 0
  ·subst c; simp [Lib.join_nil]
  ·rw [if_neg c, if_neg (fun e => by
    have := congrArg List.length e
    rw [List.length_take, List.length_nil] at this; omega)]) (by
  rw [he, List.take_of_length_le (Nat.le_refl _)])
 simpa [Lib.join_nil] using this
def bar (k : Nat) (L : List (List UInt8)) : List UInt8 := (L.take k).flatten ++ if k < L.length then 124 :: (L.drop k).flatten else []
theorem bar_nil {k : Nat} : bar k [] = [] := by simp [bar]
theorem bar_snoc {k : Nat} {L : List (List UInt8)} {x : List UInt8} : bar k (L ++ [x]) = (if L.length = k then bar k L ++ [124] else bar k L) ++ x := by
 unfold bar
 rw [List.length_append, List.length_singleton]
 rcases Nat.lt_trichotomy L.length k with h | h | h
 ·rw [if_neg (by omega), if_neg (by omega), if_neg (by omega), List.take_of_length_le (by simp; omega), List.take_of_length_le (by omega)]
  simp
 ·rw [if_pos (by omega), if_pos h, if_neg (by omega), List.take_of_length_le (l := L) (by omega), <- h]
  simp
 ·rw [if_pos (by omega), if_neg (by omega), if_pos h, List.take_append_of_le_length (by omega), List.drop_append_of_le_length (by omega)]
  simp
theorem bar_len {k K : Nat} {L : List (List UInt8)} (h : ∀ x ∈ L, x.length <= K) : (bar k L).length <= K * L.length + 1 := by
 unfold bar
 have h1 := flatK (L := L.take k) fun x hx => h x (List.mem_of_mem_take hx)
 have h2 := flatK (L := L.drop k) fun x hx => h x (List.mem_of_mem_drop hx)
 rw [List.length_take] at h1
 rw [List.length_drop] at h2
 have e : min k L.length + (L.length - k) = L.length := by omega
 have e2 : K * min k L.length + K * (L.length - k) = K * L.length := by rw [<- Nat.mul_add, e]
 rw [List.length_append]
 split
 ·rw [List.length_cons]; omega
 ·rw [List.length_nil]; omega
theorem iter_bar {f : List UInt8 × Int -> Option ((List UInt8 × Int) ⊕ List UInt8)} (s0 : List UInt8) (k : Int) (L : List (List UInt8)) (K : Nat) (hk : 0 <= k) (hK : ∀ x ∈ L, x.length <= K)
  (hs : ∀ (i : Nat) (h : i < L.length) (s : List UInt8), s.length <= s0.length + (K * i + 1) -> f (s, (i : Int)) = some (.inl ((if (i : Int) = k then s ++ [124] else s) ++ L[i], ((i + 1 : Nat) : Int)))) (he : ∀ s, f (s, (L.length : Int)) = some (.inr s)) :
  iter f (s0, 0) = some (s0 ++ bar k.toNat L) := by
 have := iter_steps (f := f) (fun i => (s0 ++ bar k.toNat (L.take i), (i : Int))) L.length (s0 ++ bar k.toNat L) (fun i hi => by
  have hl : (L.take i).length = i := by rw [List.length_take]; omega
  rw [hs i hi _ (by
   have := bar_len (k := k.toNat) (L := L.take i) fun x hx => hK x (List.mem_of_mem_take hx)
   rw [hl] at this
   rw [List.length_append]; omega), take_succ' hi, bar_snoc, hl]
  congr 3
  by_cases c : (i : Int) = k
  ·rw [if_pos c, if_pos (by omega)]; simp
  ·rw [if_neg c, if_neg (by omega)]; simp) (by
  rw [he, List.take_of_length_le (Nat.le_refl _)])
 simpa [bar_nil] using this
theorem barI {parts : List (List UInt8)} {k : Int} {K : Nat} (h0 : 0 <= k) (h1 : k <= parts.length) (hl : parts.length <= 1048576) (hK : ∀ x ∈ parts, x.length <= K) (hk2 : K <= 1000) : f68 parts k = some (bar k.toNat parts) := by
 unfold f68 bar
 have a1 := flatK (L := parts.take k.toNat) fun x hx => hK x (List.mem_of_mem_take hx)
 have a2 := flatK (L := parts.drop k.toNat) fun x hx => hK x (List.mem_of_mem_drop hx)
 have b1 : K * (parts.take k.toNat).length <= 1000 * 1048576 := Nat.mul_le_mul hk2 (by rw [List.length_take]; omega)
 have b2 : K * (parts.drop k.toNat).length <= 1000 * 1048576 := Nat.mul_le_mul hk2 (by rw [List.length_drop]; omega)
 rw [cutL_ok (by omega) h0 h1, bS, show (0 : Int).toNat = 0 by rfl, List.drop_zero, joinI (by rw [List.length_take]; omega) (by rw [join_flat]; omega), join_flat, bS]
 by_cases c : k < parts.length
 ·rw [if_pos c, if_pos (by omega), cutL_ok h0 (by omega) (by omega), bS, show ((parts.length : Nat) : Int).toNat = parts.length by rfl, List.take_of_length_le (Nat.le_refl _), joinI (by rw [List.length_drop]; omega) (by rw [join_flat]; omega), join_flat, bS, cat_ok (by rw [List.length_singleton]; omega), bS, cat_ok (by rw [List.length_append, List.length_singleton]; omega), bS]
  simp
 ·rw [if_neg c, if_neg (by omega)]; simp
end
section
end
section
end
section
variable {q : Query}
end
section
variable {q : Query}
end
section
end
section
end
section
end
section
variable {x : List Int} (hx : x.length <= 1048576)
include hx
end
section
variable {x : List Int} (hx : x.length <= 16383)
include hx
end
section
variable {x : List Int} (hx : x.length <= 16383)
include hx
end
section
variable {q : Query}
end
section
variable {q : Query}
end
section
end
section
variable {q : Query}
def Few (K : List (List Int)) : Prop := K.length <= 1048576 /\ ∀ x ∈ K, x.length <= 14
theorem Few.big {K : List (List Int)} (h : Few K) : Big K.length /\ ∀ x ∈ K, Big x.length := ⟨by have := h.1; omega, fun x hx => by have := h.2 x hx; omega⟩
end
section
variable {q : Query}
end
section
variable {q : Query}
end
section
variable {q : Query}
end
section
end
section
variable {l : List Relation}
theorem rel_part (hr : vRels l = true) {r : Int} (hb : btw r 0 (l.length - 1) = true) : ∃ x, ix l r = some x /\ l[r.toNat]? = some x /\ x.Name.length = 1 /\ 0 <= x.KeyLength /\ x.KeyLength <= arity l r /\ arity l r <= 3 := by
 obtain ⟨x, h1, h2, h3, h4⟩ := ix_rel hb
 unfold btw at hb; simp only [Bool.and_eq_true, decide_eq_true_eq] at hb
 have hx : vRel x = true := by
  unfold vRels at hr; simp only [Bool.and_eq_true] at hr
  obtain ⟨i, hi, rfl⟩ := List.mem_iff_getElem.1 h2
  exact (good_of hr.1 hi).1
 unfold vRel btw at hx; simp only [Bool.and_eq_true, decide_eq_true_eq] at hx
 refine ⟨x, h1, ?_, hx.1, hx.2.2.2.2.1, by rw [<- h3]; exact hx.2.2.2.2.2, by rw [<- h3]; exact hx.2.2.2.1.2⟩
 rw [ix_of hb.1] at h1; exact h1
def rTxt (l : List Relation) (r : Int) (L : List (List UInt8)) : List UInt8 :=
 match l[r.toNat]? with
 | some x => x.Name ++ bar x.KeyLength.toNat L
 | none => []
end
section
variable {l : List Relation}
def tTxt (t : Int) : List UInt8 := if -10 <= t /\ t <= -1 then Lib.itoa (-1 - t) else (([120, 121, 122, 119] : List UInt8).drop t.toNat).take 1
theorem tTxt_len {t : Int} (h : -10 <= t /\ t <= 3) : (tTxt t).length <= 21 := by
 unfold tTxt
 split
 ·exact Lib.itoa_length_le _ (by omega) (by omega)
 ·rw [List.length_take]; omega
theorem specT {t : Int} (h : -10 <= t /\ t <= 3) : f69 t = some (tTxt t) := by
 unfold f69 f93 tTxt
 by_cases c : t <= -1
 ·rw [if_neg (by omega), w64_of (n := -1 - t) (by omega), specIn, bS, bS, show btw (-1 - t) 0 9 = true by simp [btw]; omega, if_neg (by simp), bS, if_pos rfl, fmtI (by omega) (by omega), bS, if_pos ⟨h.1, c⟩]
 ·rw [if_pos (by omega), bS, if_pos rfl, bS, if_neg (by simp), specIn, bS, show btw t 0 3 = true by simp [btw]; omega, if_neg (by simp), w64_of (by omega), cutL_ok (by omega) (by omega) (by simp; omega), bS, if_neg (by omega)]
  have : t = 0 \/ t = 1 \/ t = 2 \/ t = 3 := by omega
  rcases this with rfl | rfl | rfl | rfl <;> rfl
theorem impT {t : Int} (h : -10 <= t /\ t <= 3) : f67 t = some (tTxt t) := by
 unfold f67 f91 tTxt
 rw [impIn, bS]
 by_cases c : t <= -1
 ·rw [show btw t (-10) (-1) = true by simp [btw]; omega, if_neg (by simp), w64_of (n := -1 - t) (by omega), bS, if_pos rfl, itoI (by omega) (by omega), bS, if_pos ⟨h.1, c⟩]
 ·rw [show btw t (-10) (-1) = false by simp [btw]; omega, if_pos (by simp), bS, if_neg (by simp), impIn, bS, show btw t 0 3 = true by simp [btw]; omega, if_pos rfl, w64_of (by omega), cutL_ok (by omega) (by omega) (by simp; omega), bS, if_neg (by omega)]
  have : t = 0 \/ t = 1 \/ t = 2 \/ t = 3 := by omega
  rcases this with rfl | rfl | rfl | rfl <;> rfl
theorem tTxts_len {L : List Int} (h : ∀ t ∈ L, -10 <= t /\ t <= 3) : ∀ x ∈ L.map tTxt, x.length <= 21 := by
 intro x hx
 obtain ⟨t, ht, rfl⟩ := List.mem_map.1 hx
 exact tTxt_len (h t ht)
theorem specTs {L : List Int} (hl : L.length <= 1048576) (h : ∀ t ∈ L, -10 <= t /\ t <= 3) : f37 L = some (L.map tTxt).flatten := by
 unfold f37
 have it := iter_steps (f := f37_0 L) (fun i => (((L.take i).map tTxt).flatten, (i : Int))) L.length (L.map tTxt).flatten (fun i hi => by
  have ht := h _ (List.getElem_mem hi)
  have h1 := flatK (tTxts_len (L := L.take i) fun t ht => h t (List.mem_of_mem_take ht))
  have h2 := tTxt_len ht
  rw [List.length_map, List.length_take] at h1
  simp only [f37_0]
  rw [if_pos (by omega), ix_nat hi, bS, specT ht, bS, cat_ok (by omega), bS, w64_succ (by omega), take_succ' hi, List.map_append, List.flatten_append, List.map_singleton, List.flatten_singleton]) (by
  simp only [f37_0]
  rw [if_neg (by omega), List.take_of_length_le (Nat.le_refl _)])
 simp only [List.take_zero, List.map_nil, List.flatten_nil, Int.natCast_zero, Int.ofNat_zero] at it
 rw [it]; rfl
theorem impTs {L : List Int} (hl : L.length <= 1048576) (h : ∀ t ∈ L, -10 <= t /\ t <= 3) : f35 L = some (L.map tTxt) := by
 unfold f35
 have it := iter_steps (f := f35_0 L) (fun i => ((L.take i).map tTxt, (i : Int))) L.length (L.map tTxt) (fun i hi => by
  have ht := h _ (List.getElem_mem hi)
  simp only [f35_0]
  rw [if_pos (by omega), ix_nat hi, bS, impT ht, bS, app_fits (by simp; omega), bS, w64_succ (by omega), take_succ' hi, List.map_append, List.map_singleton]) (by
  simp only [f35_0]
  rw [if_neg (by omega), List.take_of_length_le (Nat.le_refl _)])
 simp only [List.take_zero, List.map_nil, Int.natCast_zero, Int.ofNat_zero] at it
 rw [it]; rfl
theorem avR {t : List Int} {v : Int} (h : (avars t).contains v = true) : -10 <= v /\ v <= 3 := by
 rw [List.contains_iff_mem] at h
 unfold avars at h
 obtain ⟨i, hi, hv⟩ := List.mem_flatMap.1 h
 rw [List.mem_range] at hi
 split at hv
 ·rw [List.mem_singleton] at hv; omega
 ·cases hv
theorem kvR {a : Atom} {v : Int} (h : (kvars l a).contains v = true) : -10 <= v /\ v <= 3 := by
 unfold kvars at h
 split at h
 ·exact avR h
 ·simp at h
def aTxt (l : List Relation) (a : Atom) : List UInt8 := rTxt l a.Relation (a.Terms.map tTxt)
theorem step_part {s : RewritingStep} (h : vStep l s = true) : vRels l = true /\ btw s.Atom.Relation 0 (l.length - 1) = true /\ (s.Atom.Terms.length : Int) = arity l s.Atom.Relation /\ (∀ t ∈ s.Atom.Terms, -10 <= t /\ t <= 3) /\ (∀ t ∈ s.Existential, -10 <= t /\ t <= 3) /\ (∀ t ∈ s.Universal, -10 <= t /\ t <= 3) := by
 unfold vStep at h
 simp only [Bool.and_eq_true, decide_eq_true_eq, List.all_eq_true] at h
 obtain ⟨h1, h2, h3, h4, h5, h6⟩ := h
 have rng : ∀ {v lo hi : Int}, btw v lo hi = true -> lo <= v /\ v <= hi := fun h => by
  unfold btw at h; simp only [Bool.and_eq_true, decide_eq_true_eq] at h; exact h
 exact ⟨h1, h2, h3, fun t ht => rng (h4 t ht), fun t ht => kvR (h5 t ht), fun t ht => avR (h6 t ht)⟩
theorem specA {s : RewritingStep} (h : vStep l s = true) (hl : Big l.length) : f38 l s.Atom = some (aTxt l s.Atom) := by
 obtain ⟨hr, hb, ha, ht, _, _⟩ := step_part h
 obtain ⟨x, h1, h2, h3, h4, h5, h6⟩ := rel_part hr hb
 have hK := tTxts_len ht
 unfold f38
 rw [h1, bS, iter_bar x.Name x.KeyLength (s.Atom.Terms.map tTxt) 21 h4 hK (fun i hi u hs => by
  rw [List.length_map] at hi
  have hv := ht _ (List.getElem_mem hi)
  have hk := tTxt_len hv
  simp only [f38_0]
  rw [if_pos (by omega), h1, bS, ix_nat hi, w64_succ (by omega)]
  have e : (if (i : Int) = x.KeyLength then (cat u [124]).bind fun s_14 => some s_14 else some u : Option (List UInt8)) = some (if (i : Int) = x.KeyLength then u ++ [124] else u) := by
   split
   ·rw [cat_ok (by simp; omega)]; rfl
   ·rfl
  have e2 : (if (i : Int) = x.KeyLength then u ++ [124] else u).length <= u.length + 1 := by split <;> simp
  rw [List.getElem_map]
  rw [e, bS, bS, specT hv, bS, cat_ok (by omega), bS]) (fun u => by
  simp only [f38_0]
  rw [List.length_map, if_neg (by omega)]), bS]
 unfold aTxt rTxt
 rw [h2]
theorem aTxt_len {s : RewritingStep} (h : vStep l s = true) : (aTxt l s.Atom).length <= 65 := by
 obtain ⟨hr, hb, ha, ht, _, _⟩ := step_part h
 obtain ⟨x, h1, h2, h3, h4, h5, h6⟩ := rel_part hr hb
 unfold aTxt rTxt
 rw [h2]
 have := bar_len (k := x.KeyLength.toNat) (tTxts_len ht)
 rw [List.length_map] at this
 simp only [List.length_append]; omega
theorem impA {s : RewritingStep} (h : vStep l s = true) (hl : Big l.length) : f36 l s.Atom = some (aTxt l s.Atom) := by
 obtain ⟨hr, hb, ha, ht, _, _⟩ := step_part h
 obtain ⟨x, h1, h2, h3, h4, h5, h6⟩ := rel_part hr hb
 have hK := tTxts_len ht
 have hb := bar_len (k := x.KeyLength.toNat) hK
 rw [List.length_map] at hb
 unfold f36
 rw [h1, bS, impTs (by omega) ht, bS, barI h4 (by rw [List.length_map]; omega) (by rw [List.length_map]; omega) hK (by omega), bS, cat_ok (by omega), bS]
 unfold aTxt rTxt
 rw [h2]
def sTxt (l : List Relation) (s : RewritingStep) : List UInt8 := [69] ++ (s.Existential.map tTxt).flatten ++ [32, 65] ++ (s.Universal.map tTxt).flatten ++ [32] ++ aTxt l s.Atom
def rwTxt (l : List Relation) (f : List RewritingStep) : List UInt8 := if vRw l f = true then Lib.join (f.map (sTxt l)) [32] else []
theorem sTxt_part {s : RewritingStep} (h : vStep l s = true) (hf : FitsS s) : (s.Existential.map tTxt).flatten.length <= 22020096 /\ (s.Universal.map tTxt).flatten.length <= 22020096 := by
 obtain ⟨_, _, _, _, he, hu⟩ := step_part h
 have h1 := flatK (tTxts_len he)
 have h2 := flatK (tTxts_len hu)
 rw [List.length_map] at h1 h2
 have := hf.2
 omega
theorem sTxt_len {s : RewritingStep} (h : vStep l s = true) (hf : FitsS s) : (sTxt l s).length <= 44040300 := by
 obtain ⟨h1, h2⟩ := sTxt_part h hf
 have h3 := aTxt_len h
 unfold sTxt
 simp only [List.length_append, List.length_cons, List.length_nil]
 omega
theorem vRw_of {f : List RewritingStep} (h : vRw l f = true) : (∀ s ∈ f, vStep l s = true) /\ f.length <= 3 := by
 unfold vRw at h
 simp only [Bool.and_eq_true, decide_eq_true_eq, List.all_eq_true] at h
 exact h
theorem specFRw {f : List RewritingStep} (hl : Big l.length) (hf : f.length <= 1048576) (h : ∀ x ∈ f, FitsS x) : f10 l f = some (rwTxt l f) := by
 unfold f10 rwTxt
 have hs := specRw hl (show Big f.length by omega) h
 cases hv : vRw l f
 ·have it := iter_steps (f := f10_0 l f) (fun _ => ([], 0)) 0 [] (fun i hi => by omega) (by
   simp only [f10_0]
   rw [hs, hv]
   by_cases c : (0 : Int) < f.length
   ·rw [if_pos c, bS, bS, if_neg (by simp)]
   ·rw [if_neg c, bS, if_neg (by simp)])
  rw [it]; simp
 ·obtain ⟨v1, v2⟩ := vRw_of hv
  rw [iter_words (f.map (sTxt l)) 44040300 (fun x hx => by
   obtain ⟨s, hm, rfl⟩ := List.mem_map.1 hx
   exact sTxt_len (v1 s hm) (h s hm)) (fun i hi t ht => by
   rw [List.length_map] at hi
   have vi := v1 _ (List.getElem_mem hi)
   have fi := h _ (List.getElem_mem hi)
   obtain ⟨h1, h2⟩ := sTxt_part vi fi
   have h3 := aTxt_len vi
   obtain ⟨_, _, _, _, he, hu⟩ := step_part vi
   simp only [f10_0]
   have e : (if (i : Int) > 0 then (cat t [32]).bind fun s_17 => some s_17 else some t : Option (List UInt8)) = some (if i = 0 then t else t ++ [32]) := by
    by_cases c : i = 0
    ·rw [if_neg (by omega), if_pos c]
    ·rw [if_pos (by omega), if_neg c, cat_ok (by simp; omega)]; rfl
   have e2 : (if i = 0 then t else t ++ [32]).length <= t.length + 1 := by split <;> simp
   rw [List.getElem_map]
   unfold sTxt
   rw [if_pos (by omega), hs, hv, bS, bS, if_pos rfl, e, bS]
   generalize (if i = 0 then t else t ++ [32]) = u at e2
   rw [cat_ok (by rw [List.length_singleton]; omega), bS, ix_nat hi, bS, specTs fi.2.1 he, bS, cat_ok (by simp only [List.length_append, List.length_cons, List.length_nil]; omega), bS, cat_ok (by simp only [List.length_append, List.length_cons, List.length_nil]; omega), bS,
    specTs fi.2.2 hu, bS, cat_ok (by simp only [List.length_append, List.length_cons, List.length_nil]; omega), bS, cat_ok (by simp only [List.length_append, List.length_cons, List.length_nil]; omega), bS, specA vi hl, bS, cat_ok (by simp only [List.length_append, List.length_cons, List.length_nil]; omega), bS, w64_succ (by omega)]
   simp only [List.append_assoc]) (fun t => by
   simp only [f10_0]
   rw [List.length_map, if_neg (by omega), bS, if_neg (by simp)]), bS, if_pos rfl]
theorem impFRw {f : List RewritingStep} (hl : Big l.length) (hf : f.length <= 1048576) (h : ∀ x ∈ f, FitsS x) : f9 l f = some (rwTxt l f) := by
 unfold f9 rwTxt
 rw [impRw hl (show Big f.length by omega) h, bS]
 cases hv : vRw l f
 ·simp
 ·obtain ⟨v1, v2⟩ := vRw_of hv
  have hK : ∀ x ∈ f.map (sTxt l), x.length <= 44040300 := fun x hx => by
   obtain ⟨s, hm, rfl⟩ := List.mem_map.1 hx
   exact sTxt_len (v1 s hm) (h s hm)
  have it := iter_steps (f := f9_0 l f) (fun i => ((f.take i).map (sTxt l), (i : Int))) f.length (f.map (sTxt l)) (fun i hi => by
   have vi := v1 _ (List.getElem_mem hi)
   have fi := h _ (List.getElem_mem hi)
   obtain ⟨h1, h2⟩ := sTxt_part vi fi
   have h3 := aTxt_len vi
   obtain ⟨_, _, _, _, he, hu⟩ := step_part vi
   have l1 := fi.2.1
   have l2 := fi.2.2
   simp only [f9_0]
   rw [if_pos (by omega), ix_nat hi, bS, impTs fi.2.1 he, bS, joinI (by rw [List.length_map]; omega) (by rw [join_flat]; omega), join_flat, bS, cat_ok (by simp only [List.length_append, List.length_cons, List.length_nil]; omega), bS, cat_ok (by simp only [List.length_append, List.length_cons, List.length_nil]; omega), bS,
    impTs fi.2.2 hu, bS, joinI (by rw [List.length_map]; omega) (by rw [join_flat]; omega), join_flat, bS, cat_ok (by simp only [List.length_append, List.length_cons, List.length_nil]; omega), bS, cat_ok (by simp only [List.length_append, List.length_cons, List.length_nil]; omega), bS,
    impA vi hl, bS, cat_ok (by simp only [List.length_append, List.length_cons, List.length_nil]; omega), bS, app_fits (by simp; omega), bS, w64_succ (by omega), take_succ' hi, List.map_append, List.map_singleton]
   rfl) (by
   simp only [f9_0]
   rw [if_neg (by omega), List.take_of_length_le (Nat.le_refl _)])
  simp only [List.take_zero, List.map_nil, Int.natCast_zero, Int.ofNat_zero] at it
  have hj := join_len (sep := [32]) hK
  rw [List.length_map, List.length_singleton] at hj
  rw [if_neg (by simp), it, bS, joinI (by rw [List.length_map]; omega) (by omega), bS, if_pos rfl]
end
section
theorem drawRwq {code : List Int} (h : code.length <= 1048576) : Ens (f5 code) fun r => SigsG r.1 /\ QB r.2 := by
 unfold f5 f15
 refine Ens.bind (Q := fun r : List Relation × Query => SigsG r.1 /\ QB r.2) ?_ fun o ho => Ens.of ho
 exact Ens.bind (bothOk h) fun o ho => Ens.of ⟨ho.1, ho.2.1⟩
theorem shapeLoop {l : List Relation} {q : Query} {f : List RewritingStep} {b : Bool} (hl : Big l.length) (hq : FitsQ q) (hv : vQuery l q = true) (hf : rwg l q.Atoms.length q = some f) : Ens (iter (f3_0 (l, q) (f, b)) (q.Free, 0)) fun o => ∃ K, o = .inl K /\ (K.length : Int) = q.VariableCount := by
 have V := vq_of hl hq hv
 have hfn := (rwg_fits _ q f V.rq rfl hf).1
 have n3 := V.n3
 refine iter_up (f := f3_0 (l, q) (f, b)) f.length (fun i s => s.2 = (i : Int) /\ ∃ x, RemQ l x /\ x.Atoms.length = f.length - i /\ rwg l (f.length - i) x = some (f.drop i) /\ Kn x s.1 /\ Cov q x) _ (fun i s hi ⟨s1, x, hx, hn, hr, hK, hC⟩ => ?_) (fun s ⟨s1, x, hx, hn, hr, hK, hC⟩ => ?_) _ ⟨rfl, q, V.rq, by simp [hfn], by simpa [hfn] using hf, ⟨?_, fun v => rfl⟩, vq_cov hv⟩
 ·obtain ⟨K, y⟩ := s
  simp only at s1 hK
  subst s1
  obtain ⟨m, hm⟩ : ∃ m, f.length - i = m + 1 := ⟨f.length - i - 1, by omega⟩
  rw [hm] at hr hn
  rw [rwg] at hr
  cases hu : fstU l x with
  | none => rw [hu] at hr; cases hr
  | some k =>
   rw [hu] at hr
   dsimp only at hr
   have hk := (fstU_lt hu).1
   cases hg : rwg l m (rest x k) with
   | none => rw [hg] at hr; cases hr
   | some g =>
    rw [hg] at hr
    simp only [zJ] at hr
    rw [List.drop_eq_getElem_cons hi, List.cons.injEq] at hr
    have k4 := hK.len hx.free
    have e4 := nfl_len (X := exF l x k)
    have u4 := nfl_len (X := unF l x k)
    have ht := hx.terms _ (List.getElem_mem hk)
    have kl := kvars_len (l := l) (a := atomAt x k)
    have fi : f[i] = stp l x k := hr.1.symm
    have cap : ∀ (A B : List Int) (v : Int), (A ++ B).contains v = (A.contains v || B.contains v) := fun A B v => by
     rw [Bool.eq_iff_iff, Bool.or_eq_true, List.contains_iff_mem, List.contains_iff_mem, List.contains_iff_mem, List.mem_append]
    have sE : (stp l x k).Existential = nfl (exF l x k) := rfl
    have sU : (stp l x k).Universal = nfl (unF l x k) := rfl
    have sA : (stp l x k).Atom = atomAt x k := rfl
    have l1 : iter (f3_1 (f, b) K (i : Int)) 0 = some (.inl ()) := by
     rw [iter_ex (nfl (exF l x k)) (fun v => K.contains v) false (fun j hj => by
      simp only [f3_1]
      rw [ix_nat hi, bS, fi, sE, if_pos (by omega), ix_nat hj, bS, hasK (by omega), bS, w64_succ (by omega)]
      split <;> rfl) (by
      simp only [f3_1]
      rw [ix_nat hi, bS, fi, sE, if_neg (by omega)])]
     have : ((nfl (exF l x k)).any fun v => K.contains v) = false := by
      rw [List.any_eq_false]
      intro v hv
      have := (nfl_mem.1 hv).1
      unfold exF at this
      rw [<- hK.eq] at this
      simp only [Bool.and_eq_true, Bool.not_eq_true'] at this
      rw [this.2]; simp
     rw [this]; rfl
    have l2 : iter (f3_2 (K ++ nfl (exF l x k)) (kvars l (atomAt x k))) 0 = some (.inl ()) := by
     rw [iter_ex (kvars l (atomAt x k)) (fun v => !(K ++ nfl (exF l x k)).contains v) false (fun j hj => by
      simp only [f3_2]
      rw [if_pos (by omega), ix_nat hj, bS, hasK (by simp; omega), bS, w64_succ (by omega)]
      cases (K ++ nfl (exF l x k)).contains (kvars l (atomAt x k))[j] <;> simp) (by
      simp only [f3_2]
      rw [if_neg (by omega)])]
     have : ((kvars l (atomAt x k)).any fun v => !(K ++ nfl (exF l x k)).contains v) = false := by
      rw [List.any_eq_false]
      intro v hv
      have hc : (kvars l (atomAt x k)).contains v = true := by rw [List.contains_iff_mem]; exact hv
      rw [cap, hK.eq, nfl_has exF_in]
      unfold exF
      rw [hc]
      cases x.Free.contains v <;> simp
     rw [this]; rfl
    have l3 : iter (f3_3 (f, b) (i : Int) (K ++ nfl (exF l x k))) 0 = some (.inl ()) := by
     rw [iter_ex (nfl (unF l x k)) (fun v => (K ++ nfl (exF l x k)).contains v) false (fun j hj => by
      simp only [f3_3]
      rw [ix_nat hi, bS, fi, sU, if_pos (by omega), ix_nat hj, bS, hasK (by simp; omega), bS, w64_succ (by omega)]
      split <;> rfl) (by
      simp only [f3_3]
      rw [ix_nat hi, bS, fi, sU, if_neg (by omega)])]
     have : ((nfl (unF l x k)).any fun v => (K ++ nfl (exF l x k)).contains v) = false := by
      rw [List.any_eq_false]
      intro v hv
      have := (nfl_mem.1 hv).1
      rw [cap, hK.eq, nfl_has exF_in]
      unfold unF at this
      unfold exF
      simp only [Bool.and_eq_true, Bool.not_eq_true'] at this
      rw [this.2, this.1.2]; simp
     rw [this]; rfl
    simp only [f3_0]
    rw [if_pos (by omega), l1, bS]
    dsimp only
    rw [ix_nat hi, bS, fi, sE, sA, app_fits (by first | omega | (simp only [List.length_append]; omega)), bS, specKV hx.big (by rw [atom_get hk]; omega), bS, l2, bS]
    dsimp only
    rw [l3, bS]
    dsimp only
    rw [sU, app_fits (by first | omega | (simp only [List.length_append]; omega)), bS, w64_succ (by omega)]
    refine ⟨_, rfl, rfl, rest x k, hx.rest k, ?_, ?_, hK.step hx hk, hC.step hx hk⟩
    ·unfold rest; dsimp only; rw [List.length_eraseIdx_of_lt hk]; omega
    ·rw [show f.length - (i + 1) = m by omega, hg, hr.2]
 ·obtain ⟨K, y⟩ := s
  simp only at s1 hK
  subst s1
  simp only [f3_0]
  rw [if_neg (by omega)]
  exact ⟨_, rfl, K, rfl, hK.full hx.free hC (vq_vars hv) (by omega)⟩
 ·have h0 := hv
  unfold vQuery at h0
  simp only [Bool.and_eq_true] at h0
  have hn := vq_vars hv
  obtain ⟨n, hn'⟩ : ∃ n : Nat, q.VariableCount = n := ⟨q.VariableCount.toNat, by omega⟩
  have := h0.2.2.2.2.2
  rw [hn'] at this
  exact up_nodup (asc_of this).1
theorem lawFnRewritingShape (code : List Int) (hcode : ok code) : f3 code = some true := by
 unfold f3 f4
 rw [bS]
 by_cases hb : (code.length : Int) > 1048576
 ·rw [if_pos (by simpa using hb)]
 rw [if_neg (by simpa using hb)]
 obtain ⟨⟨l, q⟩, e, hl, hp⟩ := drawRwq (code := code) (by omega)
 simp only at hl hp
 have h4 := hl.small.1
 have fq := hp.fits
 have hbig : Big l.length := by omega
 rw [e, bS]
 dsimp only
 obtain ⟨w1, w2⟩ := rwo_fits hbig fq
 have w3 : ∀ x ∈ (rwo l q).1, FitsS x := fun x hx => by have := w2 x hx; exact ⟨by omega, by omega, by omega⟩
 rw [rwImp hbig fq, bS, rwSpec hbig fq, bS, clsSpec hbig fq, impFRw hbig (by omega) w3, specFRw hbig (by omega) w3]
 by_cases hc : cls l q = 1
 ·obtain ⟨f, ef, hf, hn⟩ := rwo_first hbig fq hc
  have hv : vQuery l q = true := by
   have h0 := hc
   unfold cls at h0
   split at h0
   ·assumption
   ·simp at h0
  have V := vq_of hbig fq hv
  have f4 := V.free4
  have n3 := V.n3
  have hr := rwg_valid hbig fq hv hf
  rw [ef] at w1 w3 ⊢
  simp only at w1 w3
  obtain ⟨_, ek, K, rfl, hK⟩ := shapeLoop (b := true) hbig fq hv hf
  simp only [bne_self_eq_false, Bool.false_eq_true, if_false, bS, hc, decide_true, not_true_eq_false, ne_eq, decide_false]
  rw [app_fits (by simp; omega), bS, List.nil_append, ek, bS]
  dsimp only
  rw [if_pos (by omega), if_pos hK, impRw hbig (by omega) w3, specRw hbig (by omega) w3, hr]
  rfl
 ·have e0 : rwo l q = ([], false) := by unfold rwo; rw [if_neg hc]
  rw [e0]
  simp [hc]
end
end Go.Proofs.YtjfeimhiiomgoaaGreatDoorH
