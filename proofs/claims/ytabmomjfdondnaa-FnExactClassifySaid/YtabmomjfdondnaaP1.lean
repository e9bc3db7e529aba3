import Derived.Test.YtabmomjfdondnaaTd1
import Derived.Test.YtabmomjfdondnaaX3
import Derived.Test.YtabmomjfdondnaaRd1
set_option linter.unusedVariables false
set_option linter.unusedSimpArgs false
namespace Go.Proofs.YtabmomjfdondnaaH
open Go
theorem toI {a : List Int} (h : a.length ≤ 1048576) : f40 a = some a := by
 unfold f40
 rw [mkl_ok (by omega) (by omega) (by omega)]
 have : iter (f40_0 a) (List.replicate (a.length : Int).toNat 0, 0) = some a := iter_copy (by simp) (fun i hi out ho => by
  simp only [f40_0]
  rw [if_pos (by omega), ix_nat hi, ix_nat ho, Int.toNat_natCast, w64_succ (by omega)]; rfl) (fun out => by
  simp only [f40_0]
  rw [if_neg (by omega)])
 simp only [Option.bind_some, this]
theorem eqI {a : List Int} (h : a.length ≤ 9223372036854775807) : f42 a a = some true := by
 unfold f42
 rw [if_neg (by simp)]
 rw [iter_ex (List.range a.length) (fun _ => false) false (fun i hi => by
  simp only [f42_0]
  simp only [List.length_range] at hi
  rw [if_pos (by omega), ix_nat hi, w64_succ (by omega)]
  simp) (by
  simp only [f42_0]
  rw [if_neg (by simp)])]
 simp
theorem szI {a : List Int} {n : Int} (h : a.length ≤ 9223372036854775807) (h0 : 0 ≤ n) (h1 : n ≤ 1048576) : f64 a n = some (lft n a.length) := by
 unfold f64
 rw [w64_of (by omega)]
 unfold lft
 by_cases hc : n < (a.length : Int)
 ·rw [if_pos (by omega), if_neg (by omega)]
 ·rw [if_neg (by omega), if_pos (by omega)]
end Go.Proofs.YtabmomjfdondnaaH
namespace Go.Proofs.YtabmomjfdondnaaH
open Go
abbrev Big (n : Nat) : Prop := n ≤ 9223372036854775806
theorem hasI {l : List Int} {x : Int} (h : Big l.length) : f98 l x = some (l.contains x) := by
 unfold f98
 rw [iter_ex l (fun a => x == a) true (fun i hi => by
  simp only [f98_0]
  rw [if_pos (by omega), ix_nat hi, w64_succ (by omega)]
  simp only [Option.bind_some]
  by_cases hc : l[i] = x
  ·rw [if_pos hc, if_pos (by simp [hc])]
  ·rw [if_neg hc, if_neg (by simp; exact fun h => hc h.symm)]) (by
  simp only [f98_0]
  rw [if_neg (by omega)])]
 rw [show l.contains x = l.any (fun a => x == a) from List.any_beq.symm]
 by_cases hc : l.any (fun a => x == a) = true
 ·rw [if_pos hc, hc]; rfl
 ·rw [if_neg hc]; simp only [Bool.not_eq_true] at hc; rw [hc]; rfl
theorem indexI {s : List Int} {f : Int → Option Bool} {p : Int → Bool} (h : Big s.length) (hf : ∀ a ∈ s, f a = some (p a)) : f74 s f = some (s.any p) := by
 unfold f74 f103
 obtain ⟨o, h1, h2⟩ := iter_idx (f := f103_0 s f) s p (fun i hi => by
  simp only [f103_0]
  rw [if_pos (by omega), ix_nat hi, w64_succ (by omega)]
  simp only [Option.bind_some, hf _ (List.getElem_mem hi)]
  split <;> rfl) (by
  simp only [f103_0]
  rw [if_neg (by omega)])
 rw [h1]
 cases o with
 | inl _ => dsimp only at h2; rw [h2]; rfl
 | inr x => dsimp only at h2; rw [h2.2]; simp; omega
theorem containsI {s : List Int} {v : Int} (h : Big s.length) : f105 s v = some (s.contains v) := by
 unfold f105 f158
 obtain ⟨o, h1, h2⟩ := iter_idx (f := f158_0 s v) s (fun a => v == a) (fun i hi => by
  simp only [f158_0]
  rw [if_pos (by omega), ix_nat hi, w64_succ (by omega)]
  simp only [Option.bind_some, beq_iff_eq]
  split <;> rfl) (by
  simp only [f158_0]
  rw [if_neg (by omega)])
 rw [h1]
 rw [show s.contains v = s.any (fun a => v == a) from List.any_beq.symm]
 cases o with
 | inl _ => dsimp only at h2; rw [h2]; rfl
 | inr x => dsimp only at h2; rw [h2.2]; simp; omega
theorem subset {a b : List Int} (ha : Big a.length) (hb : Big b.length) : f118 a b = some (a.all b.contains) := by
 unfold f118
 rw [indexI (p := fun x => !b.contains x) ha (fun x _ => by
  unfold f164
  rw [containsI hb]
  simp)]
 rw [any_not]
 simp
end Go.Proofs.YtabmomjfdondnaaH
namespace Go.Proofs.YtabmomjfdondnaaH
open Go
def smaller (l : List (List Int)) (k i : Nat) : Bool := decide ((l.getD k []).length < (l.getD i []).length) || (decide (k < i) && decide ((l.getD k []).length = (l.getD i []).length))
def least (l : List (List Int)) (i : Nat) : Bool := (List.range l.length).all fun k => !(smaller l k i && (l.getD k []).all (l.getD i []).contains)
end Go.Proofs.YtabmomjfdondnaaH
namespace Go.Proofs.YtabmomjfdondnaaH
open Go
theorem toRs {a : List Relation} (h : a.length ≤ 1048576) : f50 a = some a := by
 unfold f50
 rw [mkl_ok (by omega) (by omega) (by omega)]
 have : iter (f50_0 a) (List.replicate (a.length : Int).toNat ({ Name := [], Arity := 0, KeyLength := 0 } : Relation), 0) = some a := iter_copy (by simp) (fun i hi out ho => by
  simp only [f50_0]
  rw [if_pos (by omega), ix_nat hi, ix_nat ho, Int.toNat_natCast, w64_succ (by omega)]; rfl) (fun out => by
  simp only [f50_0]
  rw [if_neg (by omega)])
 simp only [Option.bind_some, this]
theorem eqRl {a : Relation} : f121 a a = some true := by unfold f121; simp
theorem eqRs {a : List Relation} (h : a.length ≤ 9223372036854775807) : f53 a a = some true := by
 unfold f53
 rw [if_neg (by simp)]
 rw [iter_ex (List.range a.length) (fun _ => false) false (fun i hi => by
  simp only [f53_0]
  simp only [List.length_range] at hi
  rw [if_pos (by omega), ix_nat hi, w64_succ (by omega)]
  simp only [Option.bind_some, eqRl]
  simp) (by
  simp only [f53_0]
  rw [if_neg (by simp)])]
 simp
theorem szRl {a : Relation} {n : Int} (h : ok a) (h0 : 0 ≤ n) (h1 : n ≤ 1048576) : f109 a n = some (lft n a.Name.length) := by
 have h := h.1.1
 unfold f109
 rw [w64_of (by omega)]
 unfold lft
 by_cases hc : n < (a.Name.length : Int)
 ·rw [if_pos (by omega), if_neg (by omega)]
 ·rw [if_neg (by omega), if_pos (by omega)]
theorem lft_sub {n : Int} {a b : Nat} (h : ¬ n < a) : lft (n - a) b = lft n (a + b) := by
 unfold lft
 by_cases hc2 : ((b : Nat) : Int) ≤ n - a
 ·rw [if_pos hc2, if_pos (by omega)]; omega
 ·rw [if_neg hc2, if_neg (by omega)]
theorem szRs {a : List Relation} {n : Int} (h : ok a) (h0 : 0 ≤ n) (h1 : n ≤ 1048576) : f47 a n = some (lft n (a.length + (a.map (·.Name.length)).sum)) := by
 obtain ⟨h, h'⟩ := h
 unfold f47
 rw [w64_of (by omega)]
 by_cases hc : n < (a.length : Int)
 ·rw [if_pos (by omega)]
  unfold lft
  rw [if_neg (by omega)]
 ·rw [if_neg (by omega)]
  rw [iter_sz (fun x : Relation => x.Name.length) a _ (by omega) (fun i hi b hb hb' => by
   simp only [f47_0]
   rw [if_pos (by omega), ix_nat hi, w64_succ (by omega)]
   simp only [Option.bind_some, szRl (h' _ (List.getElem_mem hi)) hb (by omega)]
   split <;> rfl) (fun b => by
   simp only [f47_0]
   rw [if_neg (by omega)]), lft_sub hc]
  split
  ·rename_i hlt
   rw [lft_bad hlt]; rfl
  ·rfl
def relSize (l : List Relation) : Nat := l.length + (l.map (·.Name.length)).sum
end Go.Proofs.YtabmomjfdondnaaH
namespace Go.Proofs.YtabmomjfdondnaaH
open Go
variable {α ρ : Type}
def good (q : α → Bool) (r : α → α → Bool) (l : List α) : Bool := decide (∀ i (h : i < l.length), (q l[i] && (decide (i = 0) || r (l[i - 1]'(by omega)) l[i])) = true)
theorem good_of {q : α → Bool} {r : α → α → Bool} {l : List α} (h : good q r l = true) {i : Nat} (hi : i < l.length) : q l[i] = true ∧ (0 < i → r (l[i - 1]'(by omega)) l[i] = true) := by
 have := of_decide_eq_true h i hi
 simp only [Bool.and_eq_true, Bool.or_eq_true, decide_eq_true_eq] at this
 exact ⟨this.1, fun hp => this.2.resolve_left (by omega)⟩
theorem iter_adj {f : Int → Option (Int ⊕ (Unit ⊕ ρ))} (q : α → Bool) (r : α → α → Bool) (L : List α) (c : ρ)
  (hs : ∀ (i : Nat) (h : i < L.length), f (i : Int) = some (if (q L[i] && (decide (i = 0) || r (L[i - 1]'(by omega)) L[i])) = true then .inl ((i + 1 : Nat) : Int) else .inr (.inr c)))
  (he : f (L.length : Int) = some (.inr (.inl ()))) : iter f 0 = some (if good q r L = true then .inl () else .inr c) := by
 obtain ⟨o, h1, h2⟩ := iter_up (f := f) L.length (fun i s => s = (i : Int) ∧ ∀ j (h : j < L.length), j < i → (q L[j] && (decide (j = 0) || r (L[j - 1]'(by omega)) L[j])) = true)
  (fun o => o = if good q r L = true then .inl () else .inr c) (fun i s hi ⟨h, hp⟩ => by
   subst h
   refine ⟨_, hs i hi, ?_⟩
   by_cases hc : (q L[i] && (decide (i = 0) || r (L[i - 1]'(by omega)) L[i])) = true
   ·rw [if_pos hc]
    refine ⟨rfl, fun j hj hlt => ?_⟩
    by_cases e : j = i
    ·subst e; exact hc
    ·exact hp j hj (by omega)
   ·rw [if_neg hc]
    dsimp only
    rw [if_neg]
    intro hg
    exact hc (of_decide_eq_true hg i hi)) (fun s ⟨h, hp⟩ => by
   subst h
   refine ⟨_, he, ?_⟩
   rw [if_pos]
   exact decide_eq_true fun i hi => hp i hi hi) 0 ⟨rfl, fun j _ h => by omega⟩
 rw [h1, h2]
def btw (x low high : Int) : Bool := decide (low ≤ x) && decide (x ≤ high)
theorem specIn {x a b : Int} : f71 x a b = some (btw x a b) := by
 unfold f71 btw
 by_cases h : a ≤ x
 ·rw [if_pos (show x ≥ a from h)]; simp [h]
 ·rw [if_neg (show ¬ x ≥ a from h)]; simp [h]
theorem impIn {x a b : Int} : f87 x a b = some (btw x a b) := by
 unfold f87 btw
 by_cases h : a ≤ x
 ·rw [if_pos h]; simp [h]
 ·rw [if_neg h]; simp [h]
def vRel (r : Relation) : Bool := decide (r.Name.length = 1) && (decide (97 ≤ (r.Name.getD 0 0).toNat) && (decide ((r.Name.getD 0 0).toNat ≤ 122) && (btw r.Arity 1 3 && btw r.KeyLength 0 r.Arity)))
theorem specRel {r : Relation} : f154 r = some (vRel r) := by
 unfold f154 vRel
 by_cases h1 : r.Name.length = 1
 ·rw [if_pos (by omega)]
  have e : ix r.Name 0 = some (r.Name.getD 0 0) := by rw [ix_of (by omega)]; simp [List.getElem?_eq_getElem (show 0 < r.Name.length by omega)]
  rw [e, Option.bind_some]
  generalize r.Name.getD 0 0 = c
  by_cases h2 : 97 ≤ c.toNat
  ·rw [if_pos (by omega)]
   by_cases h3 : c.toNat ≤ 122
   ·rw [if_pos (by omega), specIn, Option.bind_some]
    cases hb : btw r.Arity 1 3
    ·simp
    ·simp [specIn, h1, h2, h3]
   ·rw [if_neg (by omega)]; simp [h3]
  ·rw [if_neg (by omega)]; simp [h2]
 ·rw [if_neg (by omega)]; simp [h1]
theorem impRel {r : Relation} : f163 r = some (vRel r) := by
 unfold f163 vRel
 by_cases h1 : r.Name.length = 1
 ·rw [if_pos (by omega)]
  have e : ix r.Name 0 = some (r.Name.getD 0 0) := by rw [ix_of (by omega)]; simp [List.getElem?_eq_getElem (show 0 < r.Name.length by omega)]
  rw [e, Option.bind_some]
  generalize r.Name.getD 0 0 = c
  by_cases h2 : 97 ≤ c.toNat
  ·rw [if_pos (by omega)]
   by_cases h3 : c.toNat ≤ 122
   ·rw [if_pos (by omega), impIn, Option.bind_some]
    cases hb : btw r.Arity 1 3
    ·simp
    ·simp [impIn, h1, h2, h3]
   ·rw [if_neg (by omega)]; simp [h3]
  ·rw [if_neg (by omega)]; simp [h2]
 ·rw [if_neg (by omega)]; simp [h1]
def vRels (l : List Relation) : Bool := good vRel (fun a b => Op.bytesLess a.Name b.Name) l && decide (l.length ≤ 4)
theorem specRels {l : List Relation} (h : Big l.length) : f94 l = some (vRels l) := by
 unfold f94 vRels
 rw [iter_adj vRel (fun a b => Op.bytesLess a.Name b.Name) l false (fun i hi => by
  simp only [f94_0]
  rw [if_pos (by omega), ix_nat hi, w64_succ (by omega)]
  simp only [Option.bind_some, specRel]
  cases vRel l[i]
  ·simp
  ·by_cases h0 : i = 0
   ·subst h0; simp
   ·have e : ix l (w64 ((i : Int) - 1)) = some (l[i - 1]'(by omega)) := by rw [w64_of (by omega), show (i : Int) - 1 = ((i - 1 : Nat) : Int) by omega, ix_nat (by omega)]
    simp only [e]
    have : 0 < i := by omega
    cases hb : Op.bytesLess (l[i - 1]'(by omega)).Name l[i].Name <;> simp [h0, this, hb]) (by
  simp only [f94_0]
  rw [if_neg (by omega)])]
 cases good vRel (fun a b => Op.bytesLess a.Name b.Name) l
 ·simp
 ·simp; omega
theorem impRels {l : List Relation} (h : Big l.length) : f116 l = some (vRels l) := by
 unfold f116 vRels
 rw [iter_adj vRel (fun a b => Op.bytesLess a.Name b.Name) l false (fun i hi => by
  simp only [f116_0]
  rw [if_pos (by omega), ix_nat hi, w64_succ (by omega)]
  simp only [Option.bind_some, impRel]
  cases vRel l[i]
  ·simp
  ·by_cases h0 : i = 0
   ·subst h0; simp
   ·have e : ix l (w64 ((i : Int) - 1)) = some (l[i - 1]'(by omega)) := by rw [w64_of (by omega), show (i : Int) - 1 = ((i - 1 : Nat) : Int) by omega, ix_nat (by omega)]
    simp only [e]
    have : 0 < i := by omega
    cases hb : Op.bytesLess (l[i - 1]'(by omega)).Name l[i].Name <;> simp [h0, this, hb]) (by
  simp only [f116_0]
  rw [if_neg (by omega)])]
 cases good vRel (fun a b => Op.bytesLess a.Name b.Name) l
 ·simp
 ·simp; omega
def arity (l : List Relation) (r : Int) : Int := (l[r.toNat]?.map (·.Arity)).getD 0
def keyLen (l : List Relation) (r : Int) : Int := (l[r.toNat]?.map (·.KeyLength)).getD 0
theorem ix_rel {l : List Relation} {r : Int} (h : btw r 0 (l.length - 1) = true) : ∃ x, ix l r = some x ∧ x ∈ l ∧ x.Arity = arity l r ∧ x.KeyLength = keyLen l r := by
 unfold btw at h; simp only [Bool.and_eq_true, decide_eq_true_eq] at h
 have e : l[r.toNat]? = some (l[r.toNat]'(by omega)) := List.getElem?_eq_getElem _
 refine ⟨l[r.toNat]'(by omega), ?_, List.getElem_mem _, ?_, ?_⟩
 ·rw [ix_of h.1, e]
 ·unfold arity; rw [e]; rfl
 ·unfold keyLen; rw [e]; rfl
def asc (n : Int) (l : List Int) : Bool := good (fun v => btw v 0 (n - 1)) (fun a b => decide (a < b)) l
theorem impSet {l : List Int} {n : Nat} (hd : Big n) (h : Big l.length) : f101 l n = some (asc n l) := by
 unfold f101
 rw [iter_adj (fun v => btw v 0 ((n : Int) - 1)) (fun a b => decide (a < b)) l false (fun i hi => by
  simp only [f101_0]
  rw [if_pos (by omega), ix_nat hi, w64_succ (by omega), w64_of (n := (n : Int) - 1) (by omega)]
  simp only [Option.bind_some, impIn]
  cases btw l[i] 0 ((n : Int) - 1)
  ·simp
  ·by_cases h0 : i = 0
   ·subst h0; simp
   ·have e : ix l (w64 ((i : Int) - 1)) = some (l[i - 1]'(by omega)) := by rw [w64_of (by omega), show (i : Int) - 1 = ((i - 1 : Nat) : Int) by omega, ix_nat (by omega)]
    simp only [e]
    have : 0 < i := by omega
    by_cases hb : l[i - 1]'(by omega) < l[i]
    ·simp [h0, this, hb, Int.not_le.2 hb]
    ·simp [h0, this, hb, Int.not_lt.1 hb]) (by
  simp only [f101_0]
  rw [if_neg (by omega)])]
 unfold asc
 cases good (fun v => btw v 0 ((n : Int) - 1)) (fun a b => decide (a < b)) l <;> simp
end Go.Proofs.YtabmomjfdondnaaH
namespace Go.Proofs.YtabmomjfdondnaaH
open Go
theorem flat_take {L : List (List Int)} {i : Nat} : (L.take i).flatten.length ≤ L.flatten.length := by
 conv => rhs; rw [← List.take_append_drop i L, List.flatten_append, List.length_append]
 omega
theorem concatN {L : List (List Int)} (hL : L.length ≤ 1048576) (h : L.flatten.length ≤ 1048576) : f184 L = some L.flatten := by
 unfold f184
 have q : ∀ i (hi : i < L.length), (L.take (i + 1)).flatten = (L.take i).flatten ++ L[i] := fun i hi => by rw [take_succ' hi, List.flatten_append]; simp
 have h1 := iter_steps (f := f184_0 L) (fun i => (((L.take i).flatten.length : Int), (i : Int))) L.length (L.flatten.length : Int) (fun i hi => by
  have e := congrArg List.length (q i hi)
  rw [List.length_append] at e
  have b := flat_take (L := L) (i := i + 1)
  simp only [f184_0]
  rw [if_pos (by omega), ix_nat hi, Option.bind_some, w64_succ (by omega), w64_of (by omega), if_neg (by omega), Option.bind_some, e]
  rw [Int.natCast_add (List.take i L).flatten.length]) (by
  simp only [f184_0]
  rw [if_neg (by omega), List.take_of_length_le (Nat.le_refl _)])
 simp only [List.take_zero, List.flatten_nil, List.length_nil, Int.natCast_zero, Int.ofNat_zero] at h1
 erw [h1]
 rw [Option.bind_some]
 unfold f198 growN
 rw [if_pos ⟨by omega, by unfold room; omega⟩, Option.bind_some]
 have h2 := iter_steps (f := f184_1 L) (fun i => (L.flatten.length - (L.take i).flatten.length, (L.take i).flatten, (i : Int))) L.length (0, L.flatten) (fun i hi => by
  have e := congrArg List.length (q i hi)
  rw [List.length_append] at e
  have b := flat_take (L := L) (i := i + 1)
  simp only [f184_1]
  rw [if_pos (by omega), ix_nat hi, Option.bind_some, w64_succ (by omega)]
  unfold apps
  rw [if_pos ⟨by omega, by unfold room; omega⟩, Option.bind_some, q i hi]
  simp only [List.length_append]
  rw [Nat.sub_sub]) (by
  simp only [f184_1]
  rw [if_neg (by omega), List.take_of_length_le (Nat.le_refl _), Nat.sub_self])
 simp only [List.take_zero, List.flatten_nil, List.length_nil, Nat.sub_zero, Int.natCast_zero, Int.ofNat_zero] at h2
 rw [Int.toNat_natCast]
 erw [h2]
 simp [nsk]
set_option maxRecDepth 10000 in
theorem bitsLen {n : Int} (h0 : 0 ≤ n) (h : n < 256) : Ens (f200 (IntKind.u64.wrap n)) fun _ => True := by
 have e : IntKind.u64.wrap n = n := by
  have : IntKind.u64.wrap n = n % 18446744073709551616 := by simp [IntKind.wrap, IntKind.bits, IntKind.signed]
  omega
 have e8 : w8 n = n := by
  have : w8 n = n % 256 := by simp [w8, IntKind.wrap, IntKind.bits, IntKind.signed]
  omega
 rw [e]
 unfold f200 f214
 rw [if_neg (by omega), Option.bind_some]
 dsimp only
 rw [if_neg (by omega), Option.bind_some]
 dsimp only
 rw [if_neg (by omega), Option.bind_some]
 dsimp only
 rw [e8, ix_of h0, List.getElem?_eq_getElem (by show n.toNat < 256; omega)]
 exact ⟨_, rfl, trivial⟩
def insR : List Int → Int → List Int
 | [], v => [v]
 | a :: r, v => if v < a then a :: insR r v else v :: a :: r
theorem insR_perm : ∀ {r : List Int} {v : Int}, (insR r v).Perm (v :: r)
 | [], v => by simp [insR]
 | a :: r, v => by
  rw [insR]
  split
  ·exact ((insR_perm (r := r) (v := v)).cons a).trans (List.Perm.swap v a r)
  ·exact List.Perm.refl _
theorem insR_down : ∀ {r : List Int} {v : Int}, r.Pairwise (fun a b => b ≤ a) → (insR r v).Pairwise (fun a b => b ≤ a)
 | [], v, h => by simp [insR]
 | a :: r, v, h => by
  rw [insR]
  rw [List.pairwise_cons] at h
  split
  ·refine List.pairwise_cons.2 ⟨fun b hb => ?_, insR_down h.2⟩
   rcases List.mem_cons.1 (insR_perm.mem_iff.1 hb) with rfl | hb
   ·omega
   ·exact h.1 b hb
  ·refine List.pairwise_cons.2 ⟨fun b hb => ?_, List.pairwise_cons.2 h⟩
   rcases List.mem_cons.1 hb with rfl | hb
   ·omega
   ·have := h.1 b hb; omega
theorem cmpLess {x y : Int} : f210 x y = some (decide (x < y)) := by
 unfold f210 f203; simp
theorem insLoop : ∀ (r : List Int) (v : Int) (T : List Int), r.length + T.length ≤ 1048576 → iter (f204_1 0) (r.reverse ++ v :: T, (r.length : Int)) = some ((insR r v).reverse ++ T)
 | [], v, T, hl => by
  rw [iter_eq]
  simp [f204_1, insR]
 | a :: r, v, T, hl => by
  simp only [List.length_cons] at hl
  rw [iter_eq]
  simp only [f204_1]
  have e1 : ((a :: r).reverse ++ v :: T) = r.reverse ++ a :: v :: T := by simp
  have e2 : w64 (((a :: r).length : Int) - 1) = (r.length : Int) := by rw [w64_of (by simp; omega)]; simp
  have e3 : ((a :: r).length : Int) = ((r.length + 1 : Nat) : Int) := rfl
  rw [e1, e2, e3, if_pos (by omega)]
  have i1 : ix (r.reverse ++ a :: v :: T) ((r.length + 1 : Nat) : Int) = some v := by
   rw [ix_cast, List.getElem?_append_right (by simp)]; simp
  have i2 : ix (r.reverse ++ a :: v :: T) ((r.length : Nat) : Int) = some a := by
   rw [ix_cast, List.getElem?_append_right (by simp)]; simp
  have s1 : (r.reverse ++ a :: v :: T).set (r.length + 1) a = r.reverse ++ a :: a :: T := by
   rw [List.set_append_right _ _ (by simp)]; simp
  have i3 : ix (r.reverse ++ a :: a :: T) ((r.length : Nat) : Int) = some a := by
   rw [ix_cast, List.getElem?_append_right (by simp)]; simp
  have s2 : (r.reverse ++ a :: a :: T).set r.length v = r.reverse ++ v :: a :: T := by
   rw [List.set_append_right _ _ (by simp)]; simp
  rw [i1, Option.bind_some, i2, Option.bind_some, cmpLess]
  simp only [Option.bind_some]
  rw [insR]
  by_cases c : v < a
  ·simp only [c, decide_true, if_true, Int.toNat_natCast, Option.bind_some]
   rw [s1, i3]
   simp only [Option.bind_some, s2]
   rw [insLoop r v (a :: T) (by simp; omega)]
   simp
  ·simp [c]
theorem insSort {x : List Int} (h : x.length ≤ 1048575) : Ens (f204 x 0 (x.length : Int)) fun r => r.Pairwise (· ≤ ·) ∧ r.Perm x := by
 unfold f204
 refine Ens.bind (Q := fun r => r.Pairwise (· ≤ ·) ∧ r.Perm x) ?_ fun a ha => Ens.of ha
 rw [w64_of (by omega)]
 cases x with
 | nil =>
  refine ⟨[], ?_, by simp, by simp⟩
  rw [iter_eq]; simp [f204_0]
 | cons y x =>
  simp only [List.length_cons] at h
  refine iter_up (f := f204_0 0 ((y :: x).length : Int)) x.length (fun k s => s.2 = ((k + 1 : Nat) : Int) ∧ ∃ r, s.1 = r.reverse ++ x.drop k ∧ r.length = k + 1 ∧ r.Pairwise (fun a b => b ≤ a) ∧ r.Perm (y :: x.take k)) _ (fun k s hk hI => ?_) (fun s hI => ?_) _ ⟨rfl, [y], by simp, by simp, by simp, by simp⟩
  ·obtain ⟨d, j⟩ := s
   obtain ⟨e1, r, e2, e3, e4, e5⟩ := hI
   dsimp only at e1 e2
   subst e1; subst e2
   simp only [f204_0]
   have e : r.reverse ++ x.drop k = r.reverse ++ x[k] :: x.drop (k + 1) := by rw [List.drop_eq_getElem_cons hk]
   rw [if_pos (by simp only [List.length_cons]; omega), e, ← e3, insLoop r x[k] _ (by simp; omega), Option.bind_some, w64_succ (by omega)]
   refine ⟨_, rfl, by simp only [e3], insR r x[k], rfl, by rw [insR_perm.length_eq]; simp [e3], insR_down e4, ?_⟩
   rw [e3, take_succ' hk]
   refine insR_perm.trans ((e5.cons _).trans ?_)
   have : (x[k] :: (y :: x.take k)).Perm ((y :: x.take k) ++ [x[k]]) := (List.perm_append_singleton _ _).symm
   simpa using this
  ·obtain ⟨d, j⟩ := s
   obtain ⟨e1, r, e2, e3, e4, e5⟩ := hI
   dsimp only at e1 e2
   subst e1; subst e2
   simp only [f204_0]
   rw [if_neg (by simp only [List.length_cons]; omega)]
   refine ⟨_, rfl, ?_, ?_⟩
   ·rw [List.drop_of_length_le (Nat.le_refl _), List.append_nil, List.pairwise_reverse]; exact e4
   ·rw [List.drop_of_length_le (Nat.le_refl _), List.append_nil]
    rw [List.take_of_length_le (Nat.le_refl _)] at e5
    exact (List.reverse_perm r).trans e5
theorem sort12 {x : List Int} (h : x.length ≤ 12) : Ens (f185 x) fun r => r.Pairwise (· ≤ ·) ∧ r.Perm x := by
 unfold f185
 obtain ⟨k, hk, _⟩ := bitsLen (n := (x.length : Int)) (by omega) (by omega)
 rw [hk, Option.bind_some]
 refine Ens.bind (Q := fun r => r.Pairwise (· ≤ ·) ∧ r.Perm x) ?_ fun a ha => Ens.of ha
 rw [show (64 : Nat) = 63 + 1 from rfl, f199]
 refine Ens.bind (Q := fun r => r.Pairwise (· ≤ ·) ∧ r.Perm x) ?_ fun a ha => Ens.of ha
 rw [iter_eq]
 simp only [f199_0]
 obtain ⟨r, hr, hq⟩ := insSort (x := x) (by omega)
 rw [w64_of (by omega), if_pos (by omega), hr]
 exact ⟨r, rfl, hq⟩
theorem compact_up : ∀ {l : List Int}, l.Pairwise (· ≤ ·) → (compactL l).Pairwise (· < ·) ∧ ∀ y, y ∈ compactL l ↔ y ∈ l
 | [], h => by simp [compactL]
 | [a], h => by simp [compactL]
 | a :: b :: r, h => by
  rw [List.pairwise_cons] at h
  obtain ⟨i1, i2⟩ := compact_up h.2
  rw [compactL]
  split
  ·rename_i e
   subst e
   exact ⟨i1, fun y => by rw [i2]; simp⟩
  ·rename_i e
   refine ⟨List.pairwise_cons.2 ⟨fun y hy => ?_, i1⟩, fun y => by simp [i2]⟩
   rw [i2] at hy
   have h1 := h.1 b (by simp)
   rcases List.mem_cons.1 hy with rfl | hy
   ·omega
   ·have := (List.pairwise_cons.1 h.2).1 y hy; omega
theorem union12 {a b : List Int} (h : a.length + b.length ≤ 12) : Ens (f165 a b) fun r => r.Pairwise (· < ·) ∧ (∀ y, y ∈ r ↔ y ∈ a ∨ y ∈ b) ∧ r.length ≤ 12 := by
 unfold f165
 have e : [a, b].flatten = a ++ b := by simp
 rw [concatN (by simp) (by rw [e]; simp; omega), e, Option.bind_some]
 refine Ens.bind (sort12 (by simp; omega)) fun r hr => ?_
 have hl := hr.2.length_eq
 simp only [List.length_append] at hl
 unfold f186 compactN
 rw [if_pos (by omega)]
 obtain ⟨c1, c2⟩ := compact_up hr.1
 exact Ens.of ⟨c1, fun y => by rw [c2, hr.2.mem_iff, List.mem_append], by have := compactL_len r; omega⟩
theorem up_ext : ∀ {a b : List Int}, a.Pairwise (· < ·) → b.Pairwise (· < ·) → (∀ y, y ∈ a ↔ y ∈ b) → a = b
 | [], [], _, _, _ => rfl
 | [], y :: b, _, _, h => by have := (h y).2 (by simp); cases this
 | x :: a, [], _, _, h => by have := (h x).1 (by simp); cases this
 | x :: a, y :: b, ha, hb, h => by
  rw [List.pairwise_cons] at ha hb
  have e : x = y := by
   have h1 := (h x).1 (by simp)
   have h2 := (h y).2 (by simp)
   rcases List.mem_cons.1 h1 with e | h1
   ·exact e
   ·rcases List.mem_cons.1 h2 with e | h2
    ·exact e.symm
    ·have := ha.1 y h2; have := hb.1 x h1; omega
  subst e
  congr 1
  refine up_ext ha.2 hb.2 fun y => ?_
  have := h y
  constructor
  ·intro hy
   have q := ha.1 y hy
   rcases List.mem_cons.1 (this.1 (List.mem_cons.2 (.inr hy))) with e | e
   ·omega
   ·exact e
  ·intro hy
   have q := hb.1 y hy
   rcases List.mem_cons.1 (this.2 (List.mem_cons.2 (.inr hy))) with e | e
   ·omega
   ·exact e
end Go.Proofs.YtabmomjfdondnaaH
namespace Go.Proofs.YtabmomjfdondnaaH
open Go
def avars (t : List Int) : List Int := (List.range 4).flatMap fun v => if t.contains ((v : Nat) : Int) = true then [((v : Nat) : Int)] else []
theorem avars_up {t : List Int} : (avars t).Pairwise (· < ·) := by
 unfold avars
 simp only [List.range, List.range.loop, List.flatMap_cons, List.flatMap_nil, List.append_nil]
 generalize t.contains ((0 : Nat) : Int) = a
 generalize t.contains ((1 : Nat) : Int) = b
 generalize t.contains ((2 : Nat) : Int) = c
 generalize t.contains ((3 : Nat) : Int) = d
 cases a <;> cases b <;> cases c <;> cases d <;> simp
theorem avars_mem {t : List Int} {y : Int} : y ∈ avars t ↔ y ∈ t ∧ btw y 0 3 = true := by
 unfold avars btw
 simp only [List.mem_flatMap, List.mem_range, Bool.and_eq_true, decide_eq_true_eq]
 constructor
 ·rintro ⟨v, hv, h⟩
  by_cases c : t.contains ((v : Nat) : Int) = true
  ·rw [if_pos c, List.mem_singleton] at h
   subst h
   exact ⟨by simpa using c, by omega, by omega⟩
  ·rw [if_neg c] at h; cases h
 ·rintro ⟨h, h1, h2⟩
  refine ⟨y.toNat, by omega, ?_⟩
  rw [Int.toNat_of_nonneg h1, if_pos (by simpa using h)]
  simp
theorem avars_len {t : List Int} : (avars t).length ≤ 4 := by
 unfold avars
 simp only [List.range, List.range.loop, List.flatMap_cons, List.flatMap_nil, List.append_nil, List.length_append]
 split <;> split <;> split <;> split <;> simp
theorem specVars {a : Atom} (h : Big a.Terms.length) : f113 a = some (avars a.Terms) := by
 unfold f113
 rw [iter_flat (List.range 4) (fun v => if a.Terms.contains ((v : Nat) : Int) = true then [((v : Nat) : Int)] else []) id (fun k hk => by
  simp only [List.length_range] at hk
  have el : (((List.range 4).take k).flatMap fun v => if a.Terms.contains ((v : Nat) : Int) = true then [((v : Nat) : Int)] else []).length ≤ k := by
   have := take_flat_le (l := List.range 4) (i := k) (g := fun v => if a.Terms.contains ((v : Nat) : Int) = true then [((v : Nat) : Int)] else []) (m := 1) (fun a => by split <;> simp)
   omega
  generalize ((List.range 4).take k).flatMap (fun v => if a.Terms.contains ((v : Nat) : Int) = true then [((v : Nat) : Int)] else []) = out at el ⊢
  simp only [List.getElem_range]
  simp only [f113_0]
  rw [if_pos (by omega), hasI h, Option.bind_some, w64_succ (by omega)]
  by_cases c : a.Terms.contains ((k : Nat) : Int) = true
  ·rw [if_pos c, if_pos c, app_fits (by simp; omega)]; rfl
  ·rw [if_neg c, if_neg c]; simp) (by
  simp only [f113_0]
  rw [if_neg (by simp)]; rfl)]
 rfl
theorem impVars {a : Atom} (h : a.Terms.length ≤ 12) : f120 a = some (avars a.Terms) := by
 unfold f120
 rw [iter_flat a.Terms (fun v => if btw v 0 3 = true then [v] else []) id (fun k hk => by
  have el : ((a.Terms.take k).flatMap fun v => if btw v 0 3 = true then [v] else []).length ≤ k := by
   have := take_flat_le (l := a.Terms) (i := k) (g := fun v => if btw v 0 3 = true then [v] else []) (m := 1) (fun a => by split <;> simp)
   omega
  generalize (a.Terms.take k).flatMap (fun v => if btw v 0 3 = true then [v] else []) = out at el ⊢
  simp only [f120_0]
  rw [if_pos (by omega), ix_nat hk, Option.bind_some, impIn, Option.bind_some, w64_succ (by omega)]
  by_cases c : btw a.Terms[k] 0 3 = true
  ·rw [if_pos c, if_pos c, app_fits (by simp; omega)]; rfl
  ·rw [if_neg c, if_neg c]; simp) (by
  simp only [f120_0]
  rw [if_neg (by omega)]; rfl)]
 rw [Option.bind_some]
 dsimp only [id]
 have el : (a.Terms.flatMap fun v => if btw v 0 3 = true then [v] else []).length ≤ a.Terms.length := by
  have := take_flat_le (l := a.Terms) (i := a.Terms.length) (g := fun v => if btw v 0 3 = true then [v] else []) (m := 1) (fun a => by split <;> simp)
  rw [List.take_of_length_le (Nat.le_refl _)] at this
  omega
 obtain ⟨r, h1, h2, h3, _⟩ := union12 (a := a.Terms.flatMap fun v => if btw v 0 3 = true then [v] else []) (b := []) (by rw [List.length_nil]; omega)
 rw [h1, Option.bind_some]
 congr 1
 refine up_ext h2 avars_up fun y => ?_
 rw [h3, avars_mem, List.mem_flatMap]
 constructor
 ·rintro (⟨v, hv, h⟩ | h)
  ·by_cases c : btw v 0 3 = true
   ·rw [if_pos c, List.mem_singleton] at h; subst h; exact ⟨hv, c⟩
   ·rw [if_neg c] at h; cases h
  ·cases h
 ·rintro ⟨h, c⟩
  exact .inl ⟨y, h, by rw [if_pos c]; simp⟩
def kvars (l : List Relation) (a : Atom) : List Int := if (btw a.Relation 0 (l.length - 1) && btw (keyLen l a.Relation) 0 a.Terms.length) = true then avars (a.Terms.take (keyLen l a.Relation).toNat) else []
theorem kvars_len {l : List Relation} {a : Atom} : (kvars l a).length ≤ 4 := by
 unfold kvars; split
 ·exact avars_len
 ·simp
theorem specKV {l : List Relation} {a : Atom} (hl : Big l.length) (h : Big a.Terms.length) : f112 l a = some (kvars l a) := by
 unfold f112 kvars
 rw [w64_of (by omega), specIn, Option.bind_some]
 cases hb : btw a.Relation 0 (l.length - 1)
 ·simp
 ·obtain ⟨x, h1, _, _, h2⟩ := ix_rel hb
  rw [h1]
  simp only [not_true_eq_false, if_false, Option.bind_some, specIn, h2]
  cases hk : btw (keyLen l a.Relation) 0 a.Terms.length
  ·simp
  ·unfold btw at hk; simp only [Bool.and_eq_true, decide_eq_true_eq] at hk
   simp only [not_true_eq_false, decide_false, Bool.false_eq_true, if_false, Bool.and_self, if_true]
   rw [cutL_ok (by omega) hk.1 hk.2, Option.bind_some, specVars (by simp; omega)]; rfl
theorem impKV {l : List Relation} {a : Atom} (hl : Big l.length) (h : a.Terms.length ≤ 12) : f119 l a = some (kvars l a) := by
 unfold f119 kvars
 rw [w64_of (by omega), impIn, Option.bind_some]
 cases hb : btw a.Relation 0 (l.length - 1)
 ·simp
 ·obtain ⟨x, h1, _, _, h2⟩ := ix_rel hb
  rw [h1]
  simp only [not_true_eq_false, if_false, Option.bind_some, impIn, h2]
  cases hk : btw (keyLen l a.Relation) 0 a.Terms.length
  ·simp
  ·unfold btw at hk; simp only [Bool.and_eq_true, decide_eq_true_eq] at hk
   simp only [not_true_eq_false, decide_false, Bool.false_eq_true, if_false, Bool.and_self, if_true]
   rw [cutL_ok (by omega) hk.1 hk.2, Option.bind_some, impVars (by simp; omega)]; rfl
theorem has14 {l w : List Int} (hl : Big l.length) (hw : Big w.length) : f111 l w = some (w.all l.contains) := by
 unfold f111
 rw [iter_ex w (fun v => !l.contains v) false (fun i hi => by
  simp only [f111_0]
  rw [if_pos (by omega), ix_nat hi, w64_succ (by omega)]
  simp only [Option.bind_some, hasI hl]
  cases l.contains w[i] <;> simp) (by
  simp only [f111_0]
  rw [if_neg (by omega)])]
 rw [any_not]
 cases w.all l.contains <;> simp
theorem vRels_arity {l : List Relation} {r : Int} (h : vRels l = true) (hb : btw r 0 (l.length - 1) = true) : arity l r ≤ 3 := by
 obtain ⟨x, h1, h2, h3, _⟩ := ix_rel hb
 unfold vRels at h; simp only [Bool.and_eq_true] at h
 obtain ⟨i, hi, rfl⟩ := List.mem_iff_getElem.1 h2
 have := (good_of h.1 hi).1
 unfold vRel btw at this
 simp only [Bool.and_eq_true, decide_eq_true_eq] at this
 omega
end Go.Proofs.YtabmomjfdondnaaH
namespace Go.Proofs.YtabmomjfdondnaaH
open Go
def nfl (X : Int → Bool) : List Int := (List.range 4).flatMap fun v => if X ((v : Nat) : Int) = true then [((v : Nat) : Int)] else []
def In4 (X : Int → Bool) : Prop := ∀ v, X v = true → btw v 0 3 = true
def Le4 (X Y : Int → Bool) : Prop := ∀ v, X v = true → Y v = true
def cupX (X Y : Int → Bool) : Int → Bool := fun v => X v || Y v
theorem Le4.refl {X : Int → Bool} : Le4 X X := fun _ h => h
theorem Le4.trans {X Y Z : Int → Bool} (h : Le4 X Y) (g : Le4 Y Z) : Le4 X Z := fun v hv => g v (h v hv)
theorem Le4.antisymm {X Y : Int → Bool} (h : Le4 X Y) (g : Le4 Y X) : X = Y := by
 funext v
 rw [Bool.eq_iff_iff]
 exact ⟨h v, g v⟩
theorem avars_nfl {t : List Int} : avars t = nfl t.contains := rfl
theorem nfl_mem {X : Int → Bool} {y : Int} : y ∈ nfl X ↔ X y = true ∧ btw y 0 3 = true := by
 unfold nfl btw
 simp only [List.mem_flatMap, List.mem_range, Bool.and_eq_true, decide_eq_true_eq]
 constructor
 ·rintro ⟨v, hv, h⟩
  by_cases c : X ((v : Nat) : Int) = true
  ·rw [if_pos c, List.mem_singleton] at h
   subst h
   exact ⟨c, by omega, by omega⟩
  ·rw [if_neg c] at h; cases h
 ·rintro ⟨h, h1, h2⟩
  refine ⟨y.toNat, by omega, ?_⟩
  rw [Int.toNat_of_nonneg h1, if_pos h]
  simp
theorem nfl_up {X : Int → Bool} : (nfl X).Pairwise (· < ·) := by
 unfold nfl
 simp only [List.range, List.range.loop, List.flatMap_cons, List.flatMap_nil, List.append_nil]
 generalize X ((0 : Nat) : Int) = a
 generalize X ((1 : Nat) : Int) = b
 generalize X ((2 : Nat) : Int) = c
 generalize X ((3 : Nat) : Int) = d
 cases a <;> cases b <;> cases c <;> cases d <;> simp
theorem nfl_len {X : Int → Bool} : (nfl X).length ≤ 4 := by
 unfold nfl
 simp only [List.range, List.range.loop, List.flatMap_cons, List.flatMap_nil, List.append_nil, List.length_append]
 split <;> split <;> split <;> split <;> simp
theorem nfl_has {X : Int → Bool} (h : In4 X) : (nfl X).contains = X := by
 funext v
 rw [Bool.eq_iff_iff, List.contains_iff_mem, nfl_mem]
 exact ⟨fun h => h.1, fun hv => ⟨hv, h v hv⟩⟩
theorem nfl_congr {X Y : Int → Bool} (h : ∀ v, btw v 0 3 = true → X v = Y v) : nfl X = nfl Y := by
 refine up_ext nfl_up nfl_up fun y => ?_
 rw [nfl_mem, nfl_mem]
 constructor <;> rintro ⟨a, b⟩ <;> exact ⟨by rw [← a, h y b], b⟩
theorem nfl_in {X : Int → Bool} : In4 (nfl X).contains := fun v hv => by
 rw [List.contains_iff_mem, nfl_mem] at hv; exact hv.2
theorem nfl_nil : nfl (fun _ => false) = [] := by simp [nfl]
theorem cup_in {X Y : Int → Bool} (h : In4 X) (g : In4 Y) : In4 (cupX X Y) := fun v hv => by
 unfold cupX at hv
 rcases Bool.or_eq_true _ _ ▸ hv with a | a
 ·exact h v a
 ·exact g v a
theorem nfl_idem {X : Int → Bool} : nfl (nfl X).contains = nfl X := nfl_congr fun v hv => by
 rw [Bool.eq_iff_iff, List.contains_iff_mem, nfl_mem]
 exact ⟨fun h => h.1, fun h => ⟨h, hv⟩⟩
theorem unionI {a b : List Int} (h : a.length + b.length ≤ 12) (ha : In4 a.contains) (hb : In4 b.contains) : f165 a b = some (nfl (cupX a.contains b.contains)) := by
 obtain ⟨r, h1, h2, h3, _⟩ := union12 h
 rw [h1]
 congr 1
 refine up_ext h2 nfl_up fun y => ?_
 rw [h3, nfl_mem]
 unfold cupX
 simp only [Bool.or_eq_true, List.contains_iff_mem]
 constructor
 ·intro hy
  refine ⟨hy, ?_⟩
  rcases hy with hy | hy
  ·exact ha y (by rw [List.contains_iff_mem]; exact hy)
  ·exact hb y (by rw [List.contains_iff_mem]; exact hy)
 ·exact fun h => h.1
theorem bothS {a b : List Int} (ha : Big a.length) (hb : Big b.length) : f188 a b = some (nfl (cupX a.contains b.contains)) := by
 unfold f188
 rw [iter_flat (List.range 4) (fun v => if cupX a.contains b.contains ((v : Nat) : Int) = true then [((v : Nat) : Int)] else []) id (fun k hk => by
  simp only [List.length_range] at hk
  have el : (((List.range 4).take k).flatMap fun v => if cupX a.contains b.contains ((v : Nat) : Int) = true then [((v : Nat) : Int)] else []).length ≤ k := by
   have := take_flat_le (l := List.range 4) (i := k) (g := fun v => if cupX a.contains b.contains ((v : Nat) : Int) = true then [((v : Nat) : Int)] else []) (m := 1) (fun a => by split <;> simp)
   omega
  generalize ((List.range 4).take k).flatMap (fun v => if cupX a.contains b.contains ((v : Nat) : Int) = true then [((v : Nat) : Int)] else []) = out at el ⊢
  simp only [List.getElem_range]
  simp only [f188_0]
  rw [if_pos (by omega), hasI ha, hasI hb, w64_succ (by omega)]
  unfold cupX
  cases a.contains ((k : Nat) : Int)
  ·cases b.contains ((k : Nat) : Int)
   ·simp
   ·simp only [Option.bind_some, Bool.false_eq_true, if_false, if_true, Bool.false_or]
    rw [app_fits (by simp; omega)]; rfl
  ·simp only [Option.bind_some, if_true, Bool.true_or]
   rw [app_fits (by simp; omega)]; rfl) (by
  simp only [f188_0]
  rw [if_neg (by simp)]; rfl)]
 rfl
structure Rule where
 c : (Int → Bool) → Bool
 a : Int → Bool
def Rule.mono (r : Rule) : Prop := ∀ X Y, Le4 X Y → r.c X = true → r.c Y = true
def fire (X : Int → Bool) (r : Rule) : Int → Bool := if r.c X = true then cupX X r.a else X
def pass (L : List Rule) (X : Int → Bool) : Int → Bool := L.foldl fire X
def passes (L : List Rule) : Nat → (Int → Bool) → Int → Bool
 | 0, X => X
 | n + 1, X => pass L (passes L n X)
def Clo (L : List Rule) (X : Int → Bool) : Prop := ∀ r ∈ L, r.c X = true → Le4 r.a X
theorem fire_le {X : Int → Bool} {r : Rule} : Le4 X (fire X r) := fun v hv => by
 unfold fire; split
 ·unfold cupX; rw [hv]; rfl
 ·exact hv
theorem pass_le {L : List Rule} {X : Int → Bool} : Le4 X (pass L X) := by
 induction L generalizing X with
 | nil => exact Le4.refl
 | cons r L ih => exact fire_le.trans ih
theorem fire_clo {X : Int → Bool} {r : Rule} (h : r.c X = true → Le4 r.a X) : fire X r = X := by
 unfold fire; split
 ·rename_i hc
  refine Le4.antisymm (fun v hv => ?_) (fun v hv => by unfold cupX; rw [hv]; rfl)
  unfold cupX at hv
  rcases Bool.or_eq_true _ _ ▸ hv with a | a
  ·exact a
  ·exact h hc v a
 ·rfl
theorem pass_clo {L : List Rule} {X : Int → Bool} (h : Clo L X) : pass L X = X := by
 induction L with
 | nil => rfl
 | cons r L ih =>
  unfold pass
  rw [List.foldl_cons, fire_clo (h r (by simp))]
  exact ih fun q hq => h q (by simp [hq])
theorem pass_fires {L : List Rule} (hm : ∀ r ∈ L, r.mono) {X : Int → Bool} {r : Rule} (hr : r ∈ L) (hc : r.c X = true) : Le4 r.a (pass L X) := by
 induction L generalizing X with
 | nil => cases hr
 | cons q L ih =>
  unfold pass
  rw [List.foldl_cons]
  rcases List.mem_cons.1 hr with rfl | hr
  ·refine Le4.trans (fun v hv => ?_) (pass_le (L := L))
   unfold fire; rw [if_pos hc]; unfold cupX; rw [hv, Bool.or_true]
  ·exact ih (fun r h => hm r (by simp [h])) hr (hm r (by simp [hr]) _ _ fire_le hc)
theorem clo_of_pass {L : List Rule} (hm : ∀ r ∈ L, r.mono) {X : Int → Bool} (h : pass L X = X) : Clo L X := fun r hr hc => by
 have := pass_fires hm hr hc
 rwa [h] at this
theorem pass_least {L : List Rule} (hm : ∀ r ∈ L, r.mono) {X Z : Int → Bool} (hz : Clo L Z) (h : Le4 X Z) : Le4 (pass L X) Z := by
 induction L generalizing X with
 | nil => exact h
 | cons q L ih =>
  unfold pass
  rw [List.foldl_cons]
  refine ih (fun r h => hm r (by simp [h])) (fun r hr => hz r (by simp [hr])) ?_
  unfold fire; split
  ·rename_i hc
   intro v hv
   unfold cupX at hv
   rcases Bool.or_eq_true _ _ ▸ hv with a | a
   ·exact h v a
   ·exact hz q (by simp) (hm q (by simp) _ _ h hc) v a
  ·exact h
theorem passes_le {L : List Rule} {n : Nat} {X : Int → Bool} : Le4 X (passes L n X) := by
 induction n with
 | zero => exact Le4.refl
 | succ n ih => exact ih.trans pass_le
theorem passes_least {L : List Rule} (hm : ∀ r ∈ L, r.mono) {X Z : Int → Bool} (hz : Clo L Z) (h : Le4 X Z) {n : Nat} : Le4 (passes L n X) Z := by
 induction n with
 | zero => exact h
 | succ n ih => exact pass_least hm hz ih
noncomputable def spent (L : List Rule) (X : Int → Bool) : Nat := by
 classical exact (L.map fun r => if Le4 r.a X then 1 else 0).sum
theorem spent_le {L : List Rule} {X : Int → Bool} : spent L X ≤ L.length := by
 unfold spent
 induction L with
 | nil => simp
 | cons r L ih => simp only [List.map_cons, List.sum_cons, List.length_cons]; split <;> omega
theorem spent_mono {L : List Rule} {X Y : Int → Bool} (h : Le4 X Y) : spent L X ≤ spent L Y := by
 unfold spent
 induction L with
 | nil => simp
 | cons r L ih =>
  simp only [List.map_cons, List.sum_cons]
  split
  ·rename_i a
   rw [if_pos (a.trans h)]; omega
  ·split <;> omega
theorem spent_lt {L : List Rule} {X Y : Int → Bool} (h : Le4 X Y) {r : Rule} (hr : r ∈ L) (h1 : ¬ Le4 r.a X) (h2 : Le4 r.a Y) : spent L X < spent L Y := by
 induction L with
 | nil => cases hr
 | cons q L ih =>
  have hm := spent_mono (L := L) h
  unfold spent at ih hm ⊢
  simp only [List.map_cons, List.sum_cons]
  rcases List.mem_cons.1 hr with rfl | hr
  ·rw [if_neg h1, if_pos h2]; omega
  ·have := ih hr
   split
   ·rename_i a
    rw [if_pos (a.trans h)]; omega
   ·split <;> omega
theorem spent_full {L : List Rule} {X : Int → Bool} (h : L.length ≤ spent L X) : Clo L X := by
 intro r hr _
 apply Classical.byContradiction
 intro hn
 have : spent L X < spent L (fun _ => true) := spent_lt (fun _ _ => rfl) hr hn (fun _ _ => rfl)
 have := spent_le (L := L) (X := fun _ => true)
 omega
theorem passes_spent {L : List Rule} (hm : ∀ r ∈ L, r.mono) {X : Int → Bool} {n : Nat} : Clo L (passes L n X) ∨ n ≤ spent L (passes L n X) := by
 induction n with
 | zero => exact .inr (by omega)
 | succ n ih =>
  rw [passes]
  rcases ih with h | h
  ·rw [pass_clo h]; exact .inl h
  ·by_cases c : Clo L (passes L n X)
   ·rw [pass_clo c]; exact .inl c
   ·right
    have : ∃ r ∈ L, r.c (passes L n X) = true ∧ ¬ Le4 r.a (passes L n X) := by
     apply Classical.byContradiction
     intro hn
     exact c fun r hr hc => Classical.byContradiction fun h => hn ⟨r, hr, hc, h⟩
    obtain ⟨r, hr, hc, hn⟩ := this
    have := spent_lt (pass_le (L := L)) hr hn (pass_fires hm hr hc)
    omega
theorem passes_clo {L : List Rule} (hm : ∀ r ∈ L, r.mono) {X : Int → Bool} {n : Nat} (h : L.length ≤ n) : Clo L (passes L n X) := by
 rcases passes_spent hm (X := X) (n := n) with c | c
 ·exact c
 ·exact spent_full (by omega)
def cl (L : List Rule) (X : Int → Bool) : Int → Bool := passes L L.length X
theorem cl_uniq {L : List Rule} (hm : ∀ r ∈ L, r.mono) {X Y : Int → Bool} (h1 : Clo L Y) (h2 : Le4 X Y) (h3 : ∀ Z, Clo L Z → Le4 X Z → Le4 Y Z) : Y = cl L X :=
 (h3 _ (passes_clo hm (Nat.le_refl _)) passes_le).antisymm (passes_least hm h1 h2)
theorem passes_cl {L : List Rule} (hm : ∀ r ∈ L, r.mono) {X : Int → Bool} {n : Nat} (h : L.length ≤ n) : passes L n X = cl L X :=
 cl_uniq hm (passes_clo hm h) passes_le fun Z hz hx => passes_least hm hz hx
theorem passes_stop {L : List Rule} (hm : ∀ r ∈ L, r.mono) {X : Int → Bool} {n : Nat} (h : pass L (passes L n X) = passes L n X) : passes L n X = cl L X :=
 cl_uniq hm (clo_of_pass hm h) passes_le fun Z hz hx => passes_least hm hz hx
theorem fire_in {X : Int → Bool} {r : Rule} (h : In4 X) (g : In4 r.a) : In4 (fire X r) := by
 unfold fire; split
 ·exact cup_in h g
 ·exact h
theorem pass_in {L : List Rule} {X : Int → Bool} (h : In4 X) (g : ∀ r ∈ L, In4 r.a) : In4 (pass L X) := by
 induction L generalizing X with
 | nil => exact h
 | cons r L ih => exact ih (fire_in h (g r (by simp))) fun q hq => g q (by simp [hq])
theorem passes_in {L : List Rule} {n : Nat} {X : Int → Bool} (h : In4 X) (g : ∀ r ∈ L, In4 r.a) : In4 (passes L n X) := by
 induction n with
 | zero => exact h
 | succ n ih => exact pass_in ih g
theorem pass_take {L : List Rule} {X : Int → Bool} {i : Nat} (h : i < L.length) : pass (L.take (i + 1)) X = fire (pass (L.take i) X) L[i] := by
 unfold pass; rw [take_succ' h, List.foldl_append]; rfl
theorem nfl_inj {X Y : Int → Bool} (hx : In4 X) (hy : In4 Y) (h : nfl X = nfl Y) : X = Y := by rw [← nfl_has hx, ← nfl_has hy, h]
theorem nfl_len_lt {X Y : Int → Bool} (h : Le4 X Y) (he : (nfl Y).length ≤ (nfl X).length) (hy : In4 Y) : X = Y := by
 have hx : In4 X := fun v hv => hy v (h v hv)
 refine nfl_inj hx hy ?_
 have h0 := h 0
 have h1 := h 1
 have h2 := h 2
 have h3 := h 3
 unfold nfl at he ⊢
 simp only [List.range, List.range.loop, List.flatMap_cons, List.flatMap_nil, List.append_nil, List.length_append, Int.ofNat_zero, Int.natCast_zero, Int.natCast_one] at he ⊢
 have e2 : ((2 : Nat) : Int) = 2 := rfl
 have e3 : ((3 : Nat) : Int) = 3 := rfl
 rw [e2, e3] at he ⊢
 generalize X 0 = a0 at *
 generalize X 1 = a1 at *
 generalize X 2 = a2 at *
 generalize X 3 = a3 at *
 generalize Y 0 = b0 at *
 generalize Y 1 = b1 at *
 generalize Y 2 = b2 at *
 generalize Y 3 = b3 at *
 revert h0 h1 h2 h3 he
 cases a0 <;> cases a1 <;> cases a2 <;> cases a3 <;> cases b0 <;> cases b1 <;> cases b2 <;> cases b3 <;> simp
end Go.Proofs.YtabmomjfdondnaaH
namespace Go.Proofs.YtabmomjfdondnaaH
open Go
def FitsQ (q : Query) : Prop := q.Atoms.length ≤ 1048576 ∧ (∀ a ∈ q.Atoms, a.Terms.length ≤ 1048576) ∧ q.Free.length ≤ 1048576
def vAt (l : List Relation) (n : Int) (before : List Atom) (a : Atom) : Bool :=
 btw a.Relation 0 (l.length - 1) && (decide ((a.Terms.length : Int) = arity l a.Relation) && ((a.Terms.all fun v => btw v (-10) (n - 1)) && !(before.any fun b => decide (b.Relation = a.Relation))))
def vAtom (l : List Relation) (q : Query) (i : Nat) : Bool := match q.Atoms[i]? with
 | none => true
 | some a => vAt l q.VariableCount (q.Atoms.take i) a
def occ (as : List Atom) : Int → Bool := fun v => as.any fun a => a.Terms.contains v
def vQuery (l : List Relation) (q : Query) : Bool :=
 vRels l && (btw q.VariableCount 0 4 && (btw q.Atoms.length 1 3 && (((List.range q.Atoms.length).all (vAtom l q)) && (((List.range 4).all fun v => decide (q.VariableCount ≤ ((v : Nat) : Int)) || occ q.Atoms ((v : Nat) : Int)) && asc q.VariableCount q.Free))))
theorem vAtom_get {l : List Relation} {q : Query} {i : Nat} (h : i < q.Atoms.length) : vAtom l q i = vAt l q.VariableCount (q.Atoms.take i) q.Atoms[i] := by
 unfold vAtom; rw [List.getElem?_eq_getElem h]
theorem all_false {n i : Nat} {p : Nat → Bool} (h : i < n) (hp : p i = false) : (List.range n).all p = false := by
 rw [Bool.eq_false_iff]
 intro ha
 have := List.all_eq_true.1 ha i (List.mem_range.2 h)
 rw [hp] at this; cases this
theorem occ_succ {as : List Atom} {i : Nat} (h : i < as.length) {v : Int} : occ (as.take (i + 1)) v = (occ (as.take i) v || as[i].Terms.contains v) := by
 unfold occ; rw [take_succ' h, List.any_append]; simp
theorem has_succ {t : List Int} {k : Nat} (h : k < t.length) {v : Int} : (t.take (k + 1)).contains v = ((t.take k).contains v || decide (v = t[k])) := by
 rw [Bool.eq_iff_iff, List.contains_iff_mem, take_succ' h, List.mem_append, List.mem_singleton, Bool.or_eq_true, List.contains_iff_mem, decide_eq_true_eq]
section
variable {l : List Relation} {q : Query}
theorem specTerms {a : Atom} {mt : List Bool} {X : Int → Bool} (ht : a.Terms.length ≤ 1048576) (hn : 0 ≤ q.VariableCount ∧ q.VariableCount ≤ 4) (hm : mt.length = 4) (hx : ∀ v, v < 4 → mt[v]? = some (X ((v : Nat) : Int))) :
  Ens (iter (f124_4 q a) (mt, 0)) fun o => match o with
   | .inl m => (a.Terms.all fun v => btw v (-10) (q.VariableCount - 1)) = true ∧ m.length = 4 ∧ ∀ v, v < 4 → m[v]? = some (X ((v : Nat) : Int) || a.Terms.contains ((v : Nat) : Int))
   | .inr b => b = false ∧ (a.Terms.all fun v => btw v (-10) (q.VariableCount - 1)) = false := by
 refine iter_up (f := f124_4 q a) a.Terms.length (fun k s => s.2 = (k : Int) ∧ ((a.Terms.take k).all fun v => btw v (-10) (q.VariableCount - 1)) = true ∧ s.1.length = 4 ∧ ∀ v, v < 4 → s.1[v]? = some (X ((v : Nat) : Int) || (a.Terms.take k).contains ((v : Nat) : Int))) _ (fun k s hk hI => ?_) (fun s hI => ?_) (mt, 0) ⟨rfl, by simp, hm, fun v hv => by simp [hx v hv]⟩
 ·obtain ⟨m, x⟩ := s
  obtain ⟨e1, e2, e3, e4⟩ := hI
  dsimp only at e1 e3 e4
  subst e1
  simp only [f124_4]
  rw [if_pos (by omega), ix_nat hk, Option.bind_some, w64_of (by omega), specIn, Option.bind_some]
  cases hb : btw a.Terms[k] (-10) (q.VariableCount - 1)
  ·refine ⟨_, rfl, rfl, ?_⟩
   rw [Bool.eq_false_iff]
   intro ha
   have := List.all_eq_true.1 ha _ (List.getElem_mem hk)
   rw [hb] at this; cases this
  ·have hb' := hb
   unfold btw at hb'; simp only [Bool.and_eq_true, decide_eq_true_eq] at hb'
   have ha : ((a.Terms.take (k + 1)).all fun v => btw v (-10) (q.VariableCount - 1)) = true := by
    rw [take_succ' hk, List.all_append, e2]; simp [hb]
   simp only [not_true_eq_false, if_false]
   rw [w64_succ (by omega)]
   by_cases c : a.Terms[k] ≥ 0
   ·have hi : ix m a.Terms[k] = some (m[a.Terms[k].toNat]'(by omega)) := by rw [ix_of c, List.getElem?_eq_getElem (by omega)]
    rw [if_pos c, hi]
    simp only [Option.bind_some]
    refine ⟨_, rfl, rfl, ha, by simp [e3], fun v hv => ?_⟩
    dsimp only
    rw [List.getElem?_set]
    by_cases e : a.Terms[k].toNat = v
    ·rw [if_pos e, if_pos (by omega)]
     have : ((v : Nat) : Int) = a.Terms[k] := by omega
     rw [has_succ hk]
     simp [this]
    ·rw [if_neg e, e4 v hv, has_succ hk]
     have : ¬ ((v : Nat) : Int) = a.Terms[k] := by omega
     simp [this]
   ·rw [if_neg c]
    simp only [Option.bind_some]
    refine ⟨_, rfl, rfl, ha, e3, fun v hv => ?_⟩
    dsimp only
    rw [e4 v hv, has_succ hk]
    have : ¬ ((v : Nat) : Int) = a.Terms[k] := by omega
    simp [this]
 ·obtain ⟨m, x⟩ := s
  obtain ⟨e1, e2, e3, e4⟩ := hI
  dsimp only at e1 e3 e4
  subst e1
  rw [List.take_of_length_le (Nat.le_refl _)] at e2 e4
  simp only [f124_4]
  rw [if_neg (by omega)]
  exact ⟨_, rfl, e2, e3, e4⟩
theorem specEarlier {a : Atom} {i : Nat} (hi : i ≤ q.Atoms.length) (hq : q.Atoms.length ≤ 1048576) : iter (f124_3 q (i : Int) a) 0 = some (if ((q.Atoms.take i).any fun b => decide (b.Relation = a.Relation)) = true then .inr false else .inl ()) := by
 have e : (q.Atoms.take i).length = i := by simp; omega
 refine iter_ex (q.Atoms.take i) (fun b => decide (b.Relation = a.Relation)) false (fun k hk => ?_) ?_
 ·rw [e] at hk
  simp only [f124_3]
  rw [if_pos (by omega), ix_nat (by omega : k < q.Atoms.length), Option.bind_some, w64_succ (by omega), List.getElem_take]
  by_cases c : q.Atoms[k].Relation = a.Relation
  ·rw [if_pos c, if_pos (by simp [c])]
  ·rw [if_neg c, if_neg (by simp [c])]
 ·simp only [f124_3]
  rw [e, if_neg (by omega)]
theorem specAtoms (hl : Big l.length) (hq : FitsQ q) (hn : 0 ≤ q.VariableCount ∧ q.VariableCount ≤ 4) :
  Ens (iter (f124_0 l q) ([false, false, false, false], 0)) fun o => match o with
   | .inl m => (List.range q.Atoms.length).all (vAtom l q) = true ∧ m.length = 4 ∧ ∀ v, v < 4 → m[v]? = some (occ q.Atoms ((v : Nat) : Int))
   | .inr b => b = false ∧ (List.range q.Atoms.length).all (vAtom l q) = false := by
 obtain ⟨q1, q2, q3⟩ := hq
 refine iter_up (f := f124_0 l q) q.Atoms.length (fun i s => s.2 = (i : Int) ∧ (∀ j, j < i → vAtom l q j = true) ∧ s.1.length = 4 ∧ ∀ v, v < 4 → s.1[v]? = some (occ (q.Atoms.take i) ((v : Nat) : Int))) _ (fun i s hi hI => ?_) (fun s hI => ?_) _ ⟨rfl, fun j hj => by omega, rfl, fun v hv => ?_⟩
 ·obtain ⟨m, x⟩ := s
  obtain ⟨e1, e2, e3, e4⟩ := hI
  dsimp only at e1 e3 e4
  subst e1
  have hv := vAtom_get (l := l) hi
  simp only [f124_0]
  rw [if_pos (by omega), ix_nat hi, Option.bind_some, w64_of (by omega), specIn, Option.bind_some]
  have ht := q2 _ (List.getElem_mem hi)
  unfold vAt at hv
  cases hb : btw q.Atoms[i].Relation 0 (l.length - 1)
  ·rw [hb] at hv
   exact ⟨_, rfl, rfl, all_false hi (by rw [hv]; rfl)⟩
  ·obtain ⟨x, h1, _, h2, _⟩ := ix_rel hb
   rw [hb] at hv
   rw [h1]
   simp only [not_true_eq_false, if_false, Option.bind_some]
   rw [h2]
   by_cases ha : (q.Atoms[i].Terms.length : Int) = arity l q.Atoms[i].Relation
   ·simp only [ha, not_true_eq_false, if_false, Option.bind_some, ne_eq, decide_false, Bool.false_eq_true]
    rw [specEarlier (by omega) q1]
    cases hd : (q.Atoms.take i).any fun b => decide (b.Relation = q.Atoms[i].Relation)
    ·simp only [Bool.false_eq_true, if_false, Option.bind_some]
     obtain ⟨o, ho, hQ⟩ := specTerms (q := q) (a := q.Atoms[i]) (mt := m) (X := occ (q.Atoms.take i)) ht hn e3 e4
     rw [ho]
     cases o with
     | inl m' =>
      obtain ⟨g1, g2, g3⟩ := hQ
      simp only [Option.bind_some]
      rw [w64_succ (by omega)]
      refine ⟨_, rfl, rfl, fun j hj => ?_, g2, fun v hv => ?_⟩
      ·by_cases e : j = i
       ·subst e; rw [hv, ha, g1, hd]; simp
       ·exact e2 j (by omega)
      ·rw [g3 v hv, occ_succ hi]
     | inr b =>
      obtain ⟨rfl, g⟩ := hQ
      exact ⟨_, rfl, rfl, all_false hi (by rw [hv, g]; simp)⟩
    ·simp only [if_true, Option.bind_some]
     exact ⟨_, rfl, rfl, all_false hi (by rw [hv, hd]; simp)⟩
   ·simp only [ha, not_true_eq_false, not_false_eq_true, if_false, Option.bind_some, ne_eq, decide_true, if_true]
    exact ⟨_, rfl, rfl, all_false hi (by rw [hv]; simp [ha])⟩
 ·obtain ⟨m, x⟩ := s
  obtain ⟨e1, e2, e3, e4⟩ := hI
  dsimp only at e1 e3 e4
  subst e1
  rw [List.take_of_length_le (Nat.le_refl _)] at e4
  simp only [f124_0]
  rw [if_neg (by omega)]
  exact ⟨_, rfl, List.all_eq_true.2 fun j hj => e2 j (List.mem_range.1 hj), e3, e4⟩
 ·simp only [List.take_zero, occ, List.any_nil]
  rcases v with _ | _ | _ | _ | v
  ·rfl
  ·rfl
  ·rfl
  ·rfl
  ·omega
theorem specQ (hl : Big l.length) (hq : FitsQ q) : f124 l q = some (vQuery l q) := by
 unfold f124 vQuery
 rw [specRels hl, Option.bind_some]
 cases vRels l
 ·simp
 simp only [not_true_eq_false, if_false, specIn, Option.bind_some, Bool.true_and]
 cases hc : btw q.VariableCount 0 4
 ·simp
 cases hn : btw (q.Atoms.length : Int) 1 3
 ·simp
 have hc' := hc
 unfold btw at hc'; simp only [Bool.and_eq_true, decide_eq_true_eq] at hc'
 simp only [not_true_eq_false, if_false, Option.bind_some, decide_false, Bool.false_eq_true, Bool.true_and]
 rw [mkl_ok (by omega) (by omega) (by omega), Option.bind_some, show List.replicate (4 : Int).toNat false = [false, false, false, false] from rfl]
 obtain ⟨o, ho, hQ⟩ := specAtoms hl hq hc'
 rw [ho]
 cases o with
 | inr b => obtain ⟨rfl, g⟩ := hQ; rw [g]; simp
 | inl m =>
  obtain ⟨g1, g2, g3⟩ := hQ
  rw [g1]
  simp only [Option.bind_some, Bool.true_and]
  rw [iter_ex (List.range q.VariableCount.toNat) (fun v => !occ q.Atoms ((v : Nat) : Int)) false (fun v hv => by
   simp only [List.length_range] at hv
   simp only [List.getElem_range]
   simp only [f124_1]
   rw [if_pos (by omega), ix_cast, g3 v (by omega), Option.bind_some, w64_succ (by omega)]
   cases occ q.Atoms ((v : Nat) : Int) <;> simp) (by
   simp only [f124_1, List.length_range]
   rw [if_neg (by omega)])]
  have ea : ((List.range 4).all fun v => decide (q.VariableCount ≤ ((v : Nat) : Int)) || occ q.Atoms ((v : Nat) : Int)) = !((List.range q.VariableCount.toNat).any fun v => !occ q.Atoms ((v : Nat) : Int)) := by
   rw [any_not, Bool.not_not, Bool.eq_iff_iff, List.all_eq_true, List.all_eq_true]
   simp only [List.mem_range, Bool.or_eq_true, decide_eq_true_eq]
   constructor
   ·intro h v hv
    exact (h v (by omega)).resolve_left (by omega)
   ·intro h v hv
    by_cases c : q.VariableCount ≤ ((v : Nat) : Int)
    ·exact .inl c
    ·exact .inr (h v (by omega))
  rw [ea]
  cases (List.range q.VariableCount.toNat).any fun v => !occ q.Atoms ((v : Nat) : Int)
  ·simp only [Bool.false_eq_true, if_false, Option.bind_some, Bool.not_false, Bool.true_and]
   have hF := hq.2.2
   rw [iter_adj (fun v => btw v 0 (q.VariableCount - 1)) (fun a b => decide (a < b)) q.Free false (fun i hi => by
    simp only [f124_2]
    rw [if_pos (by omega), ix_nat hi, w64_succ (by omega), w64_of (n := q.VariableCount - 1) (by omega)]
    simp only [Option.bind_some, specIn]
    cases btw q.Free[i] 0 (q.VariableCount - 1)
    ·simp
    ·by_cases h0 : i = 0
     ·subst h0; simp
     ·have e : ix q.Free (w64 ((i : Int) - 1)) = some (q.Free[i - 1]'(by omega)) := by rw [w64_of (by omega), show (i : Int) - 1 = ((i - 1 : Nat) : Int) by omega, ix_nat (by omega)]
      simp only [e]
      have : 0 < i := by omega
      by_cases hb : q.Free[i - 1]'(by omega) < q.Free[i]
      ·simp [h0, this, hb, Int.not_le.2 hb]
      ·simp [h0, this, hb, Int.not_lt.1 hb]) (by
    simp only [f124_2]
    rw [if_neg (by omega)])]
   unfold asc
   cases good (fun v => btw v 0 (q.VariableCount - 1)) (fun a b => decide (a < b)) q.Free <;> simp
  ·simp
theorem containsA {s : List Atom} {f : Atom → Option Bool} {p : Atom → Bool} (h : Big s.length) (hf : ∀ a ∈ s, f a = some (p a)) : f168 s f = some (s.any p) := by
 unfold f168 f189
 obtain ⟨o, h1, h2⟩ := iter_idx (f := f189_0 s f) s p (fun i hi => by
  simp only [f189_0]
  rw [if_pos (by omega), ix_nat hi, w64_succ (by omega)]
  simp only [Option.bind_some, hf _ (List.getElem_mem hi)]
  split <;> rfl) (by
  simp only [f189_0]
  rw [if_neg (by omega)])
 rw [h1]
 cases o with
 | inl _ => dsimp only at h2; rw [h2]; rfl
 | inr x => dsimp only at h2; rw [h2.2]; simp; omega
theorem impAtoms (hl : Big l.length) (hv : vRels l = true) (hq : FitsQ q) (hn : 0 ≤ q.VariableCount ∧ q.VariableCount ≤ 4) :
  Ens (iter (f127_0 l q) ([], 0)) fun o => match o with
   | .inl m => (List.range q.Atoms.length).all (vAtom l q) = true ∧ m = nfl (occ q.Atoms)
   | .inr b => b = false ∧ (List.range q.Atoms.length).all (vAtom l q) = false := by
 obtain ⟨q1, q2, q3⟩ := hq
 refine iter_up (f := f127_0 l q) q.Atoms.length (fun i s => s.2 = (i : Int) ∧ (∀ j, j < i → vAtom l q j = true) ∧ s.1 = nfl (occ (q.Atoms.take i))) _ (fun i s hi hI => ?_) (fun s hI => ?_) _ ⟨rfl, fun j hj => by omega, nfl_nil.symm⟩
 ·obtain ⟨m, x⟩ := s
  obtain ⟨e1, e2, e3⟩ := hI
  dsimp only at e1 e3
  subst e1; subst e3
  have hva := vAtom_get (l := l) hi
  simp only [f127_0]
  rw [if_pos (by omega), ix_nat hi, Option.bind_some, w64_of (by omega), impIn, Option.bind_some]
  have ht := q2 _ (List.getElem_mem hi)
  unfold vAt at hva
  cases hb : btw q.Atoms[i].Relation 0 (l.length - 1)
  ·rw [hb] at hva
   exact ⟨_, rfl, rfl, all_false hi (by rw [hva]; rfl)⟩
  ·obtain ⟨x, h1, _, h2, _⟩ := ix_rel hb
   rw [hb] at hva
   rw [h1]
   simp only [not_true_eq_false, if_false, Option.bind_some]
   rw [h2]
   by_cases ha : (q.Atoms[i].Terms.length : Int) = arity l q.Atoms[i].Relation
   ·have h3 := vRels_arity hv hb
    have e0 : (q.Atoms.take ((i : Nat) : Int).toNat).drop (0 : Int).toNat = q.Atoms.take i := by simp
    rw [if_neg (by simp [ha]), cutL_ok (by omega) (by omega) (by omega), e0, Option.bind_some]
    rw [containsA (p := fun b => decide (b.Relation = q.Atoms[i].Relation)) (by simp; omega) (fun b _ => by
     unfold f169
     exact congrArg some (decide_eq_decide.2 ⟨fun h => by first | exact h | exact h.symm, fun h => by first | exact h | exact h.symm⟩))]
    cases hd : (q.Atoms.take i).any fun b => decide (b.Relation = q.Atoms[i].Relation)
    ·simp only [Bool.false_eq_true, if_false, Option.bind_some]
     rw [iter_ex q.Atoms[i].Terms (fun v => !btw v (-10) (q.VariableCount - 1)) false (fun k hk => by
      simp only [f127_1]
      rw [if_pos (by omega), ix_nat hk, w64_succ (by omega), w64_of (n := q.VariableCount - 1) (by omega)]
      simp only [Option.bind_some, impIn]
      cases btw q.Atoms[i].Terms[k] (-10) (q.VariableCount - 1) <;> simp) (by
      simp only [f127_1]
      rw [if_neg (by omega)]), any_not]
     cases g1 : q.Atoms[i].Terms.all fun v => btw v (-10) (q.VariableCount - 1)
     ·simp only [Bool.not_false, if_true, Option.bind_some]
      exact ⟨_, rfl, rfl, all_false hi (by rw [hva, g1]; simp)⟩
     ·simp only [Bool.not_true, Bool.false_eq_true, if_false, Option.bind_some]
      have n1 := nfl_len (X := occ (q.Atoms.take i))
      have n2 := nfl_len (X := q.Atoms[i].Terms.contains)
      rw [impVars (by omega), Option.bind_some, avars_nfl, unionI (by omega) nfl_in nfl_in, Option.bind_some, w64_succ (by omega)]
      refine ⟨_, rfl, rfl, fun j hj => ?_, ?_⟩
      ·by_cases e : j = i
       ·subst e; rw [hva, ha, g1, hd]; simp
       ·exact e2 j (by omega)
      ·refine nfl_congr fun v hv => ?_
       rw [occ_succ hi]
       unfold cupX
       congr 1
       ·rw [Bool.eq_iff_iff, List.contains_iff_mem, nfl_mem]; exact ⟨fun h => h.1, fun h => ⟨h, hv⟩⟩
       ·rw [Bool.eq_iff_iff, List.contains_iff_mem, nfl_mem]; exact ⟨fun h => h.1, fun h => ⟨h, hv⟩⟩
    ·simp only [if_true, Option.bind_some]
     exact ⟨_, rfl, rfl, all_false hi (by rw [hva, hd]; simp)⟩
   ·rw [if_pos ha]
    exact ⟨_, rfl, rfl, all_false hi (by rw [hva]; simp [ha])⟩
 ·obtain ⟨m, x⟩ := s
  obtain ⟨e1, e2, e3⟩ := hI
  dsimp only at e1 e3
  subst e1; subst e3
  simp only [f127_0]
  rw [if_neg (by omega)]
  exact ⟨_, rfl, List.all_eq_true.2 fun j hj => e2 j (List.mem_range.1 hj), by rw [List.take_of_length_le (Nat.le_refl _)]⟩
theorem nfl_count {X : Int → Bool} {n : Int} (h0 : 0 ≤ n) (h4 : n ≤ 4) (h : ∀ v, 0 ≤ v → v < 4 → X v = true → v < n) : decide (((nfl X).length : Int) = n) = ((List.range 4).all fun v => decide (n ≤ ((v : Nat) : Int)) || X ((v : Nat) : Int)) := by
 have h0' := h 0
 have h1 := h 1
 have h2 := h 2
 have h3 := h 3
 unfold nfl
 simp only [List.range, List.range.loop, List.flatMap_cons, List.flatMap_nil, List.append_nil, List.length_append, Int.ofNat_zero, Int.natCast_zero, Int.natCast_one, List.all_cons, List.all_nil]
 have e2 : ((2 : Nat) : Int) = 2 := rfl
 have e3 : ((3 : Nat) : Int) = 3 := rfl
 rw [e2, e3]
 generalize X 0 = a0 at *
 generalize X 1 = a1 at *
 generalize X 2 = a2 at *
 generalize X 3 = a3 at *
 have : n = 0 ∨ n = 1 ∨ n = 2 ∨ n = 3 ∨ n = 4 := by omega
 rcases this with rfl | rfl | rfl | rfl | rfl <;> revert h0' h1 h2 h3 <;> cases a0 <;> cases a1 <;> cases a2 <;> cases a3 <;> simp
theorem impQ (hl : Big l.length) (hq : FitsQ q) : f127 l q = some (vQuery l q) := by
 unfold f127 vQuery
 rw [impRels hl, Option.bind_some]
 cases hv : vRels l
 ·simp
 simp only [not_true_eq_false, if_false, impIn, Option.bind_some, Bool.true_and]
 cases hc : btw q.VariableCount 0 4
 ·simp
 cases hn : btw (q.Atoms.length : Int) 1 3
 ·simp
 have hc' := hc
 unfold btw at hc'; simp only [Bool.and_eq_true, decide_eq_true_eq] at hc'
 have hF := hq.2.2
 have eS := impSet (l := q.Free) (n := q.VariableCount.toNat) (by omega) (by omega)
 rw [Int.toNat_of_nonneg hc'.1] at eS
 simp only [not_true_eq_false, if_false, Option.bind_some, Bool.false_eq_true, Bool.true_and, eS]
 cases asc q.VariableCount q.Free
 ·simp
 simp only [not_true_eq_false, decide_false, if_false, Option.bind_some, Bool.false_eq_true, Bool.and_true]
 obtain ⟨o, ho, hQ⟩ := impAtoms hl hv hq hc'
 rw [ho]
 cases o with
 | inr b => obtain ⟨rfl, g⟩ := hQ; rw [g]; simp
 | inl m =>
  obtain ⟨g1, rfl⟩ := hQ
  rw [g1]
  simp only [Option.bind_some, Bool.true_and]
  congr 1
  refine nfl_count hc'.1 hc'.2 fun v h0 h4 hx => ?_
  unfold occ at hx
  obtain ⟨a, ha, hx⟩ := List.any_eq_true.1 hx
  obtain ⟨i, hi, rfl⟩ := List.mem_iff_getElem.1 ha
  have := List.all_eq_true.1 g1 i (List.mem_range.2 hi)
  rw [vAtom_get hi] at this
  unfold vAt at this
  simp only [Bool.and_eq_true] at this
  have := List.all_eq_true.1 this.2.2.1 v (by simpa using hx)
  unfold btw at this; simp only [Bool.and_eq_true, decide_eq_true_eq] at this
  omega
end
end Go.Proofs.YtabmomjfdondnaaH
namespace Go.Proofs.YtabmomjfdondnaaH
open Go
section
variable {l : List Relation} {q : Query}
structure VQ (l : List Relation) (q : Query) : Prop where
 big : Big l.length
 fits : FitsQ q
 rels : vRels l = true
 n1 : 1 ≤ q.Atoms.length
 n3 : q.Atoms.length ≤ 3
 terms : ∀ a ∈ q.Atoms, a.Terms.length ≤ 3
 free : In4 q.Free.contains
 free4 : q.Free.length ≤ 4
theorem asc_len {n : Int} {f : List Int} (h : asc n f = true) (hn : n ≤ 4) : In4 f.contains ∧ f.length ≤ 4 := by
 have hg := h
 unfold asc at hg
 have e : ∀ i (hi : i < f.length), (i : Int) ≤ f[i] ∧ f[i] ≤ n - 1 := by
  intro i
  induction i with
  | zero =>
   intro hi
   have := (good_of hg hi).1
   unfold btw at this; simp only [Bool.and_eq_true, decide_eq_true_eq] at this
   omega
  | succ i ih =>
   intro hi
   have := good_of hg hi
   have g1 := this.1
   have g2 := this.2 (by omega)
   unfold btw at g1; simp only [Bool.and_eq_true, decide_eq_true_eq, Nat.add_sub_cancel] at g1 g2
   have := ih (by omega)
   omega
 refine ⟨fun v hv => ?_, ?_⟩
 ·rw [List.contains_iff_mem] at hv
  obtain ⟨i, hi, rfl⟩ := List.mem_iff_getElem.1 hv
  have := e i hi
  unfold btw; simp; omega
 ·apply Classical.byContradiction
  intro hc
  have := e (f.length - 1) (by omega)
  omega
theorem vq_of (hl : Big l.length) (hq : FitsQ q) (h : vQuery l q = true) : VQ l q := by
 unfold vQuery at h
 simp only [Bool.and_eq_true] at h
 obtain ⟨h1, h2, h3, h4, _, h5⟩ := h
 unfold btw at h2 h3; simp only [Bool.and_eq_true, decide_eq_true_eq] at h2 h3
 obtain ⟨f1, f2⟩ := asc_len h5 (by omega)
 refine ⟨hl, hq, h1, by omega, by omega, fun a ha => ?_, f1, f2⟩
 obtain ⟨i, hi, rfl⟩ := List.mem_iff_getElem.1 ha
 have := List.all_eq_true.1 h4 i (List.mem_range.2 hi)
 rw [vAtom_get hi] at this
 unfold vAt at this
 simp only [Bool.and_eq_true, decide_eq_true_eq] at this
 have := vRels_arity h1 this.1
 omega
theorem kvars_in {a : Atom} : In4 (kvars l a).contains := by
 unfold kvars; split
 ·rw [avars_nfl]; exact nfl_in
 ·intro v hv; simp at hv
theorem avars_in {t : List Int} : In4 (avars t).contains := nfl_in
def atomAt (q : Query) (i : Nat) : Atom := q.Atoms.getD i default
theorem atom_get {i : Nat} (h : i < q.Atoms.length) : atomAt q i = q.Atoms[i] := by
 unfold atomAt; rw [List.getD_eq_getElem?_getD, List.getElem?_eq_getElem h]; rfl
def ruleA (l : List Relation) (q : Query) (skip : Int) (i : Nat) : Rule := ⟨fun X => decide (((i : Nat) : Int) ≠ skip) && (kvars l (atomAt q i)).all X, (avars (atomAt q i).Terms).contains⟩
def rulesA (l : List Relation) (q : Query) (skip : Int) : List Rule := (List.range q.Atoms.length).map (ruleA l q skip)
theorem rulesA_len {skip : Int} : (rulesA l q skip).length = q.Atoms.length := by simp [rulesA]
theorem rulesA_get {skip : Int} {i : Nat} (h : i < (rulesA l q skip).length) : (rulesA l q skip)[i] = ruleA l q skip i := by simp [rulesA]
theorem rulesA_mono {skip : Int} : ∀ r ∈ rulesA l q skip, r.mono := by
 intro r hr
 unfold rulesA at hr
 obtain ⟨i, _, rfl⟩ := List.mem_map.1 hr
 intro X Y h hc
 simp only [ruleA, Bool.and_eq_true] at hc ⊢
 exact ⟨hc.1, List.all_eq_true.2 fun v hv => h v (List.all_eq_true.1 hc.2 v hv)⟩
theorem rulesA_in {skip : Int} : ∀ r ∈ rulesA l q skip, In4 r.a := by
 intro r hr
 unfold rulesA at hr
 obtain ⟨i, _, rfl⟩ := List.mem_map.1 hr
 exact avars_in
def closX (l : List Relation) (q : Query) (skip : Int) (X : Int → Bool) : Int → Bool := cl (rulesA l q skip) X
theorem closX_in {skip : Int} {X : Int → Bool} (h : In4 X) : In4 (closX l q skip X) := passes_in h rulesA_in
def setOf (q : Query) (vars : List Int) : Int → Bool := (nfl (cupX vars.contains q.Free.contains)).contains
theorem setOf_in {vars : List Int} : In4 (setOf q vars) := nfl_in
theorem nfl_setOf {vars : List Int} : nfl (setOf q vars) = nfl (cupX vars.contains q.Free.contains) := nfl_idem
variable (V : VQ l q)
include V
theorem small {i : Nat} (hi : i < q.Atoms.length) : q.Atoms[i].Terms.length ≤ 3 := V.terms _ (List.getElem_mem hi)
theorem roundSpec {skip : Int} {X : Int → Bool} (hX : In4 X) : iter (f191_1 l q skip) (nfl X, 0) = some (nfl (pass (rulesA l q skip) X)) := by
 have := iter_steps (f := f191_1 l q skip) (fun i => (nfl (pass ((rulesA l q skip).take i) X), (i : Int))) q.Atoms.length (nfl (pass (rulesA l q skip) X)) (fun i hi => by
  have hl := rulesA_len (l := l) (q := q) (skip := skip)
  have n3 := V.n3
  rw [pass_take (by omega), rulesA_get]
  have hin : In4 (pass ((rulesA l q skip).take i) X) := pass_in hX fun r hr => rulesA_in r (List.mem_of_mem_take hr)
  generalize pass ((rulesA l q skip).take i) X = Y at hin
  have hs := small V hi
  have k4 := kvars_len (l := l) (a := q.Atoms[i])
  have a4 := avars_len (t := q.Atoms[i].Terms)
  have y4 := nfl_len (X := Y)
  simp only [f191_1]
  rw [if_pos (by omega), ix_nat hi, w64_succ (by omega)]
  unfold fire ruleA
  rw [atom_get hi]
  by_cases c : ((i : Nat) : Int) ≠ skip
  ·rw [if_pos c]
   simp only [c, decide_true, Bool.true_and, Option.bind_some]
   rw [specKV V.big (by omega), Option.bind_some, has14 (by omega) (by omega), Option.bind_some, nfl_has hin, specVars (by omega)]
   cases (kvars l q.Atoms[i]).all Y
   ·simp
   ·simp only [if_true, Option.bind_some]
    rw [bothS (by omega) (by omega), nfl_has hin]; simp [c]
  ·rw [if_neg c]
   simp [c]) (by
  simp only [f191_1]
  rw [if_neg (by omega), List.take_of_length_le (by rw [rulesA_len]; omega)])
 simp only [List.take_zero, pass, List.foldl_nil, Int.natCast_zero, Int.ofNat_zero] at this
 exact this
theorem roundImp {skip : Int} {X : Int → Bool} (hX : In4 X) : iter (f201_1 l q.Atoms skip) (nfl X, 0) = some (nfl (pass (rulesA l q skip) X)) := by
 have := iter_steps (f := f201_1 l q.Atoms skip) (fun i => (nfl (pass ((rulesA l q skip).take i) X), (i : Int))) q.Atoms.length (nfl (pass (rulesA l q skip) X)) (fun i hi => by
  have hl := rulesA_len (l := l) (q := q) (skip := skip)
  have n3 := V.n3
  rw [pass_take (by omega), rulesA_get]
  have hin : In4 (pass ((rulesA l q skip).take i) X) := pass_in hX fun r hr => rulesA_in r (List.mem_of_mem_take hr)
  generalize pass ((rulesA l q skip).take i) X = Y at hin
  have hs := small V hi
  have k4 := kvars_len (l := l) (a := q.Atoms[i])
  have a4 := avars_len (t := q.Atoms[i].Terms)
  have y4 := nfl_len (X := Y)
  simp only [f201_1]
  rw [if_pos (by omega), ix_nat hi, w64_succ (by omega)]
  unfold fire ruleA
  rw [atom_get hi]
  by_cases c : ((i : Nat) : Int) ≠ skip
  ·rw [Option.bind_some, if_pos c]
   simp only [c, decide_true, Bool.true_and, Option.bind_some]
   rw [impKV V.big (by omega), Option.bind_some, subset (by omega) (by omega), Option.bind_some, nfl_has hin, impVars (by omega)]
   have e : (kvars l q.Atoms[i]).all Y = (kvars l q.Atoms[i]).all Y := rfl
   cases (kvars l q.Atoms[i]).all Y
   ·simp
   ·simp only [if_true, Option.bind_some]
    rw [unionI (by omega) nfl_in avars_in, nfl_has hin]; simp [c]
  ·rw [Option.bind_some, if_neg c]
   simp [c]) (by
  simp only [f201_1]
  rw [if_neg (by omega), List.take_of_length_le (by rw [rulesA_len]; omega)])
 simp only [List.take_zero, pass, List.foldl_nil, Int.natCast_zero, Int.ofNat_zero] at this
 exact this
theorem closSpec {skip : Int} {vars : List Int} (hv : vQuery l q = true) (hb : Big vars.length) : f191 l q skip vars = some (nfl (closX l q skip (setOf q vars))) := by
 unfold f191
 have f4 := V.free4
 rw [specQ V.big V.fits, hv, Option.bind_some, if_neg (by simp), bothS hb (by omega), Option.bind_some, ← nfl_setOf]
 have := iter_steps (f := f191_0 l q skip) (fun i => (nfl (passes (rulesA l q skip) i (setOf q vars)), (i : Int))) q.Atoms.length (nfl (closX l q skip (setOf q vars))) (fun i hi => by
  have n3 := V.n3
  simp only [f191_0]
  rw [if_pos (by omega), roundSpec V (passes_in setOf_in rulesA_in), Option.bind_some, w64_succ (by omega)]; rfl) (by
  simp only [f191_0]
  rw [if_neg (by omega)]
  unfold closX cl
  rw [rulesA_len])
 simp only [passes, Int.natCast_zero, Int.ofNat_zero] at this
 erw [this]; rfl
theorem closImp {skip : Int} {vars : List Int} (hb : vars.length ≤ 12) (hi : In4 vars.contains) : f201 l q.Atoms skip vars = some (nfl (closX l q skip vars.contains)) := by
 unfold f201
 rw [unionI (by rw [List.length_nil]; omega) hi (fun v hv => by simp at hv), Option.bind_some]
 have e : nfl (cupX vars.contains ([] : List Int).contains) = nfl vars.contains := nfl_congr fun v _ => by simp [cupX]
 rw [e]
 refine Ens.eq (Q := fun r => r = nfl (closX l q skip vars.contains)) (Ens.bind (Q := fun r => r = nfl (closX l q skip vars.contains)) ?_ fun a h => Ens.of h) _ fun _ h => h
 refine iter_up (f := f201_0 l q.Atoms skip) 5 (fun j s => s = nfl (passes (rulesA l q skip) j vars.contains) ∧ j ≤ s.length) _ (fun j s hj ⟨h1, h2⟩ => ?_) (fun s ⟨h1, h2⟩ => ?_) _ ⟨rfl, by omega⟩
 ·subst h1
  have hin := passes_in (n := j) hi (rulesA_in (l := l) (q := q) (skip := skip))
  simp only [f201_0]
  rw [roundImp V hin, Option.bind_some]
  have hle := pass_le (L := rulesA l q skip) (X := passes (rulesA l q skip) j vars.contains)
  by_cases c : (nfl (pass (rulesA l q skip) (passes (rulesA l q skip) j vars.contains))).length ≤ (nfl (passes (rulesA l q skip) j vars.contains)).length
  ·have e := nfl_len_lt hle c (pass_in hin rulesA_in)
   rw [← e, if_pos rfl]
   exact ⟨_, rfl, by rw [passes_stop rulesA_mono e.symm]; rfl⟩
  ·rw [if_neg (by omega)]
   exact ⟨_, rfl, rfl, by omega⟩
 ·have := nfl_len (X := passes (rulesA l q skip) 5 vars.contains)
  rw [← h1] at this
  omega
end
end Go.Proofs.YtabmomjfdondnaaH
namespace Go.Proofs.YtabmomjfdondnaaH
open Go
section
variable {l : List Relation} {q : Query}
def plus (l : List Relation) (q : Query) (k : Nat) : Int → Bool := closX l q (k : Int) (setOf q (kvars l (atomAt q k)))
theorem plus_in {k : Nat} : In4 (plus l q k) := closX_in setOf_in
def outer (l : List Relation) (q : Query) (k i : Nat) : Int → Bool := fun v => (avars (atomAt q i).Terms).contains v && !plus l q k v
theorem outer_in {k i : Nat} : In4 (outer l q k i) := fun v hv => by
 unfold outer at hv; simp only [Bool.and_eq_true] at hv
 exact avars_in v hv.1
def ruleS (l : List Relation) (q : Query) (k i : Nat) : Rule := ⟨fun X => decide (i = k) || (avars (atomAt q i).Terms).any X, outer l q k i⟩
def rulesS (l : List Relation) (q : Query) (k : Nat) : List Rule := (List.range q.Atoms.length).map (ruleS l q k)
def ruleI (l : List Relation) (q : Query) (k i : Nat) : Rule := ⟨fun X => (nfl (outer l q k i)).any X, outer l q k i⟩
def rulesI (l : List Relation) (q : Query) (k : Nat) : List Rule := (List.range q.Atoms.length).map (ruleI l q k)
theorem rulesS_len {k : Nat} : (rulesS l q k).length = q.Atoms.length := by simp [rulesS]
theorem rulesI_len {k : Nat} : (rulesI l q k).length = q.Atoms.length := by simp [rulesI]
theorem rulesS_get {k i : Nat} (h : i < (rulesS l q k).length) : (rulesS l q k)[i] = ruleS l q k i := by simp [rulesS]
theorem rulesI_get {k i : Nat} (h : i < (rulesI l q k).length) : (rulesI l q k)[i] = ruleI l q k i := by simp [rulesI]
theorem any_le {t : List Int} {X Y : Int → Bool} (h : Le4 X Y) (ha : t.any X = true) : t.any Y = true := by
 obtain ⟨v, hv, hx⟩ := List.any_eq_true.1 ha
 exact List.any_eq_true.2 ⟨v, hv, h v hx⟩
theorem rulesS_mono {k : Nat} : ∀ r ∈ rulesS l q k, r.mono := by
 intro r hr
 obtain ⟨i, _, rfl⟩ := List.mem_map.1 hr
 intro X Y h hc
 simp only [ruleS, Bool.or_eq_true] at hc ⊢
 exact hc.imp id (any_le h)
theorem rulesI_mono {k : Nat} : ∀ r ∈ rulesI l q k, r.mono := by
 intro r hr
 obtain ⟨i, _, rfl⟩ := List.mem_map.1 hr
 intro X Y h hc
 exact any_le h hc
theorem rulesS_in {k : Nat} : ∀ r ∈ rulesS l q k, In4 r.a := by
 intro r hr
 obtain ⟨i, _, rfl⟩ := List.mem_map.1 hr
 exact outer_in
theorem rulesI_in {k : Nat} : ∀ r ∈ rulesI l q k, In4 r.a := by
 intro r hr
 obtain ⟨i, _, rfl⟩ := List.mem_map.1 hr
 exact outer_in
def none4 : Int → Bool := fun _ => false
theorem none4_in : In4 none4 := fun v hv => by cases hv
def reach (l : List Relation) (q : Query) (k : Nat) : Int → Bool := cl (rulesS l q k) none4
theorem reach_in {k : Nat} : In4 (reach l q k) := passes_in none4_in rulesS_in
theorem cl_clo {L : List Rule} (hm : ∀ r ∈ L, r.mono) {X : Int → Bool} : Clo L (cl L X) := passes_clo hm (Nat.le_refl _)
theorem reach_imp {k : Nat} (hk : k < q.Atoms.length) : cl (rulesI l q k) (outer l q k k) = reach l q k := by
 have hno : Le4 (cl (rulesI l q k) (outer l q k k)) (fun v => !plus l q k v) := passes_least rulesI_mono (fun r hr hc v hv => by
  obtain ⟨i, _, rfl⟩ := List.mem_map.1 hr
  simp only [ruleI, outer, Bool.and_eq_true] at hv
  exact hv.2) (fun v hv => by
  simp only [outer, Bool.and_eq_true] at hv; exact hv.2)
 refine cl_uniq rulesS_mono ?_ (fun v hv => by cases hv) (fun Z hz _ => ?_)
 ·intro r hr hc
  obtain ⟨i, hi, rfl⟩ := List.mem_map.1 hr
  simp only [ruleS, Bool.or_eq_true, decide_eq_true_eq] at hc
  rcases hc with rfl | hc
  ·exact passes_le
  ·refine cl_clo (L := rulesI l q k) rulesI_mono (X := outer l q k k) (ruleI l q k i) (List.mem_map.2 ⟨i, hi, rfl⟩) ?_
   obtain ⟨v, hv, hx⟩ := List.any_eq_true.1 hc
   have h1 := hno v hx
   have hv' : (avars (atomAt q i).Terms).contains v = true := by rw [List.contains_iff_mem]; exact hv
   refine List.any_eq_true.2 ⟨v, nfl_mem.2 ⟨?_, avars_in v hv'⟩, hx⟩
   unfold outer; rw [hv']; exact h1
 ·refine passes_least rulesI_mono (fun r hr hc => ?_) ?_
  ·obtain ⟨i, hi, rfl⟩ := List.mem_map.1 hr
   refine hz (ruleS l q k i) (List.mem_map.2 ⟨i, hi, rfl⟩) ?_
   simp only [ruleS, Bool.or_eq_true]
   obtain ⟨v, hv, hx⟩ := List.any_eq_true.1 hc
   have hv := (nfl_mem.1 hv).1
   unfold outer at hv; simp only [Bool.and_eq_true] at hv
   exact .inr (List.any_eq_true.2 ⟨v, by simpa using hv.1, hx⟩)
  ·exact hz (ruleS l q k k) (List.mem_map.2 ⟨k, List.mem_range.2 hk, rfl⟩) (by simp [ruleS])
theorem fireS {k i : Nat} {Y : Int → Bool} : fire Y (ruleS l q k i) = if (decide (i = k) || (avars (atomAt q i).Terms).any Y) = true then cupX Y (outer l q k i) else Y := rfl
theorem fireI {k i : Nat} {Y : Int → Bool} : fire Y (ruleI l q k i) = if (nfl (outer l q k i)).any Y = true then cupX Y (outer l q k i) else Y := rfl
theorem keyClos {k : Nat} (V : VQ l q) (hv : vQuery l q = true) (hk : k < q.Atoms.length) : f187 l q (k : Int) = some (nfl (plus l q k)) := by
 unfold f187
 have n3 := V.n3
 have hb : btw (k : Int) 0 (w64 ((q.Atoms.length : Int) - 1)) = true := by rw [w64_of (by omega)]; unfold btw; simp; omega
 rw [specQ V.big V.fits, hv, Option.bind_some, if_neg (by simp), specIn, hb]
 simp only [Option.bind_some, not_true_eq_false, decide_false, Bool.false_eq_true, if_false]
 have hs := V.terms _ (List.getElem_mem hk)
 have k4 := kvars_len (l := l) (a := q.Atoms[k])
 rw [ix_nat hk, Option.bind_some, specKV V.big (by omega), Option.bind_some, closSpec V hv (by omega)]
 unfold plus; rw [atom_get hk]; rfl
theorem attRound {k : Nat} {X : Int → Bool} (V : VQ l q) (hk : k < q.Atoms.length) (hX : In4 X) : iter (f167_1 q (k : Int) (nfl (plus l q k))) (nfl X, 0) = some (nfl (pass (rulesS l q k) X)) := by
 have := iter_steps (f := f167_1 q (k : Int) (nfl (plus l q k))) (fun i => (nfl (pass ((rulesS l q k).take i) X), (i : Int))) q.Atoms.length (nfl (pass (rulesS l q k) X)) (fun i hi => by
  have hl := rulesS_len (l := l) (q := q) (k := k)
  have n3 := V.n3
  rw [pass_take (by omega), rulesS_get]
  have hin : In4 (pass ((rulesS l q k).take i) X) := pass_in hX fun r hr => rulesS_in r (List.mem_of_mem_take hr)
  generalize pass ((rulesS l q k).take i) X = Y at hin
  have hs := V.terms _ (List.getElem_mem hi)
  have a4 := avars_len (t := q.Atoms[i].Terms)
  have y4 := nfl_len (X := Y)
  have p4 := nfl_len (X := plus l q k)
  simp only [f167_1]
  rw [if_pos (by omega), ix_nat hi, w64_succ (by omega), Option.bind_some, specVars (by omega), Option.bind_some]
  rw [fireS]
  unfold outer
  rw [atom_get hi]
  generalize hA : avars q.Atoms[i].Terms = A at a4
  have inA : In4 A.contains := by rw [← hA]; exact avars_in
  rw [iter_foldl A (fun b v => b || Y v) id (fun j hj b => by
   simp only [f167_2]
   rw [if_pos (by omega), ix_nat hj, w64_succ (by omega), Option.bind_some, hasI (by omega), nfl_has hin]
   cases b <;> simp) (fun b => by
   simp only [f167_2]
   rw [if_neg (by omega)]; rfl), foldl_any, Option.bind_some]
  dsimp only [id]
  have ek : decide (((i : Nat) : Int) = (k : Int)) = decide (i = k) := decide_eq_decide.2 ⟨fun h => by omega, fun h => by omega⟩
  rw [ek]
  cases hc : (decide (i = k) || A.any Y)
  ·have : iter (f167_3 (nfl (plus l q k)) A false) (nfl Y, 0) = some (nfl Y) := iter_steps (fun _ => (nfl Y, 0)) 0 _ (fun i hi => by omega) (by
    simp only [f167_3]
    by_cases c : (0 : Int) < A.length
    ·rw [if_pos c]; rfl
    ·rw [if_neg c]; rfl)
   rw [this]; simp
  ·have := iter_steps (f := f167_3 (nfl (plus l q k)) A true) (fun j => (nfl (fun v => Y v || ((A.take j).contains v && !plus l q k v)), (j : Int))) A.length (nfl (cupX Y fun v => A.contains v && !plus l q k v)) (fun j hj => by
    have z4 := nfl_len (X := fun v => Y v || ((A.take j).contains v && !plus l q k v))
    have zin : In4 (fun v => Y v || ((A.take j).contains v && !plus l q k v)) := fun v hv => by
     simp only [Bool.or_eq_true, Bool.and_eq_true] at hv
     rcases hv with hv | hv
     ·exact hin v hv
     ·exact inA v (by rw [List.contains_iff_mem] at hv ⊢; exact List.mem_of_mem_take hv.1)
    simp only [f167_3]
    rw [if_pos (by omega), Option.bind_some, if_pos rfl, ix_nat hj, Option.bind_some, hasI (by omega), nfl_has plus_in, Option.bind_some, w64_succ (by omega)]
    cases hp : plus l q k A[j]
    ·simp only [Bool.false_eq_true, not_false_eq_true, if_true]
     rw [bothS (by omega) (by simp), nfl_has zin]
     simp only [Option.bind_some]
     congr 3
     refine nfl_congr fun v _ => ?_
     unfold cupX
     rw [has_succ hj]
     by_cases e : v = A[j]
     ·subst e; simp [hp]
     ·simp [e]
    ·simp only [not_true_eq_false, if_false, Option.bind_some]
     congr 3
     refine nfl_congr fun v _ => ?_
     rw [has_succ hj]
     by_cases e : v = A[j]
     ·subst e; simp [hp]
     ·simp [e]) (by
    simp only [f167_3]
    rw [if_neg (by omega), List.take_of_length_le (Nat.le_refl _)]; rfl)
   have e0 : nfl (fun v => Y v || ((A.take 0).contains v && !plus l q k v)) = nfl Y := nfl_congr fun v _ => by simp
   simp only [e0, Int.natCast_zero, Int.ofNat_zero] at this
   rw [this]; simp) (by
  simp only [f167_1]
  rw [if_neg (by omega), List.take_of_length_le (by rw [rulesS_len]; omega)])
 simp only [List.take_zero, pass, List.foldl_nil, Int.natCast_zero, Int.ofNat_zero] at this
 exact this
theorem attSpec {k : Nat} (V : VQ l q) (hv : vQuery l q = true) (hk : k < q.Atoms.length) : f167 l q (k : Int) = some (nfl (reach l q k)) := by
 unfold f167
 have n3 := V.n3
 have hb : btw (k : Int) 0 (w64 ((q.Atoms.length : Int) - 1)) = true := by rw [w64_of (by omega)]; unfold btw; simp; omega
 rw [specQ V.big V.fits, hv, Option.bind_some, if_neg (by simp), specIn, hb]
 simp only [Option.bind_some, not_true_eq_false, decide_false, Bool.false_eq_true, if_false]
 rw [keyClos V hv hk, Option.bind_some]
 have := iter_steps (f := f167_0 q (k : Int) (nfl (plus l q k))) (fun i => (nfl (passes (rulesS l q k) i none4), (i : Int))) (q.Atoms.length + 1) (nfl (reach l q k)) (fun i hi => by
  simp only [f167_0]
  rw [if_pos (by omega), attRound V hk (passes_in none4_in rulesS_in), Option.bind_some, w64_succ (by omega)]; rfl) (by
  simp only [f167_0]
  rw [if_neg (by omega), passes_cl rulesS_mono (by rw [rulesS_len]; omega)]; rfl)
 simp only [passes, Int.natCast_zero, Int.ofNat_zero] at this
 have e0 : nfl none4 = [] := nfl_nil
 rw [e0] at this
 rw [this]; rfl
theorem withoutI {a b : List Int} (ha : a.length ≤ 1048576) (hb : Big b.length) : f141 a b = some (a.filter fun v => !b.contains v) := by
 unfold f141
 rw [iter_flat a (fun v => if (!b.contains v) = true then [v] else []) id (fun i hi => by
  have el : ((a.take i).flatMap fun v => if (!b.contains v) = true then [v] else []).length ≤ i := by
   have := take_flat_le (l := a) (i := i) (g := fun v => if (!b.contains v) = true then [v] else []) (m := 1) (fun a => by split <;> simp)
   omega
  generalize ((a.take i).flatMap fun v => if (!b.contains v) = true then [v] else []) = out at el ⊢
  simp only [f141_0]
  rw [if_pos (by omega), ix_nat hi, Option.bind_some, containsI hb, Option.bind_some, w64_succ (by omega)]
  cases b.contains a[i]
  ·simp only [Bool.false_eq_true, not_false_eq_true, if_true, Bool.not_false]
   rw [app_fits (by simp; omega)]; rfl
  ·simp) (by
  simp only [f141_0]
  rw [if_neg (by omega)]; rfl)]
 rw [Option.bind_some]
 congr 1
 dsimp only [id]
 clear ha
 induction a with
 | nil => rfl
 | cons x a ih =>
  rw [List.flatMap_cons, ih, List.filter_cons]
  split <;> simp
theorem nfl_filter {X : Int → Bool} {p : Int → Bool} : (nfl X).filter p = nfl (fun v => X v && p v) := by
 refine up_ext (nfl_up.filter _) nfl_up fun y => ?_
 rw [List.mem_filter, nfl_mem, nfl_mem, Bool.and_eq_true]
 exact ⟨fun h => ⟨⟨h.1.1, h.2⟩, h.1.2⟩, fun h => ⟨⟨h.1.1, h.2⟩, h.1.2⟩⟩
theorem filter_lt {a : List Int} {p : Int → Bool} : decide (((a.filter fun v => !p v).length : Int) < a.length) = a.any p := by
 rw [Bool.eq_iff_iff, decide_eq_true_eq]
 rw [show (((a.filter fun v => !p v).length : Int) < a.length) ↔ (a.filter fun v => !p v).length < a.length by omega]
 rw [List.length_filter_lt_length_iff_exists, List.any_eq_true]
 constructor
 ·rintro ⟨v, h1, h2⟩; exact ⟨v, h1, by simpa using h2⟩
 ·rintro ⟨v, h1, h2⟩; exact ⟨v, h1, by simpa using h2⟩
theorem outer_nfl {k i : Nat} : (avars (atomAt q i).Terms).filter (fun v => !plus l q k v) = nfl (outer l q k i) := by
 rw [avars_nfl, nfl_filter]
 refine nfl_congr fun v hv => ?_
 unfold outer
 congr 1
 rw [Bool.eq_iff_iff, List.contains_iff_mem, List.contains_iff_mem, avars_nfl, nfl_mem, List.contains_iff_mem]
 exact ⟨fun h => ⟨h, hv⟩, fun h => h.1⟩
theorem attRoundI {k : Nat} {X : Int → Bool} (V : VQ l q) (hX : In4 X) : iter (f190_1 q.Atoms (nfl (plus l q k))) (nfl X, 0) = some (nfl (pass (rulesI l q k) X)) := by
 have := iter_steps (f := f190_1 q.Atoms (nfl (plus l q k))) (fun i => (nfl (pass ((rulesI l q k).take i) X), (i : Int))) q.Atoms.length (nfl (pass (rulesI l q k) X)) (fun i hi => by
  have hl := rulesI_len (l := l) (q := q) (k := k)
  have n3 := V.n3
  rw [pass_take (by omega), rulesI_get]
  have hin : In4 (pass ((rulesI l q k).take i) X) := pass_in hX fun r hr => rulesI_in r (List.mem_of_mem_take hr)
  generalize pass ((rulesI l q k).take i) X = Y at hin
  have hs := V.terms _ (List.getElem_mem hi)
  have a4 := avars_len (t := q.Atoms[i].Terms)
  have y4 := nfl_len (X := Y)
  have p4 := nfl_len (X := plus l q k)
  have o4 := nfl_len (X := outer l q k i)
  simp only [f190_1]
  have eo := outer_nfl (l := l) (q := q) (k := k) (i := i)
  rw [atom_get hi] at eo
  rw [if_pos (by omega), ix_nat hi, w64_succ (by omega), Option.bind_some, impVars (by omega), Option.bind_some, withoutI (by omega) (by omega), nfl_has plus_in, eo, Option.bind_some, withoutI (by omega) (by omega), nfl_has hin, Option.bind_some]
  have hlt := filter_lt (a := nfl (outer l q k i)) (p := Y)
  rw [fireI]
  cases hc : (nfl (outer l q k i)).any Y
  ·rw [hc] at hlt
   rw [if_neg (by simpa using hlt)]; rfl
  ·rw [hc] at hlt
   rw [if_pos (by simpa using hlt), unionI (by omega) nfl_in nfl_in, nfl_has hin, nfl_has outer_in]; rfl) (by
  simp only [f190_1]
  rw [if_neg (by omega), List.take_of_length_le (by rw [rulesI_len]; omega)])
 simp only [List.take_zero, pass, List.foldl_nil, Int.natCast_zero, Int.ofNat_zero] at this
 exact this
theorem attImp {k : Nat} (V : VQ l q) (hk : k < q.Atoms.length) : f190 l q.Atoms q.Free (k : Int) = some (nfl (reach l q k)) := by
 unfold f190
 have n3 := V.n3
 have f4 := V.free4
 have hs := V.terms _ (List.getElem_mem hk)
 have k4 := kvars_len (l := l) (a := q.Atoms[k])
 have a4 := avars_len (t := q.Atoms[k].Terms)
 have p4 := nfl_len (X := plus l q k)
 have ef : [q.Free, kvars l q.Atoms[k]].flatten = q.Free ++ kvars l q.Atoms[k] := by simp
 rw [ix_nat hk, Option.bind_some, impKV V.big (by omega), Option.bind_some, concatN (by simp) (by rw [ef, List.length_append]; omega), ef, Option.bind_some]
 rw [closImp V (by rw [List.length_append]; omega) (fun v hv => by
  rw [List.contains_iff_mem, List.mem_append] at hv
  rcases hv with hv | hv
  ·exact V.free v (by rw [List.contains_iff_mem]; exact hv)
  ·exact kvars_in v (by rw [List.contains_iff_mem]; exact hv))]
 have e : (q.Free ++ kvars l q.Atoms[k]).contains = setOf q (kvars l (atomAt q k)) := by
  funext v
  unfold setOf
  rw [atom_get hk, Bool.eq_iff_iff, List.contains_iff_mem, List.mem_append, List.contains_iff_mem, nfl_mem]
  unfold cupX
  simp only [Bool.or_eq_true, List.contains_iff_mem]
  constructor
  ·rintro (h | h)
   ·exact ⟨.inr h, V.free v (by rw [List.contains_iff_mem]; exact h)⟩
   ·exact ⟨.inl h, kvars_in v (by rw [List.contains_iff_mem]; exact h)⟩
  ·rintro ⟨h | h, _⟩
   ·exact .inr h
   ·exact .inl h
 rw [e]
 change ((some (nfl (plus l q k))).bind _) = _
 have eo := outer_nfl (l := l) (q := q) (k := k) (i := k)
 rw [atom_get hk] at eo
 rw [Option.bind_some, impVars (by omega), Option.bind_some, withoutI (by omega) (by omega), nfl_has plus_in, eo, Option.bind_some, ← reach_imp hk]
 refine Ens.eq (Q := fun r => r = nfl (cl (rulesI l q k) (outer l q k k))) (Ens.bind (Q := fun r => r = nfl (cl (rulesI l q k) (outer l q k k))) ?_ fun a h => Ens.of h) _ fun _ h => h
 refine iter_up (f := f190_0 q.Atoms (nfl (plus l q k))) 5 (fun j s => s = nfl (passes (rulesI l q k) j (outer l q k k)) ∧ j ≤ s.length) _ (fun j s hj ⟨h1, h2⟩ => ?_) (fun s ⟨h1, h2⟩ => ?_) _ ⟨rfl, by omega⟩
 ·subst h1
  have hin := passes_in (n := j) (outer_in (l := l) (q := q) (k := k) (i := k)) (rulesI_in (l := l) (q := q) (k := k))
  simp only [f190_0]
  rw [attRoundI V hin, Option.bind_some]
  have hle := pass_le (L := rulesI l q k) (X := passes (rulesI l q k) j (outer l q k k))
  by_cases c : (nfl (pass (rulesI l q k) (passes (rulesI l q k) j (outer l q k k)))).length ≤ (nfl (passes (rulesI l q k) j (outer l q k k))).length
  ·have e := nfl_len_lt hle c (pass_in hin rulesI_in)
   rw [← e, if_pos rfl]
   exact ⟨_, rfl, by rw [passes_stop rulesI_mono e.symm]⟩
  ·rw [if_neg (by omega)]
   exact ⟨_, rfl, rfl, by omega⟩
 ·have := nfl_len (X := passes (rulesI l q k) 5 (outer l q k k))
  rw [← h1] at this
  omega
def att (l : List Relation) (q : Query) (i k : Nat) : Bool := decide (i ≠ k) && (avars (atomAt q k).Terms).any (reach l q i)
def hAtt (l : List Relation) (q : Query) (i k : Int) : Bool := vQuery l q && (btw i 0 (q.Atoms.length - 1) && (btw k 0 (q.Atoms.length - 1) && att l q i.toNat k.toNat))
theorem btw_nat {i : Int} {n : Nat} (h : btw i 0 ((n : Int) - 1) = true) : ∃ k : Nat, i = k ∧ k < n := by
 unfold btw at h; simp only [Bool.and_eq_true, decide_eq_true_eq] at h
 exact ⟨i.toNat, by omega, by omega⟩
theorem hasSpec {i k : Int} (hl : Big l.length) (hq : FitsQ q) : f125 l q i k = some (hAtt l q i k) := by
 unfold f125 hAtt
 rw [specQ hl hq, Option.bind_some]
 have hn := hq.1
 cases hv : vQuery l q
 ·simp
 have V := vq_of hl hq hv
 rw [w64_of (by omega)]
 simp only [specIn, not_true_eq_false, if_false, Option.bind_some, Bool.true_and]
 cases hi : btw i 0 ((q.Atoms.length : Int) - 1)
 ·simp
 cases hk : btw k 0 ((q.Atoms.length : Int) - 1)
 ·simp
 obtain ⟨i, rfl, hi'⟩ := btw_nat hi
 obtain ⟨k, rfl, hk'⟩ := btw_nat hk
 simp only [not_true_eq_false, if_false, Option.bind_some, Int.toNat_natCast, Bool.true_and]
 unfold att
 have ek : decide (((i : Nat) : Int) = (k : Int)) = decide (i = k) := decide_eq_decide.2 ⟨fun h => by omega, fun h => by omega⟩
 rw [ek]
 by_cases c : i = k
 ·simp [c]
 have hs := V.terms _ (List.getElem_mem hk')
 have a4 := avars_len (t := q.Atoms[k].Terms)
 have r4 := nfl_len (X := reach l q i)
 simp only [c, decide_false, Bool.false_eq_true, if_false]
 rw [attSpec V hv hi', Option.bind_some, ix_nat hk', Option.bind_some, specVars (by omega), Option.bind_some, atom_get hk']
 rw [iter_ex (avars q.Atoms[k].Terms) (reach l q i) true (fun j hj => by
  simp only [f125_0]
  rw [if_pos (by omega), ix_nat hj, Option.bind_some, hasI (by omega), nfl_has reach_in, w64_succ (by omega)]
  cases reach l q i (avars q.Atoms[k].Terms)[j] <;> simp) (by
  simp only [f125_0]
  rw [if_neg (by omega)])]
 cases (avars q.Atoms[k].Terms).any (reach l q i) <;> simp [c]
theorem hasImp {i k : Int} (hl : Big l.length) (hq : FitsQ q) : f128 l q i k = some (hAtt l q i k) := by
 unfold f128 hAtt
 rw [impQ hl hq, Option.bind_some]
 have hn := hq.1
 cases hv : vQuery l q
 ·simp
 have V := vq_of hl hq hv
 rw [w64_of (by omega)]
 simp only [impIn, if_true, Option.bind_some, Bool.true_and]
 cases hi : btw i 0 ((q.Atoms.length : Int) - 1)
 ·simp
 cases hk : btw k 0 ((q.Atoms.length : Int) - 1)
 ·simp
 obtain ⟨i, rfl, hi'⟩ := btw_nat hi
 obtain ⟨k, rfl, hk'⟩ := btw_nat hk
 simp only [if_true, Option.bind_some, Int.toNat_natCast, Bool.true_and]
 unfold f170 att
 have hs := V.terms _ (List.getElem_mem hk')
 have a4 := avars_len (t := q.Atoms[k].Terms)
 have r4 := nfl_len (X := reach l q i)
 rw [ix_nat hk', Option.bind_some, impVars (by omega), Option.bind_some, atom_get hk']
 by_cases c : i = k
 ·simp [c]
 rw [if_pos (by omega), attImp V hi', Option.bind_some, withoutI (by omega) (by omega), nfl_has reach_in, Option.bind_some, filter_lt]
 simp [c]
end
end Go.Proofs.YtabmomjfdondnaaH
namespace Go.Proofs.YtabmomjfdondnaaH
open Go
def bl (n : Nat) (X : Int → Bool) : List Bool := (List.range n).map fun v => X ((v : Nat) : Int)
theorem bl_len {n : Nat} {X : Int → Bool} : (bl n X).length = n := by simp [bl]
theorem bl_get {n : Nat} {X : Int → Bool} {v : Nat} (h : v < n) : ix (bl n X) ((v : Nat) : Int) = some (X ((v : Nat) : Int)) := by
 rw [ix_nat (by rw [bl_len]; exact h)]; simp [bl]
theorem bl_congr {n : Nat} {X Y : Int → Bool} (h : ∀ v : Nat, v < n → X ((v : Nat) : Int) = Y ((v : Nat) : Int)) : bl n X = bl n Y := by
 unfold bl
 refine List.map_congr_left fun v hv => h v (List.mem_range.1 hv)
theorem bl_set {n : Nat} {X : Int → Bool} {b : Nat} : (bl n X).set b true = bl n (fun v => X v || decide (v = ((b : Nat) : Int))) := by
 apply List.ext_getElem
 ·simp [bl]
 ·intro i h1 h2
  rw [List.getElem_set]
  simp only [bl, List.getElem_map, List.getElem_range]
  by_cases e : b = i
  ·subst e; simp
  ·rw [if_neg e]
   have : ¬ ((i : Nat) : Int) = ((b : Nat) : Int) := by omega
   simp [this]
theorem bl_none {n : Nat} : List.replicate n false = bl n none4 := by
 unfold bl none4
 apply List.ext_getElem
 ·simp
 ·intro i h1 h2; simp
theorem nodup_le : ∀ {n : Nat} {H : List Int}, H.Nodup → (∀ v ∈ H, 0 ≤ v ∧ v < n) → H.length ≤ n
 | 0, [], _, _ => by simp
 | 0, a :: H, _, h => by have := h a (by simp); omega
 | n + 1, H, hd, h => by
  have h1 : (H.erase ((n : Nat) : Int)).length ≤ n := nodup_le (hd.erase _) fun v hv => by
   have h2 := h v (List.mem_of_mem_erase hv)
   have h3 := (List.Nodup.mem_erase_iff hd).1 hv
   have := h3.1
   omega
  have h2 := List.length_erase (l := H) (a := ((n : Nat) : Int))
  split at h2 <;> omega
section
variable {l : List Relation} {q : Query}
def ruleP (l : List Relation) (q : Query) (i a : Nat) : Rule := ⟨fun X => decide (a = i) || X ((a : Nat) : Int), fun b => hAtt l q ((a : Nat) : Int) b⟩
def rulesP (l : List Relation) (q : Query) (i : Nat) : List Rule := (List.range q.Atoms.length).map (ruleP l q i)
theorem rulesP_len {i : Nat} : (rulesP l q i).length = q.Atoms.length := by simp [rulesP]
theorem rulesP_get {i k : Nat} (h : k < (rulesP l q i).length) : (rulesP l q i)[k] = ruleP l q i k := by simp [rulesP]
theorem rulesP_mono {i : Nat} : ∀ r ∈ rulesP l q i, r.mono := by
 intro r hr
 obtain ⟨a, _, rfl⟩ := List.mem_map.1 hr
 intro X Y h hc
 simp only [ruleP, Bool.or_eq_true] at hc ⊢
 exact hc.imp id (h _)
theorem fireP {i a : Nat} {Y : Int → Bool} : fire Y (ruleP l q i a) = if (decide (a = i) || Y ((a : Nat) : Int)) = true then cupX Y (fun b => hAtt l q ((a : Nat) : Int) b) else Y := rfl
def pathTo (l : List Relation) (q : Query) (i : Nat) : Int → Bool := cl (rulesP l q i) none4
def hPath (l : List Relation) (q : Query) (i k : Int) : Bool := vQuery l q && (btw i 0 (q.Atoms.length - 1) && (btw k 0 (q.Atoms.length - 1) && pathTo l q i.toNat k))
theorem hAtt_self {a : Int} : hAtt l q a a = false := by unfold hAtt att; simp
theorem hAtt_rng {a b : Int} (h : hAtt l q a b = true) : ∃ k : Nat, b = k ∧ k < q.Atoms.length := by
 unfold hAtt at h; simp only [Bool.and_eq_true] at h
 exact btw_nat h.2.2.1
theorem pathInner {i a : Nat} {X : Int → Bool} (V : VQ l q) (ha : a < q.Atoms.length) : iter (f56_2 l q (i : Int) (a : Int)) (bl q.Atoms.length X, 0) = some (bl q.Atoms.length (fire X (ruleP l q i a))) := by
 have n3 := V.n3
 have := iter_steps (f := f56_2 l q (i : Int) (a : Int)) (fun b => (bl q.Atoms.length (fun v => X v || (decide (v < ((b : Nat) : Int)) && ((decide (a = i) || X ((a : Nat) : Int)) && hAtt l q ((a : Nat) : Int) v))), (b : Int))) q.Atoms.length (bl q.Atoms.length (fire X (ruleP l q i a))) (fun b hb => by
  simp only [f56_2]
  rw [if_pos (by omega), bl_get ha, w64_succ (by omega)]
  simp only [hasSpec V.big V.fits, Option.bind_some]
  rw [hAtt_self]
  have e1 : (if ((a : Nat) : Int) = (i : Int) then some (hAtt l q ((a : Nat) : Int) ((b : Nat) : Int)) else (if (X ((a : Nat) : Int) || (decide (((a : Nat) : Int) < ((b : Nat) : Int)) && ((decide (a = i) || X ((a : Nat) : Int)) && false))) = true then some (hAtt l q ((a : Nat) : Int) ((b : Nat) : Int)) else some false).bind fun x => some x) = some ((decide (a = i) || X ((a : Nat) : Int)) && hAtt l q ((a : Nat) : Int) ((b : Nat) : Int)) := by
   by_cases c : a = i
   ·rw [if_pos (by omega)]; simp [c]
   ·rw [if_neg (by omega)]
    cases X ((a : Nat) : Int) <;> simp [c]
  rw [e1, Option.bind_some]
  cases hc : ((decide (a = i) || X ((a : Nat) : Int)) && hAtt l q ((a : Nat) : Int) ((b : Nat) : Int))
  ·simp only [Bool.false_eq_true, if_false, Option.bind_some]
   congr 3
   refine bl_congr fun v hv => ?_
   by_cases e : v = b
   ·subst e
    rw [hc]; simp
   ·have : decide (((v : Nat) : Int) < ((b : Nat) : Int)) = decide (((v : Nat) : Int) < ((b + 1 : Nat) : Int)) := decide_eq_decide.2 ⟨fun h => by omega, fun h => by omega⟩
    rw [this]
  ·simp only [if_true]
   rw [bl_get hb, Option.bind_some, Option.bind_some, Int.toNat_natCast, bl_set]
   congr 3
   refine bl_congr fun v hv => ?_
   by_cases e : v = b
   ·subst e
    rw [hc]
    have h1 : decide (((v : Nat) : Int) < ((v + 1 : Nat) : Int)) = true := decide_eq_true (by omega)
    have h2 : decide (((v : Nat) : Int) = ((v : Nat) : Int)) = true := decide_eq_true rfl
    rw [h1, h2]; simp
   ·have h1 : decide (((v : Nat) : Int) < ((b : Nat) : Int)) = decide (((v : Nat) : Int) < ((b + 1 : Nat) : Int)) := decide_eq_decide.2 ⟨fun h => by omega, fun h => by omega⟩
    have h2 : decide (((v : Nat) : Int) = ((b : Nat) : Int)) = false := decide_eq_false (by omega)
    rw [h1, h2, Bool.or_false]) (by
  simp only [f56_2]
  rw [if_neg (by omega)]
  congr 2
  refine bl_congr fun v hv => ?_
  rw [fireP]
  have : ((v : Nat) : Int) < ((q.Atoms.length : Nat) : Int) := by omega
  cases decide (a = i) || X ((a : Nat) : Int)
  ·simp
  ·simp [this, cupX])
 have e0 : bl q.Atoms.length (fun v => X v || (decide (v < ((0 : Nat) : Int)) && ((decide (a = i) || X ((a : Nat) : Int)) && hAtt l q ((a : Nat) : Int) v))) = bl q.Atoms.length X := bl_congr fun v _ => by
  have : decide (((v : Nat) : Int) < ((0 : Nat) : Int)) = false := decide_eq_false (by omega)
  rw [this]; simp
 rw [e0] at this
 exact this
theorem pathRound {i : Nat} {X : Int → Bool} (V : VQ l q) : iter (f56_1 l q (i : Int)) (bl q.Atoms.length X, 0) = some (bl q.Atoms.length (pass (rulesP l q i) X)) := by
 have n3 := V.n3
 have := iter_steps (f := f56_1 l q (i : Int)) (fun a => (bl q.Atoms.length (pass ((rulesP l q i).take a) X), (a : Int))) q.Atoms.length (bl q.Atoms.length (pass (rulesP l q i) X)) (fun a ha => by
  simp only [f56_1]
  rw [if_pos (by omega), pathInner V ha, Option.bind_some, w64_succ (by omega), pass_take (by rw [rulesP_len]; exact ha), rulesP_get]) (by
  simp only [f56_1]
  rw [if_neg (by omega), List.take_of_length_le (by rw [rulesP_len]; omega)])
 simp only [List.take_zero, pass, List.foldl_nil, Int.natCast_zero, Int.ofNat_zero] at this
 exact this
theorem pathSpec {i k : Int} (hl : Big l.length) (hq : FitsQ q) : f56 l q i k = some (hPath l q i k) := by
 unfold f56 hPath
 rw [specQ hl hq, Option.bind_some]
 have hn := hq.1
 cases hv : vQuery l q
 ·simp
 have V := vq_of hl hq hv
 rw [w64_of (by omega)]
 simp only [specIn, not_true_eq_false, if_false, Option.bind_some, Bool.true_and]
 cases hi : btw i 0 ((q.Atoms.length : Int) - 1)
 ·simp
 cases hk : btw k 0 ((q.Atoms.length : Int) - 1)
 ·simp
 obtain ⟨i, rfl, hi'⟩ := btw_nat hi
 obtain ⟨k, rfl, hk'⟩ := btw_nat hk
 simp only [not_true_eq_false, if_false, Option.bind_some, Int.toNat_natCast, Bool.true_and, decide_false, Bool.false_eq_true]
 rw [mkl_ok (by omega) (by omega) (by omega), Option.bind_some, Int.toNat_natCast, bl_none]
 have := iter_steps (f := f56_0 l q (i : Int)) (fun j => (bl q.Atoms.length (passes (rulesP l q i) j none4), (j : Int))) (q.Atoms.length + 1) (bl q.Atoms.length (pathTo l q i)) (fun j hj => by
  simp only [f56_0]
  rw [if_pos (by omega), pathRound V, Option.bind_some, w64_succ (by omega)]; rfl) (by
  simp only [f56_0]
  rw [if_neg (by omega), passes_cl rulesP_mono (by rw [rulesP_len]; omega)]; rfl)
 simp only [passes, Int.natCast_zero, Int.ofNat_zero] at this
 erw [this]
 rw [Option.bind_some, bl_get hk']; rfl
theorem bfsRound {i j : Nat} {H : List Int} {v : Int} (V : VQ l q) (hj : j < (((i : Nat) : Int) :: H).length) (hv : v = ((i : Nat) : Int) ∨ pathTo l q i v = true)
  (hvr : ∃ a : Nat, v = a ∧ a < q.Atoms.length) (hd : H.Nodup) (hr : ∀ x ∈ H, 0 ≤ x ∧ x < q.Atoms.length) (hs : ∀ x ∈ H, pathTo l q i x = true) :
  Ens (iter (f58_1 l q v) (bl q.Atoms.length H.contains, (((i : Nat) : Int) :: H).drop (j + 1), 0)) fun o => ∃ t, o = (bl q.Atoms.length (H ++ t).contains, (((i : Nat) : Int) :: (H ++ t)).drop (j + 1)) ∧ (H ++ t).Nodup ∧ (∀ x ∈ H ++ t, 0 ≤ x ∧ x < q.Atoms.length) ∧ (∀ x ∈ H ++ t, pathTo l q i x = true) ∧ ∀ b : Nat, b < q.Atoms.length → hAtt l q v ((b : Nat) : Int) = true → ((b : Nat) : Int) ∈ H ++ t := by
 have n3 := V.n3
 refine iter_up (f := f58_1 l q v) q.Atoms.length (fun x s => s.2.2 = (x : Int) ∧ ∃ t, s.1 = bl q.Atoms.length (H ++ t).contains ∧ s.2.1 = (((i : Nat) : Int) :: (H ++ t)).drop (j + 1) ∧ (H ++ t).Nodup ∧ (∀ x ∈ H ++ t, 0 ≤ x ∧ x < q.Atoms.length) ∧ (∀ x ∈ H ++ t, pathTo l q i x = true) ∧ ∀ b : Nat, b < x → hAtt l q v ((b : Nat) : Int) = true → ((b : Nat) : Int) ∈ H ++ t) _ (fun x s hx hI => ?_) (fun s hI => ?_) _ ⟨rfl, [], by simp, by simp, by simpa using hd, by simpa using hr, by simpa using hs, fun b hb => by omega⟩
 ·obtain ⟨r, td, y⟩ := s
  obtain ⟨e1, t, e2, e3, d1, d2, d3, d4⟩ := hI
  dsimp only at e1 e2 e3
  subst e1; subst e2; subst e3
  simp only [f58_1]
  rw [if_pos (by omega), bl_get hx, Option.bind_some, w64_succ (by omega)]
  simp only [hasImp V.big V.fits, Option.bind_some]
  have hlen := nodup_le d1 d2
  cases hc : (H ++ t).contains ((x : Nat) : Int)
  ·have hnm : ¬ ((x : Nat) : Int) ∈ H ++ t := fun h => by rw [← List.contains_iff_mem, hc] at h; cases h
   simp only [Bool.false_eq_true, not_false_eq_true, if_true, Option.bind_some]
   cases ht : hAtt l q v ((x : Nat) : Int)
   ·simp only [Bool.false_eq_true, if_false, Option.bind_some]
    refine ⟨_, rfl, rfl, t, rfl, rfl, d1, d2, d3, fun b hb hh => ?_⟩
    by_cases e : b = x
    ·subst e; rw [ht] at hh; cases hh
    ·exact d4 b (by omega) hh
   ·simp only [if_true]
    rw [app_fits (by simp only [List.length_drop, List.length_cons, List.length_nil]; omega)]
    simp only [Option.bind_some, Int.toNat_natCast]
    refine ⟨_, rfl, rfl, t ++ [((x : Nat) : Int)], ?_, ?_, ?_, ?_, ?_, ?_⟩
    ·dsimp only
     rw [bl_set]
     refine bl_congr fun u hu => ?_
     rw [← List.append_assoc, Bool.eq_iff_iff]
     simp only [Bool.or_eq_true, List.contains_iff_mem, decide_eq_true_eq, List.mem_append, List.mem_singleton]
    ·dsimp only
     have e : ((i : Nat) : Int) :: (H ++ (t ++ [((x : Nat) : Int)])) = (((i : Nat) : Int) :: (H ++ t)) ++ [((x : Nat) : Int)] := by simp
     rw [e, List.drop_append_of_le_length]
     simp only [List.length_cons, List.length_append] at hj ⊢; omega
    ·rw [← List.append_assoc]
     refine List.nodup_append.2 ⟨d1, by simp, fun a ha b hb e => ?_⟩
     rw [List.mem_singleton] at hb
     subst e; subst hb; exact hnm ha
    ·intro u hu
     rw [← List.append_assoc] at hu
     rcases List.mem_append.1 hu with hu | hu
     ·exact d2 u hu
     ·rw [List.mem_singleton] at hu; subst hu; omega
    ·intro u hu
     rw [← List.append_assoc] at hu
     rcases List.mem_append.1 hu with hu | hu
     ·exact d3 u hu
     ·rw [List.mem_singleton] at hu; subst hu
      obtain ⟨a, rfl, ha⟩ := hvr
      refine cl_clo (L := rulesP l q i) rulesP_mono (X := none4) (ruleP l q i a) (List.mem_map.2 ⟨a, List.mem_range.2 ha, rfl⟩) ?_ _ ht
      simp only [ruleP, Bool.or_eq_true, decide_eq_true_eq]
      exact hv.imp (fun h => by omega) id
    ·intro b hb hh
     rw [← List.append_assoc]
     by_cases e : b = x
     ·subst e; simp
     ·exact List.mem_append_left _ (d4 b (by omega) hh)
  ·simp only [not_true_eq_false, if_false, Option.bind_some, Bool.false_eq_true]
   refine ⟨_, rfl, rfl, t, rfl, rfl, d1, d2, d3, fun b hb hh => ?_⟩
   by_cases e : b = x
   ·subst e; rwa [List.contains_iff_mem] at hc
   ·exact d4 b (by omega) hh
 ·obtain ⟨r, td, y⟩ := s
  obtain ⟨e1, t, e2, e3, d1, d2, d3, d4⟩ := hI
  dsimp only at e1 e2 e3
  subst e1; subst e2; subst e3
  simp only [f58_1]
  rw [if_neg (by omega)]
  exact ⟨_, rfl, t, rfl, d1, d2, d3, d4⟩
theorem pathImp {i k : Int} (hl : Big l.length) (hq : FitsQ q) : f58 l q i k = some (hPath l q i k) := by
 unfold f58 hPath
 rw [impQ hl hq, Option.bind_some]
 have hn := hq.1
 cases hv : vQuery l q
 ·simp
 have V := vq_of hl hq hv
 have n1 := V.n1
 have n3 := V.n3
 rw [w64_of (n := (q.Atoms.length : Int) - 1) (by omega)]
 simp only [impIn, not_true_eq_false, if_false, Option.bind_some, Bool.true_and]
 cases hi : btw i 0 ((q.Atoms.length : Int) - 1)
 ·simp
 cases hk : btw k 0 ((q.Atoms.length : Int) - 1)
 ·simp
 obtain ⟨i, rfl, hi'⟩ := btw_nat hi
 obtain ⟨k, rfl, hk'⟩ := btw_nat hk
 simp only [not_true_eq_false, if_false, Option.bind_some, Int.toNat_natCast, Bool.true_and, decide_false, Bool.false_eq_true]
 rw [w64_of (by omega), show (q.Atoms.length : Int) - 1 + 1 = (q.Atoms.length : Int) by omega, mkl_ok (by omega) (by omega) (by omega), Option.bind_some, Int.toNat_natCast, bl_none]
 refine Ens.eq (Q := fun r => r = pathTo l q i ((k : Nat) : Int)) (Ens.bind (Q := fun r => r = bl q.Atoms.length (pathTo l q i)) ?_ fun a h => ?_) _ fun _ h => h
 ·have e0 : bl q.Atoms.length none4 = bl q.Atoms.length ([] : List Int).contains := bl_congr fun v _ => by simp [none4]
  rw [e0]
  refine iter_up (f := f58_0 l q) (q.Atoms.length + 1) (fun j s => ∃ H : List Int, s = (bl q.Atoms.length H.contains, (((i : Nat) : Int) :: H).drop j) ∧ H.Nodup ∧ (∀ x ∈ H, 0 ≤ x ∧ x < q.Atoms.length) ∧ (∀ x ∈ H, pathTo l q i x = true) ∧ ∀ p (hp : p < (((i : Nat) : Int) :: H).length), p < j → ∀ b : Nat, b < q.Atoms.length → hAtt l q ((((i : Nat) : Int) :: H)[p]) ((b : Nat) : Int) = true → ((b : Nat) : Int) ∈ H) (fun r => r = bl q.Atoms.length (pathTo l q i)) (fun j s hj hI => ?_) (fun s hI => ?_) _ ⟨[], by simp, by simp, by simp, by simp, fun p _ hp => by omega⟩
  ·obtain ⟨H, rfl, d1, d2, d3, d4⟩ := hI
   have hlen := nodup_le d1 d2
   simp only [f58_0]
   by_cases c : j < (((i : Nat) : Int) :: H).length
   ·have hdl : ((((i : Nat) : Int) :: H).drop j).length = (((i : Nat) : Int) :: H).length - j := List.length_drop
    have hcut : cutL ((((i : Nat) : Int) :: H).drop j) 1 (((((i : Nat) : Int) :: H).drop j).length : Int) = some ((((i : Nat) : Int) :: H).drop (j + 1)) := by
     rw [cutL_ok (by omega) (by rw [hdl]; omega) (by omega), Int.toNat_natCast, List.take_of_length_le (Nat.le_refl _), List.drop_drop]; rfl
    have hix : ix ((((i : Nat) : Int) :: H).drop j) 0 = some ((((i : Nat) : Int) :: H)[j]) := by
     rw [ix_of (by omega), List.getElem?_drop]
     simp only [Int.toNat_zero, Nat.add_zero]
     exact List.getElem?_eq_getElem c
    rw [if_pos (by omega), hix, Option.bind_some, hcut, Option.bind_some]
    have hm : (((i : Nat) : Int) :: H)[j] = ((i : Nat) : Int) ∨ (((i : Nat) : Int) :: H)[j] ∈ H := by
     have := List.getElem_mem c
     rwa [List.mem_cons] at this
    obtain ⟨o, ho, t, rfl, g1, g2, g3, g4⟩ := bfsRound (v := (((i : Nat) : Int) :: H)[j]) V c (hm.imp id (d3 _)) (by
     rcases hm with h | h
     ·exact ⟨i, h, hi'⟩
     ·have := d2 _ h; exact ⟨((((i : Nat) : Int) :: H)[j]).toNat, by omega, by omega⟩) d1 d2 d3
    rw [ho]
    refine ⟨_, rfl, H ++ t, rfl, g1, g2, g3, fun p hp hpj b hb hh => ?_⟩
    have hp' : p < (((i : Nat) : Int) :: H).length := by omega
    have eg : (((i : Nat) : Int) :: (H ++ t))[p] = (((i : Nat) : Int) :: H)[p] := by
     simp only [← List.cons_append]
     exact List.getElem_append_left hp'
    rw [eg] at hh
    by_cases e : p = j
    ·subst e; exact g4 b hb hh
    ·exact List.mem_append_left _ (d4 p hp' (by omega) b hb hh)
   ·have hdl : ((((i : Nat) : Int) :: H).drop j).length = 0 := by rw [List.length_drop]; omega
    rw [if_neg (by omega)]
    refine ⟨_, rfl, ?_⟩
    dsimp only
    refine bl_congr fun u hu => ?_
    rw [Bool.eq_iff_iff, List.contains_iff_mem]
    refine ⟨d3 _, fun h => ?_⟩
    have hcl : Clo (rulesP l q i) H.contains := fun r hr hc b hb => by
     obtain ⟨a, ha, rfl⟩ := List.mem_map.1 hr
     simp only [ruleP, Bool.or_eq_true, decide_eq_true_eq] at hc hb
     obtain ⟨b, rfl, hbn⟩ := hAtt_rng hb
     rw [List.contains_iff_mem]
     rcases hc with rfl | hc
     ·exact d4 0 (by simp) (by simp only [List.length_cons] at c; omega) b hbn hb
     ·rw [List.contains_iff_mem] at hc
      obtain ⟨p, hp, e⟩ := List.mem_iff_getElem.1 hc
      refine d4 (p + 1) (by simp only [List.length_cons]; omega) (by simp only [List.length_cons] at c; omega) b hbn ?_
      rw [List.getElem_cons_succ, e]; exact hb
    have := passes_least (rulesP_mono (l := l) (q := q) (i := i)) hcl (X := none4) (fun v hv => by cases hv) (n := (rulesP l q i).length) _ h
    rwa [List.contains_iff_mem] at this
  ·obtain ⟨H, rfl, d1, d2, d3, d4⟩ := hI
   have hlen := nodup_le d1 d2
   simp only [f58_0]
   have hdl : ((((i : Nat) : Int) :: H).drop (q.Atoms.length + 1)).length = 0 := by rw [List.length_drop, List.length_cons]; omega
   rw [if_neg (by omega)]
   refine ⟨_, rfl, ?_⟩
   refine bl_congr fun u hu => ?_
   rw [Bool.eq_iff_iff, List.contains_iff_mem]
   refine ⟨d3 _, fun h => ?_⟩
   have hcl : Clo (rulesP l q i) H.contains := fun r hr hc b hb => by
    obtain ⟨a, ha, rfl⟩ := List.mem_map.1 hr
    simp only [ruleP, Bool.or_eq_true, decide_eq_true_eq] at hc hb
    obtain ⟨b, rfl, hbn⟩ := hAtt_rng hb
    rw [List.contains_iff_mem]
    rcases hc with rfl | hc
    ·exact d4 0 (by simp) (by omega) b hbn hb
    ·rw [List.contains_iff_mem] at hc
     obtain ⟨p, hp, e⟩ := List.mem_iff_getElem.1 hc
     refine d4 (p + 1) (by simp only [List.length_cons]; omega) (by omega) b hbn ?_
     rw [List.getElem_cons_succ, e]; exact hb
   have := passes_least (rulesP_mono (l := l) (q := q) (i := i)) hcl (X := none4) (fun v hv => by cases hv) (n := (rulesP l q i).length) _ h
   rwa [List.contains_iff_mem] at this
 ·subst h
  rw [bl_get hk']; exact Ens.of rfl
end
end Go.Proofs.YtabmomjfdondnaaH
namespace Go.Proofs.YtabmomjfdondnaaH
open Go
section
variable {l : List Relation} {q : Query}
def hCyc (l : List Relation) (q : Query) : Bool := (List.range q.Atoms.length).any fun i => hPath l q ((i : Nat) : Int) ((i : Nat) : Int)
theorem cycSpec (hl : Big l.length) (hq : FitsQ q) : f60 l q = some (hCyc l q) := by
 unfold f60
 have hn := hq.1
 rw [iter_ex (List.range q.Atoms.length) (fun i => hPath l q ((i : Nat) : Int) ((i : Nat) : Int)) true (fun i hi => by
  simp only [List.length_range] at hi
  simp only [List.getElem_range]
  simp only [f60_0]
  rw [if_pos (by omega), pathSpec hl hq, Option.bind_some, w64_succ (by omega)]
  split <;> rfl) (by
  simp only [f60_0]
  rw [if_neg (by simp)])]
 unfold hCyc
 cases (List.range q.Atoms.length).any fun i => hPath l q ((i : Nat) : Int) ((i : Nat) : Int) <;> simp
theorem cycImp (hl : Big l.length) (hq : FitsQ q) : f61 l q = some (hCyc l q) := by
 unfold f61
 have hn := hq.1
 rw [iter_ex (List.range q.Atoms.length) (fun i => hPath l q ((i : Nat) : Int) ((i : Nat) : Int)) true (fun i hi => by
  simp only [List.length_range] at hi
  simp only [List.getElem_range]
  simp only [f61_0]
  rw [if_pos (by omega), pathImp hl hq, Option.bind_some, w64_succ (by omega)]
  split <;> rfl) (by
  simp only [f61_0]
  rw [if_neg (by simp)])]
 unfold hCyc
 cases (List.range q.Atoms.length).any fun i => hPath l q ((i : Nat) : Int) ((i : Nat) : Int) <;> simp
end
end Go.Proofs.YtabmomjfdondnaaH
namespace Go.Proofs.YtabmomjfdondnaaH
open Go
section
variable {l : List Relation} {q : Query}
def deter (l : List Relation) (q : Query) (a b : List Int) : Bool := vQuery l q && b.all (closX l q (-1) (setOf q a))
theorem detSpec {a b : List Int} (hl : Big l.length) (hq : FitsQ q) (ha : Big a.length) (hb : Big b.length) : f171 l q a b = some (deter l q a b) := by
 unfold f171 deter
 rw [specQ hl hq, Option.bind_some]
 cases hv : vQuery l q
 ·simp
 have V := vq_of hl hq hv
 have c4 := nfl_len (X := closX l q (-1) (setOf q a))
 simp only [if_true]
 rw [closSpec V hv ha, Option.bind_some, has14 (by omega) hb, nfl_has (closX_in setOf_in)]
 simp
theorem detImp {a b : List Int} (hl : Big l.length) (hq : FitsQ q) (ha : a.length ≤ 8) (hai : In4 a.contains) (hb : Big b.length) : f172 l q a b = some (deter l q a b) := by
 unfold f172 deter
 rw [impQ hl hq, Option.bind_some]
 cases hv : vQuery l q
 ·simp
 have V := vq_of hl hq hv
 have f4 := V.free4
 simp only [if_true]
 have key : f192 l q (-1) a = some (nfl (closX l q (-1) (setOf q a))) := by
  unfold f192 f135
  rw [impQ hl hq, hv, Option.bind_some, if_neg (by simp), app_fits (by simp; omega)]
  simp only [Option.bind_some, List.nil_append]
  have it := iter_steps (f := f192_0 a) (fun i => (q.Free ++ a.take i, (i : Int))) a.length (q.Free ++ a) (fun i hi => by
   simp only [f192_0]
   have hb : btw a[i] 0 3 = true := hai _ (by rw [List.contains_iff_mem]; exact List.getElem_mem hi)
   rw [if_pos (by omega), ix_nat hi, Option.bind_some, impIn, hb, w64_succ (by omega)]
   simp only [Option.bind_some, if_true]
   rw [app_fits (by simp; omega)]
   simp only [Option.bind_some]
   rw [take_succ' hi, List.append_assoc]) (by
   simp only [f192_0]
   rw [if_neg (by omega), List.take_of_length_le (Nat.le_refl _)])
  simp only [List.take_zero, List.append_nil, Int.natCast_zero, Int.ofNat_zero] at it
  rw [it, Option.bind_some, closImp V (by simp; omega) (fun v hv => by
   rw [List.contains_iff_mem, List.mem_append] at hv
   rcases hv with hv | hv
   ·exact V.free v (by rw [List.contains_iff_mem]; exact hv)
   ·exact hai v (by rw [List.contains_iff_mem]; exact hv))]
  have e : (q.Free ++ a).contains = setOf q a := by
   funext v
   unfold setOf
   rw [Bool.eq_iff_iff, List.contains_iff_mem, List.mem_append, List.contains_iff_mem, nfl_mem]
   unfold cupX
   simp only [Bool.or_eq_true, List.contains_iff_mem]
   constructor
   ·rintro (h | h)
    ·exact ⟨.inr h, V.free v (by rw [List.contains_iff_mem]; exact h)⟩
    ·exact ⟨.inl h, hai v (by rw [List.contains_iff_mem]; exact h)⟩
   ·rintro ⟨h | h, _⟩
    ·exact .inr h
    ·exact .inl h
  rw [e]; rfl
 have c4 := nfl_len (X := closX l q (-1) (setOf q a))
 rw [key, Option.bind_some, subset hb (by omega), nfl_has (closX_in setOf_in)]
 simp
def hWeak (l : List Relation) (q : Query) (i k : Int) : Bool := hAtt l q i k && deter l q (kvars l (atomAt q i.toNat)) (kvars l (atomAt q k.toNat))
theorem weakSpec {i k : Int} (hl : Big l.length) (hq : FitsQ q) : f130 l q i k = some (hWeak l q i k) := by
 unfold f130 hWeak
 rw [hasSpec hl hq, Option.bind_some]
 cases h : hAtt l q i k
 ·simp
 unfold hAtt at h; simp only [Bool.and_eq_true] at h
 obtain ⟨i, rfl, hi⟩ := btw_nat h.2.1
 obtain ⟨k, rfl, hk⟩ := btw_nat h.2.2.1
 have h1 := hq.2.1 _ (List.getElem_mem hi)
 have h2 := hq.2.1 _ (List.getElem_mem hk)
 have k1 := kvars_len (l := l) (a := q.Atoms[i])
 have k2 := kvars_len (l := l) (a := q.Atoms[k])
 simp only [if_true, Int.toNat_natCast, Bool.true_and]
 rw [ix_nat hi, ix_nat hk, atom_get hi, atom_get hk]
 simp only [Option.bind_some]
 rw [specKV hl (by omega), Option.bind_some, specKV hl (by omega), Option.bind_some, detSpec hl hq (by omega) (by omega)]
 rfl
theorem weakImp {i k : Int} (hl : Big l.length) (hq : FitsQ q) : f131 l q i k = some (hWeak l q i k) := by
 unfold f131 hWeak
 rw [hasImp hl hq, Option.bind_some]
 cases h : hAtt l q i k
 ·simp
 unfold hAtt at h; simp only [Bool.and_eq_true] at h
 have V := vq_of hl hq h.1
 obtain ⟨i, rfl, hi⟩ := btw_nat h.2.1
 obtain ⟨k, rfl, hk⟩ := btw_nat h.2.2.1
 have h1 := V.terms _ (List.getElem_mem hi)
 have h2 := V.terms _ (List.getElem_mem hk)
 have k1 := kvars_len (l := l) (a := q.Atoms[i])
 have k2 := kvars_len (l := l) (a := q.Atoms[k])
 simp only [if_true, Int.toNat_natCast, Bool.true_and]
 rw [ix_nat hi, ix_nat hk, atom_get hi, atom_get hk]
 simp only [Option.bind_some]
 rw [impKV hl (by omega), Option.bind_some, impKV hl (by omega), Option.bind_some, detImp hl hq (by omega) kvars_in (by omega)]
 rfl
def hard (l : List Relation) (q : Query) (i k : Nat) : Bool := hAtt l q ((i : Nat) : Int) ((k : Nat) : Int) && (!hWeak l q ((i : Nat) : Int) ((k : Nat) : Int) && hPath l q ((k : Nat) : Int) ((i : Nat) : Int))
def cls (l : List Relation) (q : Query) : Int :=
 if vQuery l q = true then (if ((List.range q.Atoms.length).any fun i => (List.range q.Atoms.length).any fun k => hard l q i k) = true then 3 else if hCyc l q = true then 2 else 1) else 0
theorem iter_ex2 {ρ : Type} {f : Int → Option (Int ⊕ (Unit ⊕ ρ))} {n : Nat} {p : Nat → Bool} {c : ρ}
  (hs : ∀ (i : Nat) (h : i < n), f (i : Int) = some (if p i = true then .inr (.inr c) else .inl ((i + 1 : Nat) : Int))) (he : f (n : Int) = some (.inr (.inl ()))) :
  iter f 0 = some (if (List.range n).any p = true then .inr c else .inl ()) :=
 iter_ex (List.range n) p c (fun i hi => by simp only [List.length_range] at hi; simp only [List.getElem_range]; exact hs i hi) (by simpa using he)
theorem clsSpec (hl : Big l.length) (hq : FitsQ q) : f62 l q = some (cls l q) := by
 unfold f62 cls
 rw [specQ hl hq, Option.bind_some]
 have hn := hq.1
 cases hv : vQuery l q
 ·simp
 rw [if_neg (by simp), if_pos rfl]
 rw [iter_ex2 (n := q.Atoms.length) (p := fun i => (List.range q.Atoms.length).any fun k => hard l q i k) (c := 3) (fun i hi => by
  simp only [f62_0]
  rw [if_pos (by omega), iter_ex2 (n := q.Atoms.length) (p := fun k => hard l q i k) (c := 3) (fun k hk => by
   simp only [f62_1]
   rw [if_pos (by omega), hasSpec hl hq, weakSpec hl hq, pathSpec hl hq, w64_succ (by omega)]
   unfold hard
   cases hAtt l q ((i : Nat) : Int) ((k : Nat) : Int)
   ·simp
   ·cases hWeak l q ((i : Nat) : Int) ((k : Nat) : Int)
    ·cases hPath l q ((k : Nat) : Int) ((i : Nat) : Int) <;> simp
    ·simp) (by
   simp only [f62_1]
   rw [if_neg (by omega)]), w64_succ (by omega)]
  cases (List.range q.Atoms.length).any fun k => hard l q i k <;> simp) (by
  simp only [f62_0]
  rw [if_neg (by omega)])]
 cases (List.range q.Atoms.length).any fun i => (List.range q.Atoms.length).any fun k => hard l q i k
 ·simp only [Bool.false_eq_true, if_false, Option.bind_some]
  rw [cycSpec hl hq, Option.bind_some]
  split <;> rfl
 ·simp
theorem clsImp (hl : Big l.length) (hq : FitsQ q) : f63 l q = some (cls l q) := by
 unfold f63 cls
 rw [impQ hl hq, Option.bind_some]
 have hn := hq.1
 cases hv : vQuery l q
 ·simp
 rw [if_neg (by simp), if_pos rfl]
 rw [iter_ex2 (n := q.Atoms.length) (p := fun i => (List.range q.Atoms.length).any fun k => hard l q i k) (c := 3) (fun i hi => by
  simp only [f63_0]
  rw [if_pos (by omega), iter_ex2 (n := q.Atoms.length) (p := fun k => hard l q i k) (c := 3) (fun k hk => by
   simp only [f63_1]
   rw [if_pos (by omega), hasImp hl hq, weakImp hl hq, pathImp hl hq, w64_succ (by omega)]
   unfold hard
   cases hAtt l q ((i : Nat) : Int) ((k : Nat) : Int)
   ·simp
   ·cases hWeak l q ((i : Nat) : Int) ((k : Nat) : Int)
    ·cases hPath l q ((k : Nat) : Int) ((i : Nat) : Int) <;> simp
    ·simp) (by
   simp only [f63_1]
   rw [if_neg (by omega)]), w64_succ (by omega)]
  cases (List.range q.Atoms.length).any fun k => hard l q i k <;> simp) (by
  simp only [f63_0]
  rw [if_neg (by omega)])]
 cases (List.range q.Atoms.length).any fun i => (List.range q.Atoms.length).any fun k => hard l q i k
 ·simp only [Bool.false_eq_true, if_false, Option.bind_some]
  rw [cycImp hl hq, Option.bind_some]
  split <;> rfl
 ·simp
end
end Go.Proofs.YtabmomjfdondnaaH
namespace Go.Proofs.YtabmomjfdondnaaH
open Go
def atomsSize (l : List Atom) : Nat := l.length + (l.map (·.Terms.length)).sum
def querySize (q : Query) : Nat := atomsSize q.Atoms + q.Free.length
theorem szAtom {a : Atom} {n : Int} (h : ok a) (h0 : 0 ≤ n) (h1 : n ≤ 1048576) : f161 a n = some (lft n a.Terms.length) := by
 unfold f161
 rw [szI h.2.1 h0 h1, Option.bind_some]
 split
 ·rename_i hlt; rw [lft_bad hlt]
 ·rfl
theorem szAtoms {a : List Atom} {n : Int} (h : ok a) (h0 : 0 ≤ n) (h1 : n ≤ 1048576) : f123 a n = some (lft n (atomsSize a)) := by
 obtain ⟨h, h'⟩ := h
 unfold f123 atomsSize
 rw [w64_of (by omega)]
 by_cases hc : n < (a.length : Int)
 ·rw [if_pos (by omega)]
  unfold lft
  rw [if_neg (by omega)]
 ·rw [if_neg (by omega)]
  rw [iter_sz (fun x : Atom => x.Terms.length) a _ (by omega) (fun i hi b hb hb' => by
   simp only [f123_0]
   rw [if_pos (by omega), ix_nat hi, w64_succ (by omega)]
   simp only [Option.bind_some, szAtom (h' _ (List.getElem_mem hi)) hb (by omega)]
   split <;> rfl) (fun b => by
   simp only [f123_0]
   rw [if_neg (by omega)]), lft_sub hc]
  split
  ·rename_i hlt
   rw [lft_bad hlt]; rfl
  ·rfl
theorem lftq {n : Int} {a b : Nat} (h : ¬ lft n a < 0) : lft (lft n a) b = lft n (a + b) := by
 obtain ⟨e, h'⟩ := lft_pos h
 rw [e, lft_sub (by omega)]
theorem lftq_neg {n : Int} {a b : Nat} (h : lft n a < 0) : lft n (a + b) = -1 := by
 have := lft_neg.1 h
 unfold lft; rw [if_neg (by omega)]
theorem szQ {q : Query} {n : Int} (h : ok q) (h0 : 0 ≤ n) (h1 : n ≤ 1048576) : f55 q n = some (lft n (querySize q)) := by
 unfold f55 querySize
 rw [szAtoms h.2.1 h0 h1, Option.bind_some]
 by_cases c1 : lft n (atomsSize q.Atoms) < 0
 ·rw [if_pos c1, lftq_neg c1]
 ·rw [if_neg c1]
  have b1 := lft_pos c1
  rw [szI h.2.2.1 (by omega) (by omega), Option.bind_some, lftq c1]
  split
  ·rename_i hlt; rw [lft_bad hlt]
  ·rfl
theorem q_fits {q : Query} (h : querySize q ≤ 1048576) : FitsQ q := by
 unfold querySize atomsSize at h
 refine ⟨by omega, fun x hx => ?_, by omega⟩
 have := mem_le_sum (s := fun x : Atom => x.Terms.length) hx
 omega
theorem toAtm {a : Atom} (h : a.Terms.length ≤ 1048576) : f162 a = some a := by
 unfold f162
 rw [toI h]; rfl
theorem toAtoms {a : List Atom} (h : a.length ≤ 1048576) (h' : ∀ x ∈ a, x.Terms.length ≤ 1048576) : f126 a = some a := by
 unfold f126
 rw [mkl_ok (by omega) (by omega) (by omega)]
 have : iter (f126_0 a) (List.replicate (a.length : Int).toNat ({ Relation := 0, Terms := [] } : Atom), 0) = some a := iter_copy (by simp) (fun i hi out ho => by
  simp only [f126_0]
  rw [if_pos (by omega), ix_nat hi, ix_nat ho, Int.toNat_natCast, w64_succ (by omega)]
  simp only [Option.bind_some, toAtm (h' _ (List.getElem_mem hi))]) (fun out => by
  simp only [f126_0]
  rw [if_neg (by omega)])
 simp only [Option.bind_some, this]
theorem toQ {q : Query} (h : FitsQ q) : f57 q = some q := by
 unfold f57
 rw [toAtoms h.1 h.2.1, Option.bind_some, toI h.2.2]; rfl
theorem eqAtm {a : Atom} (h : a.Terms.length ≤ 1048576) : f166 a a = some true := by
 unfold f166
 rw [if_neg (by simp), eqI (by omega)]; simp
theorem eqAtoms {a : List Atom} (h : a.length ≤ 1048576) (h' : ∀ x ∈ a, x.Terms.length ≤ 1048576) : f129 a a = some true := by
 unfold f129
 rw [if_neg (by simp)]
 rw [iter_ex (List.range a.length) (fun _ => false) false (fun i hi => by
  simp only [f129_0]
  simp only [List.length_range] at hi
  rw [if_pos (by omega), ix_nat hi, w64_succ (by omega)]
  simp only [Option.bind_some, eqAtm (h' _ (List.getElem_mem hi))]
  simp) (by
  simp only [f129_0]
  rw [if_neg (by simp)])]
 simp
theorem eqQ {q : Query} (h : FitsQ q) : f59 q q = some true := by
 unfold f59
 have := h.2.2
 rw [if_neg (by simp), eqAtoms h.1 h.2.1, Option.bind_some, if_neg (by simp), eqI (by omega)]; simp
end Go.Proofs.YtabmomjfdondnaaH
namespace Go.Proofs.YtabmomjfdondnaaH
open Go
theorem lawFnExactClassify (a : List Relation) (ha : ok a) (b : Query) (hb : ok b) : f11 a b = some true := by
 unfold f11
 rw [szRs ha (by omega) (by omega), Option.bind_some]
 change (if lft 1048576 (relSize a) < 0 then _ else _) = _
 by_cases h1 : lft 1048576 (relSize a) < 0
 ·rw [if_pos h1]
 rw [if_neg h1]
 have b1 := lft_pos h1
 change (f55 b (lft 1048576 (relSize a))).bind _ = _
 rw [szQ hb (by omega) (by omega), Option.bind_some, lftq h1]
 by_cases h2 : lft 1048576 (relSize a + querySize b) < 0
 ·rw [if_pos h2]
 rw [if_neg h2]
 have b2 := lft_pos h2
 have fq := q_fits (q := b) (by omega)
 have f0 : a.length ≤ 1048576 := by have := b1.2; unfold relSize at this; omega
 have hl : Big a.length := by omega
 simp only [toRs f0, toQ fq, clsSpec hl fq, clsImp hl fq, eqRs (a := a) (by omega), eqQ fq, Option.bind_some]
 simp
end Go.Proofs.YtabmomjfdondnaaH
