import Derived.Test.YtabmomjfdondnaaTd1
import Derived.Test.YtabmomjfdondnaaX3
import Derived.Test.YtabmomjfdondnaaRd1
set_option linter.unusedVariables false
set_option linter.unusedSimpArgs false
namespace Go.Proofs.YtabmomjfdondnaaH
open Go
theorem toI {a : List Int} (h : a.length ≤ 1048576) : f40 a = some a := by
  unfold f40
  rw [mkl_ok (by omega) (by omega) (by omega)]
  have : iter (f40_0 a) (List.replicate (a.length : Int).toNat 0, 0) = some a := iter_copy (by simp) (fun i hi out ho => by
    simp only [f40_0]
    rw [if_pos (by omega), ix_nat hi, ix_nat ho, Int.toNat_natCast, w64_succ (by omega)]; rfl) (fun out => by
    simp only [f40_0]
    rw [if_neg (by omega)])
  simp only [Option.bind_some, this]
theorem eqI {a : List Int} (h : a.length ≤ 9223372036854775807) : f42 a a = some true := by
  unfold f42
  rw [if_neg (by simp)]
  rw [iter_ex (List.range a.length) (fun _ => false) false (fun i hi => by
    simp only [f42_0]
    simp only [List.length_range] at hi
    rw [if_pos (by omega), ix_nat hi, w64_succ (by omega)]
    simp) (by
    simp only [f42_0]
    rw [if_neg (by simp)])]
  simp
theorem szI {a : List Int} {n : Int} (h : a.length ≤ 9223372036854775807) (h0 : 0 ≤ n) (h1 : n ≤ 1048576) : f64 a n = some (lft n a.length) := by
  unfold f64
  rw [w64_of (by omega)]
  unfold lft
  by_cases hc : n < (a.length : Int)
  · rw [if_pos (by omega), if_neg (by omega)]
  · rw [if_neg (by omega), if_pos (by omega)]
end Go.Proofs.YtabmomjfdondnaaH
namespace Go.Proofs.YtabmomjfdondnaaH
open Go
abbrev Big (n : Nat) : Prop := n ≤ 9223372036854775806
theorem hasI {l : List Int} {x : Int} (h : Big l.length) : f98 l x = some (l.contains x) := by
  unfold f98
  rw [iter_ex l (fun a => x == a) true (fun i hi => by
    simp only [f98_0]
    rw [if_pos (by omega), ix_nat hi, w64_succ (by omega)]
    simp only [Option.bind_some]
    by_cases hc : l[i] = x
    · rw [if_pos hc, if_pos (by simp [hc])]
    · rw [if_neg hc, if_neg (by simp; exact fun h => hc h.symm)]) (by
    simp only [f98_0]
    rw [if_neg (by omega)])]
  rw [show l.contains x = l.any (fun a => x == a) from List.any_beq.symm]
  by_cases hc : l.any (fun a => x == a) = true
  · rw [if_pos hc, hc]; rfl
  · rw [if_neg hc]; simp only [Bool.not_eq_true] at hc; rw [hc]; rfl
theorem indexI {s : List Int} {f : Int → Option Bool} {p : Int → Bool} (h : Big s.length) (hf : ∀ a ∈ s, f a = some (p a)) : f74 s f = some (s.any p) := by
  unfold f74 f103
  obtain ⟨o, h1, h2⟩ := iter_idx (f := f103_0 s f) s p (fun i hi => by
    simp only [f103_0]
    rw [if_pos (by omega), ix_nat hi, w64_succ (by omega)]
    simp only [Option.bind_some, hf _ (List.getElem_mem hi)]
    split <;> rfl) (by
    simp only [f103_0]
    rw [if_neg (by omega)])
  rw [h1]
  cases o with
  | inl _ => dsimp only at h2; rw [h2]; rfl
  | inr x => dsimp only at h2; rw [h2.2]; simp; omega
theorem containsI {s : List Int} {v : Int} (h : Big s.length) : f105 s v = some (s.contains v) := by
  unfold f105 f158
  obtain ⟨o, h1, h2⟩ := iter_idx (f := f158_0 s v) s (fun a => v == a) (fun i hi => by
    simp only [f158_0]
    rw [if_pos (by omega), ix_nat hi, w64_succ (by omega)]
    simp only [Option.bind_some, beq_iff_eq]
    split <;> rfl) (by
    simp only [f158_0]
    rw [if_neg (by omega)])
  rw [h1]
  rw [show s.contains v = s.any (fun a => v == a) from List.any_beq.symm]
  cases o with
  | inl _ => dsimp only at h2; rw [h2]; rfl
  | inr x => dsimp only at h2; rw [h2.2]; simp; omega
theorem subset {a b : List Int} (ha : Big a.length) (hb : Big b.length) : f118 a b = some (a.all b.contains) := by
  unfold f118
  rw [indexI (p := fun x => !b.contains x) ha (fun x _ => by
    unfold f164
    rw [containsI hb]
    simp)]
  rw [any_not]
  simp
end Go.Proofs.YtabmomjfdondnaaH
namespace Go.Proofs.YtabmomjfdondnaaH
open Go
end Go.Proofs.YtabmomjfdondnaaH
namespace Go.Proofs.YtabmomjfdondnaaH
open Go
theorem toRs {a : List Relation} (h : a.length ≤ 1048576) : f50 a = some a := by
  unfold f50
  rw [mkl_ok (by omega) (by omega) (by omega)]
  have : iter (f50_0 a) (List.replicate (a.length : Int).toNat ({ Name := [], Arity := 0, KeyLength := 0 } : Relation), 0) = some a := iter_copy (by simp) (fun i hi out ho => by
    simp only [f50_0]
    rw [if_pos (by omega), ix_nat hi, ix_nat ho, Int.toNat_natCast, w64_succ (by omega)]; rfl) (fun out => by
    simp only [f50_0]
    rw [if_neg (by omega)])
  simp only [Option.bind_some, this]
theorem eqRl {a : Relation} : f121 a a = some true := by unfold f121; simp
theorem eqRs {a : List Relation} (h : a.length ≤ 9223372036854775807) : f53 a a = some true := by
  unfold f53
  rw [if_neg (by simp)]
  rw [iter_ex (List.range a.length) (fun _ => false) false (fun i hi => by
    simp only [f53_0]
    simp only [List.length_range] at hi
    rw [if_pos (by omega), ix_nat hi, w64_succ (by omega)]
    simp only [Option.bind_some, eqRl]
    simp) (by
    simp only [f53_0]
    rw [if_neg (by simp)])]
  simp
theorem szRl {a : Relation} {n : Int} (h : ok a) (h0 : 0 ≤ n) (h1 : n ≤ 1048576) : f109 a n = some (lft n a.Name.length) := by
  have h := h.1.1
  unfold f109
  rw [w64_of (by omega)]
  unfold lft
  by_cases hc : n < (a.Name.length : Int)
  · rw [if_pos (by omega), if_neg (by omega)]
  · rw [if_neg (by omega), if_pos (by omega)]
theorem lft_sub {n : Int} {a b : Nat} (h : ¬ n < a) : lft (n - a) b = lft n (a + b) := by
  unfold lft
  by_cases hc2 : ((b : Nat) : Int) ≤ n - a
  · rw [if_pos hc2, if_pos (by omega)]; omega
  · rw [if_neg hc2, if_neg (by omega)]
theorem szRs {a : List Relation} {n : Int} (h : ok a) (h0 : 0 ≤ n) (h1 : n ≤ 1048576) : f47 a n = some (lft n (a.length + (a.map (·.Name.length)).sum)) := by
  obtain ⟨h, h'⟩ := h
  unfold f47
  rw [w64_of (by omega)]
  by_cases hc : n < (a.length : Int)
  · rw [if_pos (by omega)]
    unfold lft
    rw [if_neg (by omega)]
  · rw [if_neg (by omega)]
    rw [iter_sz (fun x : Relation => x.Name.length) a _ (by omega) (fun i hi b hb hb' => by
      simp only [f47_0]
      rw [if_pos (by omega), ix_nat hi, w64_succ (by omega)]
      simp only [Option.bind_some, szRl (h' _ (List.getElem_mem hi)) hb (by omega)]
      split <;> rfl) (fun b => by
      simp only [f47_0]
      rw [if_neg (by omega)]), lft_sub hc]
    split
    · rename_i hlt
      rw [lft_bad hlt]; rfl
    · rfl
def relSize (l : List Relation) : Nat := l.length + (l.map (·.Name.length)).sum
end Go.Proofs.YtabmomjfdondnaaH
namespace Go.Proofs.YtabmomjfdondnaaH
open Go
variable {α ρ : Type}
def good (q : α → Bool) (r : α → α → Bool) (l : List α) : Bool := decide (∀ i (h : i < l.length), (q l[i] && (decide (i = 0) || r (l[i - 1]'(by omega)) l[i])) = true)
theorem good_of {q : α → Bool} {r : α → α → Bool} {l : List α} (h : good q r l = true) {i : Nat} (hi : i < l.length) : q l[i] = true ∧ (0 < i → r (l[i - 1]'(by omega)) l[i] = true) := by
  have := of_decide_eq_true h i hi
  simp only [Bool.and_eq_true, Bool.or_eq_true, decide_eq_true_eq] at this
  exact ⟨this.1, fun hp => this.2.resolve_left (by omega)⟩
theorem iter_adj {f : Int → Option (Int ⊕ (Unit ⊕ ρ))} (q : α → Bool) (r : α → α → Bool) (L : List α) (c : ρ)
    (hs : ∀ (i : Nat) (h : i < L.length), f (i : Int) = some (if (q L[i] && (decide (i = 0) || r (L[i - 1]'(by omega)) L[i])) = true then .inl ((i + 1 : Nat) : Int) else .inr (.inr c)))
    (he : f (L.length : Int) = some (.inr (.inl ()))) : iter f 0 = some (if good q r L = true then .inl () else .inr c) := by
  obtain ⟨o, h1, h2⟩ := iter_up (f := f) L.length (fun i s => s = (i : Int) ∧ ∀ j (h : j < L.length), j < i → (q L[j] && (decide (j = 0) || r (L[j - 1]'(by omega)) L[j])) = true)
    (fun o => o = if good q r L = true then .inl () else .inr c) (fun i s hi ⟨h, hp⟩ => by
      subst h
      refine ⟨_, hs i hi, ?_⟩
      by_cases hc : (q L[i] && (decide (i = 0) || r (L[i - 1]'(by omega)) L[i])) = true
      · rw [if_pos hc]
        refine ⟨rfl, fun j hj hlt => ?_⟩
        by_cases e : j = i
        · subst e; exact hc
        · exact hp j hj (by omega)
      · rw [if_neg hc]
        dsimp only
        rw [if_neg]
        intro hg
        exact hc (of_decide_eq_true hg i hi)) (fun s ⟨h, hp⟩ => by
      subst h
      refine ⟨_, he, ?_⟩
      rw [if_pos]
      exact decide_eq_true fun i hi => hp i hi hi) 0 ⟨rfl, fun j _ h => by omega⟩
  rw [h1, h2]
def btw (x low high : Int) : Bool := decide (low ≤ x) && decide (x ≤ high)
theorem specIn {x a b : Int} : f71 x a b = some (btw x a b) := by
  unfold f71 btw
  by_cases h : a ≤ x
  · rw [if_pos (show x ≥ a from h)]; simp [h]
  · rw [if_neg (show ¬ x ≥ a from h)]; simp [h]
theorem impIn {x a b : Int} : f87 x a b = some (btw x a b) := by
  unfold f87 btw
  by_cases h : a ≤ x
  · rw [if_pos h]; simp [h]
  · rw [if_neg h]; simp [h]
def vRel (r : Relation) : Bool := decide (r.Name.length = 1) && (decide (97 ≤ (r.Name.getD 0 0).toNat) && (decide ((r.Name.getD 0 0).toNat ≤ 122) && (btw r.Arity 1 3 && btw r.KeyLength 0 r.Arity)))
theorem specRel {r : Relation} : f154 r = some (vRel r) := by
  unfold f154 vRel
  by_cases h1 : r.Name.length = 1
  · rw [if_pos (by omega)]
    have e : ix r.Name 0 = some (r.Name.getD 0 0) := by rw [ix_of (by omega)]; simp [List.getElem?_eq_getElem (show 0 < r.Name.length by omega)]
    rw [e, Option.bind_some]
    generalize r.Name.getD 0 0 = c
    by_cases h2 : 97 ≤ c.toNat
    · rw [if_pos (by omega)]
      by_cases h3 : c.toNat ≤ 122
      · rw [if_pos (by omega), specIn, Option.bind_some]
        cases hb : btw r.Arity 1 3
        · simp
        · simp [specIn, h1, h2, h3]
      · rw [if_neg (by omega)]; simp [h3]
    · rw [if_neg (by omega)]; simp [h2]
  · rw [if_neg (by omega)]; simp [h1]
theorem impRel {r : Relation} : f163 r = some (vRel r) := by
  unfold f163 vRel
  by_cases h1 : r.Name.length = 1
  · rw [if_pos (by omega)]
    have e : ix r.Name 0 = some (r.Name.getD 0 0) := by rw [ix_of (by omega)]; simp [List.getElem?_eq_getElem (show 0 < r.Name.length by omega)]
    rw [e, Option.bind_some]
    generalize r.Name.getD 0 0 = c
    by_cases h2 : 97 ≤ c.toNat
    · rw [if_pos (by omega)]
      by_cases h3 : c.toNat ≤ 122
      · rw [if_pos (by omega), impIn, Option.bind_some]
        cases hb : btw r.Arity 1 3
        · simp
        · simp [impIn, h1, h2, h3]
      · rw [if_neg (by omega)]; simp [h3]
    · rw [if_neg (by omega)]; simp [h2]
  · rw [if_neg (by omega)]; simp [h1]
def vRels (l : List Relation) : Bool := good vRel (fun a b => Op.bytesLess a.Name b.Name) l && decide (l.length ≤ 4)
theorem specRels {l : List Relation} (h : Big l.length) : f94 l = some (vRels l) := by
  unfold f94 vRels
  rw [iter_adj vRel (fun a b => Op.bytesLess a.Name b.Name) l false (fun i hi => by
    simp only [f94_0]
    rw [if_pos (by omega), ix_nat hi, w64_succ (by omega)]
    simp only [Option.bind_some, specRel]
    cases vRel l[i]
    · simp
    · by_cases h0 : i = 0
      · subst h0; simp
      · have e : ix l (w64 ((i : Int) - 1)) = some (l[i - 1]'(by omega)) := by rw [w64_of (by omega), show (i : Int) - 1 = ((i - 1 : Nat) : Int) by omega, ix_nat (by omega)]
        simp only [e]
        have : 0 < i := by omega
        cases hb : Op.bytesLess (l[i - 1]'(by omega)).Name l[i].Name <;> simp [h0, this, hb]) (by
    simp only [f94_0]
    rw [if_neg (by omega)])]
  cases good vRel (fun a b => Op.bytesLess a.Name b.Name) l
  · simp
  · simp; omega
theorem impRels {l : List Relation} (h : Big l.length) : f116 l = some (vRels l) := by
  unfold f116 vRels
  rw [iter_adj vRel (fun a b => Op.bytesLess a.Name b.Name) l false (fun i hi => by
    simp only [f116_0]
    rw [if_pos (by omega), ix_nat hi, w64_succ (by omega)]
    simp only [Option.bind_some, impRel]
    cases vRel l[i]
    · simp
    · by_cases h0 : i = 0
      · subst h0; simp
      · have e : ix l (w64 ((i : Int) - 1)) = some (l[i - 1]'(by omega)) := by rw [w64_of (by omega), show (i : Int) - 1 = ((i - 1 : Nat) : Int) by omega, ix_nat (by omega)]
        simp only [e]
        have : 0 < i := by omega
        cases hb : Op.bytesLess (l[i - 1]'(by omega)).Name l[i].Name <;> simp [h0, this, hb]) (by
    simp only [f116_0]
    rw [if_neg (by omega)])]
  cases good vRel (fun a b => Op.bytesLess a.Name b.Name) l
  · simp
  · simp; omega
def arity (l : List Relation) (r : Int) : Int := (l[r.toNat]?.map (·.Arity)).getD 0
def keyLen (l : List Relation) (r : Int) : Int := (l[r.toNat]?.map (·.KeyLength)).getD 0
theorem ix_rel {l : List Relation} {r : Int} (h : btw r 0 (l.length - 1) = true) : ∃ x, ix l r = some x ∧ x ∈ l ∧ x.Arity = arity l r ∧ x.KeyLength = keyLen l r := by
  unfold btw at h; simp only [Bool.and_eq_true, decide_eq_true_eq] at h
  have e : l[r.toNat]? = some (l[r.toNat]'(by omega)) := List.getElem?_eq_getElem _
  refine ⟨l[r.toNat]'(by omega), ?_, List.getElem_mem _, ?_, ?_⟩
  · rw [ix_of h.1, e]
  · unfold arity; rw [e]; rfl
  · unfold keyLen; rw [e]; rfl
end Go.Proofs.YtabmomjfdondnaaH
namespace Go.Proofs.YtabmomjfdondnaaH
open Go
theorem flat_take {L : List (List Int)} {i : Nat} : (L.take i).flatten.length ≤ L.flatten.length := by
  conv => rhs; rw [← List.take_append_drop i L, List.flatten_append, List.length_append]
  omega
theorem concatN {L : List (List Int)} (hL : L.length ≤ 1048576) (h : L.flatten.length ≤ 1048576) : f184 L = some L.flatten := by
  unfold f184
  have q : ∀ i (hi : i < L.length), (L.take (i + 1)).flatten = (L.take i).flatten ++ L[i] := fun i hi => by rw [take_succ' hi, List.flatten_append]; simp
  have h1 := iter_steps (f := f184_0 L) (fun i => (((L.take i).flatten.length : Int), (i : Int))) L.length (L.flatten.length : Int) (fun i hi => by
    have e := congrArg List.length (q i hi)
    rw [List.length_append] at e
    have b := flat_take (L := L) (i := i + 1)
    simp only [f184_0]
    rw [if_pos (by omega), ix_nat hi, Option.bind_some, w64_succ (by omega), w64_of (by omega), if_neg (by omega), Option.bind_some, e]
    rw [Int.natCast_add (List.take i L).flatten.length]) (by
    simp only [f184_0]
    rw [if_neg (by omega), List.take_of_length_le (Nat.le_refl _)])
  simp only [List.take_zero, List.flatten_nil, List.length_nil, Int.natCast_zero, Int.ofNat_zero] at h1
  erw [h1]
  rw [Option.bind_some]
  unfold f198 growN
  rw [if_pos ⟨by omega, by unfold room; omega⟩, Option.bind_some]
  have h2 := iter_steps (f := f184_1 L) (fun i => (L.flatten.length - (L.take i).flatten.length, (L.take i).flatten, (i : Int))) L.length (0, L.flatten) (fun i hi => by
    have e := congrArg List.length (q i hi)
    rw [List.length_append] at e
    have b := flat_take (L := L) (i := i + 1)
    simp only [f184_1]
    rw [if_pos (by omega), ix_nat hi, Option.bind_some, w64_succ (by omega)]
    unfold apps
    rw [if_pos ⟨by omega, by unfold room; omega⟩, Option.bind_some, q i hi]
    simp only [List.length_append]
    rw [Nat.sub_sub]) (by
    simp only [f184_1]
    rw [if_neg (by omega), List.take_of_length_le (Nat.le_refl _), Nat.sub_self])
  simp only [List.take_zero, List.flatten_nil, List.length_nil, Nat.sub_zero, Int.natCast_zero, Int.ofNat_zero] at h2
  rw [Int.toNat_natCast]
  erw [h2]
  simp [nsk]
set_option maxRecDepth 10000 in
theorem bitsLen {n : Int} (h0 : 0 ≤ n) (h : n < 256) : Ens (f200 (IntKind.u64.wrap n)) fun _ => True := by
  have e : IntKind.u64.wrap n = n := by
    have : IntKind.u64.wrap n = n % 18446744073709551616 := by simp [IntKind.wrap, IntKind.bits, IntKind.signed]
    omega
  have e8 : w8 n = n := by
    have : w8 n = n % 256 := by simp [w8, IntKind.wrap, IntKind.bits, IntKind.signed]
    omega
  rw [e]
  unfold f200 f214
  rw [if_neg (by omega), Option.bind_some]
  dsimp only
  rw [if_neg (by omega), Option.bind_some]
  dsimp only
  rw [if_neg (by omega), Option.bind_some]
  dsimp only
  rw [e8, ix_of h0, List.getElem?_eq_getElem (by show n.toNat < 256; omega)]
  exact ⟨_, rfl, trivial⟩
def insR : List Int → Int → List Int
  | [], v => [v]
  | a :: r, v => if v < a then a :: insR r v else v :: a :: r
theorem insR_perm : ∀ {r : List Int} {v : Int}, (insR r v).Perm (v :: r)
  | [], v => by simp [insR]
  | a :: r, v => by
    rw [insR]
    split
    · exact ((insR_perm (r := r) (v := v)).cons a).trans (List.Perm.swap v a r)
    · exact List.Perm.refl _
theorem insR_down : ∀ {r : List Int} {v : Int}, r.Pairwise (fun a b => b ≤ a) → (insR r v).Pairwise (fun a b => b ≤ a)
  | [], v, h => by simp [insR]
  | a :: r, v, h => by
    rw [insR]
    rw [List.pairwise_cons] at h
    split
    · refine List.pairwise_cons.2 ⟨fun b hb => ?_, insR_down h.2⟩
      rcases List.mem_cons.1 (insR_perm.mem_iff.1 hb) with rfl | hb
      · omega
      · exact h.1 b hb
    · refine List.pairwise_cons.2 ⟨fun b hb => ?_, List.pairwise_cons.2 h⟩
      rcases List.mem_cons.1 hb with rfl | hb
      · omega
      · have := h.1 b hb; omega
theorem cmpLess {x y : Int} : f210 x y = some (decide (x < y)) := by
  unfold f210 f203; simp
theorem insLoop : ∀ (r : List Int) (v : Int) (T : List Int), r.length + T.length ≤ 1048576 → iter (f204_1 0) (r.reverse ++ v :: T, (r.length : Int)) = some ((insR r v).reverse ++ T)
  | [], v, T, hl => by
    rw [iter_eq]
    simp [f204_1, insR]
  | a :: r, v, T, hl => by
    simp only [List.length_cons] at hl
    rw [iter_eq]
    simp only [f204_1]
    have e1 : ((a :: r).reverse ++ v :: T) = r.reverse ++ a :: v :: T := by simp
    have e2 : w64 (((a :: r).length : Int) - 1) = (r.length : Int) := by rw [w64_of (by simp; omega)]; simp
    have e3 : ((a :: r).length : Int) = ((r.length + 1 : Nat) : Int) := rfl
    rw [e1, e2, e3, if_pos (by omega)]
    have i1 : ix (r.reverse ++ a :: v :: T) ((r.length + 1 : Nat) : Int) = some v := by
      rw [ix_cast, List.getElem?_append_right (by simp)]; simp
    have i2 : ix (r.reverse ++ a :: v :: T) ((r.length : Nat) : Int) = some a := by
      rw [ix_cast, List.getElem?_append_right (by simp)]; simp
    have s1 : (r.reverse ++ a :: v :: T).set (r.length + 1) a = r.reverse ++ a :: a :: T := by
      rw [List.set_append_right _ _ (by simp)]; simp
    have i3 : ix (r.reverse ++ a :: a :: T) ((r.length : Nat) : Int) = some a := by
      rw [ix_cast, List.getElem?_append_right (by simp)]; simp
    have s2 : (r.reverse ++ a :: a :: T).set r.length v = r.reverse ++ v :: a :: T := by
      rw [List.set_append_right _ _ (by simp)]; simp
    rw [i1, Option.bind_some, i2, Option.bind_some, cmpLess]
    simp only [Option.bind_some]
    rw [insR]
    by_cases c : v < a
    · simp only [c, decide_true, if_true, Int.toNat_natCast, Option.bind_some]
      rw [s1, i3]
      simp only [Option.bind_some, s2]
      rw [insLoop r v (a :: T) (by simp; omega)]
      simp
    · simp [c]
theorem insSort {x : List Int} (h : x.length ≤ 1048575) : Ens (f204 x 0 (x.length : Int)) fun r => r.Pairwise (· ≤ ·) ∧ r.Perm x := by
  unfold f204
  refine Ens.bind (Q := fun r => r.Pairwise (· ≤ ·) ∧ r.Perm x) ?_ fun a ha => Ens.of ha
  rw [w64_of (by omega)]
  cases x with
  | nil =>
    refine ⟨[], ?_, by simp, by simp⟩
    rw [iter_eq]; simp [f204_0]
  | cons y x =>
    simp only [List.length_cons] at h
    refine iter_up (f := f204_0 0 ((y :: x).length : Int)) x.length (fun k s => s.2 = ((k + 1 : Nat) : Int) ∧ ∃ r, s.1 = r.reverse ++ x.drop k ∧ r.length = k + 1 ∧ r.Pairwise (fun a b => b ≤ a) ∧ r.Perm (y :: x.take k)) _ (fun k s hk hI => ?_) (fun s hI => ?_) _ ⟨rfl, [y], by simp, by simp, by simp, by simp⟩
    · obtain ⟨d, j⟩ := s
      obtain ⟨e1, r, e2, e3, e4, e5⟩ := hI
      dsimp only at e1 e2
      subst e1; subst e2
      simp only [f204_0]
      have e : r.reverse ++ x.drop k = r.reverse ++ x[k] :: x.drop (k + 1) := by rw [List.drop_eq_getElem_cons hk]
      rw [if_pos (by simp only [List.length_cons]; omega), e, ← e3, insLoop r x[k] _ (by simp; omega), Option.bind_some, w64_succ (by omega)]
      refine ⟨_, rfl, by simp only [e3], insR r x[k], rfl, by rw [insR_perm.length_eq]; simp [e3], insR_down e4, ?_⟩
      rw [e3, take_succ' hk]
      refine insR_perm.trans ((e5.cons _).trans ?_)
      have : (x[k] :: (y :: x.take k)).Perm ((y :: x.take k) ++ [x[k]]) := (List.perm_append_singleton _ _).symm
      simpa using this
    · obtain ⟨d, j⟩ := s
      obtain ⟨e1, r, e2, e3, e4, e5⟩ := hI
      dsimp only at e1 e2
      subst e1; subst e2
      simp only [f204_0]
      rw [if_neg (by simp only [List.length_cons]; omega)]
      refine ⟨_, rfl, ?_, ?_⟩
      · rw [List.drop_of_length_le (Nat.le_refl _), List.append_nil, List.pairwise_reverse]; exact e4
      · rw [List.drop_of_length_le (Nat.le_refl _), List.append_nil]
        rw [List.take_of_length_le (Nat.le_refl _)] at e5
        exact (List.reverse_perm r).trans e5
theorem sort12 {x : List Int} (h : x.length ≤ 12) : Ens (f185 x) fun r => r.Pairwise (· ≤ ·) ∧ r.Perm x := by
  unfold f185
  obtain ⟨k, hk, _⟩ := bitsLen (n := (x.length : Int)) (by omega) (by omega)
  rw [hk, Option.bind_some]
  refine Ens.bind (Q := fun r => r.Pairwise (· ≤ ·) ∧ r.Perm x) ?_ fun a ha => Ens.of ha
  rw [show (64 : Nat) = 63 + 1 from rfl, f199]
  refine Ens.bind (Q := fun r => r.Pairwise (· ≤ ·) ∧ r.Perm x) ?_ fun a ha => Ens.of ha
  rw [iter_eq]
  simp only [f199_0]
  obtain ⟨r, hr, hq⟩ := insSort (x := x) (by omega)
  rw [w64_of (by omega), if_pos (by omega), hr]
  exact ⟨r, rfl, hq⟩
theorem compact_up : ∀ {l : List Int}, l.Pairwise (· ≤ ·) → (compactL l).Pairwise (· < ·) ∧ ∀ y, y ∈ compactL l ↔ y ∈ l
  | [], h => by simp [compactL]
  | [a], h => by simp [compactL]
  | a :: b :: r, h => by
    rw [List.pairwise_cons] at h
    obtain ⟨i1, i2⟩ := compact_up h.2
    rw [compactL]
    split
    · rename_i e
      subst e
      exact ⟨i1, fun y => by rw [i2]; simp⟩
    · rename_i e
      refine ⟨List.pairwise_cons.2 ⟨fun y hy => ?_, i1⟩, fun y => by simp [i2]⟩
      rw [i2] at hy
      have h1 := h.1 b (by simp)
      rcases List.mem_cons.1 hy with rfl | hy
      · omega
      · have := (List.pairwise_cons.1 h.2).1 y hy; omega
theorem union12 {a b : List Int} (h : a.length + b.length ≤ 12) : Ens (f165 a b) fun r => r.Pairwise (· < ·) ∧ (∀ y, y ∈ r ↔ y ∈ a ∨ y ∈ b) ∧ r.length ≤ 12 := by
  unfold f165
  have e : [a, b].flatten = a ++ b := by simp
  rw [concatN (by simp) (by rw [e]; simp; omega), e, Option.bind_some]
  refine Ens.bind (sort12 (by simp; omega)) fun r hr => ?_
  have hl := hr.2.length_eq
  simp only [List.length_append] at hl
  unfold f186 compactN
  rw [if_pos (by omega)]
  obtain ⟨c1, c2⟩ := compact_up hr.1
  exact Ens.of ⟨c1, fun y => by rw [c2, hr.2.mem_iff, List.mem_append], by have := compactL_len r; omega⟩
theorem up_ext : ∀ {a b : List Int}, a.Pairwise (· < ·) → b.Pairwise (· < ·) → (∀ y, y ∈ a ↔ y ∈ b) → a = b
  | [], [], _, _, _ => rfl
  | [], y :: b, _, _, h => by have := (h y).2 (by simp); cases this
  | x :: a, [], _, _, h => by have := (h x).1 (by simp); cases this
  | x :: a, y :: b, ha, hb, h => by
    rw [List.pairwise_cons] at ha hb
    have e : x = y := by
      have h1 := (h x).1 (by simp)
      have h2 := (h y).2 (by simp)
      rcases List.mem_cons.1 h1 with e | h1
      · exact e
      · rcases List.mem_cons.1 h2 with e | h2
        · exact e.symm
        · have := ha.1 y h2; have := hb.1 x h1; omega
    subst e
    congr 1
    refine up_ext ha.2 hb.2 fun y => ?_
    have := h y
    constructor
    · intro hy
      have q := ha.1 y hy
      rcases List.mem_cons.1 (this.1 (List.mem_cons.2 (.inr hy))) with e | e
      · omega
      · exact e
    · intro hy
      have q := hb.1 y hy
      rcases List.mem_cons.1 (this.2 (List.mem_cons.2 (.inr hy))) with e | e
      · omega
      · exact e
end Go.Proofs.YtabmomjfdondnaaH
namespace Go.Proofs.YtabmomjfdondnaaH
open Go
def avars (t : List Int) : List Int := (List.range 4).flatMap fun v => if t.contains ((v : Nat) : Int) = true then [((v : Nat) : Int)] else []
theorem avars_up {t : List Int} : (avars t).Pairwise (· < ·) := by
  unfold avars
  simp only [List.range, List.range.loop, List.flatMap_cons, List.flatMap_nil, List.append_nil]
  generalize t.contains ((0 : Nat) : Int) = a
  generalize t.contains ((1 : Nat) : Int) = b
  generalize t.contains ((2 : Nat) : Int) = c
  generalize t.contains ((3 : Nat) : Int) = d
  cases a <;> cases b <;> cases c <;> cases d <;> simp
theorem avars_mem {t : List Int} {y : Int} : y ∈ avars t ↔ y ∈ t ∧ btw y 0 3 = true := by
  unfold avars btw
  simp only [List.mem_flatMap, List.mem_range, Bool.and_eq_true, decide_eq_true_eq]
  constructor
  · rintro ⟨v, hv, h⟩
    by_cases c : t.contains ((v : Nat) : Int) = true
    · rw [if_pos c, List.mem_singleton] at h
      subst h
      exact ⟨by simpa using c, by omega, by omega⟩
    · rw [if_neg c] at h; cases h
  · rintro ⟨h, h1, h2⟩
    refine ⟨y.toNat, by omega, ?_⟩
    rw [Int.toNat_of_nonneg h1, if_pos (by simpa using h)]
    simp
theorem avars_len {t : List Int} : (avars t).length ≤ 4 := by
  unfold avars
  simp only [List.range, List.range.loop, List.flatMap_cons, List.flatMap_nil, List.append_nil, List.length_append]
  split <;> split <;> split <;> split <;> simp
theorem specVars {a : Atom} (h : Big a.Terms.length) : f113 a = some (avars a.Terms) := by
  unfold f113
  rw [iter_flat (List.range 4) (fun v => if a.Terms.contains ((v : Nat) : Int) = true then [((v : Nat) : Int)] else []) id (fun k hk => by
    simp only [List.length_range] at hk
    have el : (((List.range 4).take k).flatMap fun v => if a.Terms.contains ((v : Nat) : Int) = true then [((v : Nat) : Int)] else []).length ≤ k := by
      have := take_flat_le (l := List.range 4) (i := k) (g := fun v => if a.Terms.contains ((v : Nat) : Int) = true then [((v : Nat) : Int)] else []) (m := 1) (fun a => by split <;> simp)
      omega
    generalize ((List.range 4).take k).flatMap (fun v => if a.Terms.contains ((v : Nat) : Int) = true then [((v : Nat) : Int)] else []) = out at el ⊢
    simp only [List.getElem_range]
    simp only [f113_0]
    rw [if_pos (by omega), hasI h, Option.bind_some, w64_succ (by omega)]
    by_cases c : a.Terms.contains ((k : Nat) : Int) = true
    · rw [if_pos c, if_pos c, app_fits (by simp; omega)]; rfl
    · rw [if_neg c, if_neg c]; simp) (by
    simp only [f113_0]
    rw [if_neg (by simp)]; rfl)]
  rfl
theorem impVars {a : Atom} (h : a.Terms.length ≤ 12) : f120 a = some (avars a.Terms) := by
  unfold f120
  rw [iter_flat a.Terms (fun v => if btw v 0 3 = true then [v] else []) id (fun k hk => by
    have el : ((a.Terms.take k).flatMap fun v => if btw v 0 3 = true then [v] else []).length ≤ k := by
      have := take_flat_le (l := a.Terms) (i := k) (g := fun v => if btw v 0 3 = true then [v] else []) (m := 1) (fun a => by split <;> simp)
      omega
    generalize (a.Terms.take k).flatMap (fun v => if btw v 0 3 = true then [v] else []) = out at el ⊢
    simp only [f120_0]
    rw [if_pos (by omega), ix_nat hk, Option.bind_some, impIn, Option.bind_some, w64_succ (by omega)]
    by_cases c : btw a.Terms[k] 0 3 = true
    · rw [if_pos c, if_pos c, app_fits (by simp; omega)]; rfl
    · rw [if_neg c, if_neg c]; simp) (by
    simp only [f120_0]
    rw [if_neg (by omega)]; rfl)]
  rw [Option.bind_some]
  dsimp only [id]
  have el : (a.Terms.flatMap fun v => if btw v 0 3 = true then [v] else []).length ≤ a.Terms.length := by
    have := take_flat_le (l := a.Terms) (i := a.Terms.length) (g := fun v => if btw v 0 3 = true then [v] else []) (m := 1) (fun a => by split <;> simp)
    rw [List.take_of_length_le (Nat.le_refl _)] at this
    omega
  obtain ⟨r, h1, h2, h3, _⟩ := union12 (a := a.Terms.flatMap fun v => if btw v 0 3 = true then [v] else []) (b := []) (by rw [List.length_nil]; omega)
  rw [h1, Option.bind_some]
  congr 1
  refine up_ext h2 avars_up fun y => ?_
  rw [h3, avars_mem, List.mem_flatMap]
  constructor
  · rintro (⟨v, hv, h⟩ | h)
    · by_cases c : btw v 0 3 = true
      · rw [if_pos c, List.mem_singleton] at h; subst h; exact ⟨hv, c⟩
      · rw [if_neg c] at h; cases h
    · cases h
  · rintro ⟨h, c⟩
    exact .inl ⟨y, h, by rw [if_pos c]; simp⟩
def kvars (l : List Relation) (a : Atom) : List Int := if (btw a.Relation 0 (l.length - 1) && btw (keyLen l a.Relation) 0 a.Terms.length) = true then avars (a.Terms.take (keyLen l a.Relation).toNat) else []
theorem kvars_len {l : List Relation} {a : Atom} : (kvars l a).length ≤ 4 := by
  unfold kvars; split
  · exact avars_len
  · simp
theorem specKV {l : List Relation} {a : Atom} (hl : Big l.length) (h : Big a.Terms.length) : f112 l a = some (kvars l a) := by
  unfold f112 kvars
  rw [w64_of (by omega), specIn, Option.bind_some]
  cases hb : btw a.Relation 0 (l.length - 1)
  · simp
  · obtain ⟨x, h1, _, _, h2⟩ := ix_rel hb
    rw [h1]
    simp only [not_true_eq_false, if_false, Option.bind_some, specIn, h2]
    cases hk : btw (keyLen l a.Relation) 0 a.Terms.length
    · simp
    · unfold btw at hk; simp only [Bool.and_eq_true, decide_eq_true_eq] at hk
      simp only [not_true_eq_false, decide_false, Bool.false_eq_true, if_false, Bool.and_self, if_true]
      rw [cutL_ok (by omega) hk.1 hk.2, Option.bind_some, specVars (by simp; omega)]; rfl
theorem impKV {l : List Relation} {a : Atom} (hl : Big l.length) (h : a.Terms.length ≤ 12) : f119 l a = some (kvars l a) := by
  unfold f119 kvars
  rw [w64_of (by omega), impIn, Option.bind_some]
  cases hb : btw a.Relation 0 (l.length - 1)
  · simp
  · obtain ⟨x, h1, _, _, h2⟩ := ix_rel hb
    rw [h1]
    simp only [not_true_eq_false, if_false, Option.bind_some, impIn, h2]
    cases hk : btw (keyLen l a.Relation) 0 a.Terms.length
    · simp
    · unfold btw at hk; simp only [Bool.and_eq_true, decide_eq_true_eq] at hk
      simp only [not_true_eq_false, decide_false, Bool.false_eq_true, if_false, Bool.and_self, if_true]
      rw [cutL_ok (by omega) hk.1 hk.2, Option.bind_some, impVars (by simp; omega)]; rfl
theorem has14 {l w : List Int} (hl : Big l.length) (hw : Big w.length) : f111 l w = some (w.all l.contains) := by
  unfold f111
  rw [iter_ex w (fun v => !l.contains v) false (fun i hi => by
    simp only [f111_0]
    rw [if_pos (by omega), ix_nat hi, w64_succ (by omega)]
    simp only [Option.bind_some, hasI hl]
    cases l.contains w[i] <;> simp) (by
    simp only [f111_0]
    rw [if_neg (by omega)])]
  rw [any_not]
  cases w.all l.contains <;> simp
theorem vRels_arity {l : List Relation} {r : Int} (h : vRels l = true) (hb : btw r 0 (l.length - 1) = true) : arity l r ≤ 3 := by
  obtain ⟨x, h1, h2, h3, _⟩ := ix_rel hb
  unfold vRels at h; simp only [Bool.and_eq_true] at h
  obtain ⟨i, hi, rfl⟩ := List.mem_iff_getElem.1 h2
  have := (good_of h.1 hi).1
  unfold vRel btw at this
  simp only [Bool.and_eq_true, decide_eq_true_eq] at this
  omega
end Go.Proofs.YtabmomjfdondnaaH
namespace Go.Proofs.YtabmomjfdondnaaH
open Go
def stepSize (a : RewritingStep) : Nat := a.Atom.Terms.length + a.Existential.length + a.Universal.length
def rwSize (l : List RewritingStep) : Nat := l.length + (l.map stepSize).sum
theorem szAt {a : Atom} {n : Int} (h : ok a) (h0 : 0 ≤ n) (h1 : n ≤ 1048576) : f161 a n = some (lft n a.Terms.length) := by
  unfold f161
  rw [szI h.2.1 h0 h1, Option.bind_some]
  split
  · rename_i hlt; rw [lft_bad hlt]
  · rfl
theorem lft_lft {n : Int} {a b : Nat} (h : ¬ lft n a < 0) : lft (lft n a) b = lft n (a + b) := by
  obtain ⟨e, h'⟩ := lft_pos h
  rw [e, lft_sub (by omega)]
theorem lft_neg_add {n : Int} {a b : Nat} (h : lft n a < 0) : lft n (a + b) = -1 := by
  have := lft_neg.1 h
  unfold lft; rw [if_neg (by omega)]
theorem szStep {a : RewritingStep} {n : Int} (h : ok a) (h0 : 0 ≤ n) (h1 : n ≤ 1048576) : f110 a n = some (lft n (stepSize a)) := by
  unfold f110 stepSize
  rw [szAt h.1 h0 h1, Option.bind_some]
  by_cases c1 : lft n a.Atom.Terms.length < 0
  · rw [if_pos c1, Nat.add_assoc, lft_neg_add c1]
  · rw [if_neg c1]
    have b1 := lft_pos c1
    rw [szI h.2.1.1 (by omega) (by omega), Option.bind_some, lft_lft c1]
    by_cases c2 : lft n (a.Atom.Terms.length + a.Existential.length) < 0
    · rw [if_pos c2, lft_neg_add c2]
    · rw [if_neg c2]
      have b2 := lft_pos c2
      rw [szI h.2.2.1 (by omega) (by omega), Option.bind_some, lft_lft c2]
      split
      · rename_i hlt; rw [lft_bad hlt]
      · rfl
theorem szRw {a : List RewritingStep} {n : Int} (h : ok a) (h0 : 0 ≤ n) (h1 : n ≤ 1048576) : f48 a n = some (lft n (rwSize a)) := by
  obtain ⟨h, h'⟩ := h
  unfold f48 rwSize
  rw [w64_of (by omega)]
  by_cases hc : n < (a.length : Int)
  · rw [if_pos (by omega)]
    unfold lft
    rw [if_neg (by omega)]
  · rw [if_neg (by omega)]
    rw [iter_sz stepSize a _ (by omega) (fun i hi b hb hb' => by
      simp only [f48_0]
      rw [if_pos (by omega), ix_nat hi, w64_succ (by omega)]
      simp only [Option.bind_some, szStep (h' _ (List.getElem_mem hi)) hb (by omega)]
      split <;> rfl) (fun b => by
      simp only [f48_0]
      rw [if_neg (by omega)]), lft_sub hc]
    split
    · rename_i hlt
      rw [lft_bad hlt]; rfl
    · rfl
def FitsS (a : RewritingStep) : Prop := a.Atom.Terms.length ≤ 1048576 ∧ a.Existential.length ≤ 1048576 ∧ a.Universal.length ≤ 1048576
theorem rw_fits {l : List RewritingStep} (h : rwSize l ≤ 1048576) : l.length ≤ 1048576 ∧ ∀ x ∈ l, FitsS x := by
  unfold rwSize at h
  refine ⟨by omega, fun x hx => ?_⟩
  have := mem_le_sum (s := stepSize) hx
  have e : stepSize x = x.Atom.Terms.length + x.Existential.length + x.Universal.length := rfl
  exact ⟨by omega, by omega, by omega⟩
theorem toStep {a : RewritingStep} (h : FitsS a) : f115 a = some a := by
  unfold f115 f162
  rw [toI h.1, toI h.2.1, toI h.2.2]; rfl
theorem toRw {a : List RewritingStep} (h : a.length ≤ 1048576) (h' : ∀ x ∈ a, FitsS x) : f51 a = some a := by
  unfold f51
  rw [mkl_ok (by omega) (by omega) (by omega)]
  have : iter (f51_0 a) (List.replicate (a.length : Int).toNat (({ Atom := ({ Relation := 0, Terms := [] } : Atom), Existential := [], Universal := [] } : RewritingStep) : RewritingStep), 0) = some a := iter_copy (by simp) (fun i hi out ho => by
    simp only [f51_0]
    rw [if_pos (by omega), ix_nat hi, ix_nat ho, Int.toNat_natCast, w64_succ (by omega)]
    simp only [Option.bind_some, toStep (h' _ (List.getElem_mem hi))]) (fun out => by
    simp only [f51_0]
    rw [if_neg (by omega)])
  simp only [Option.bind_some, this]
theorem eqStep {a : RewritingStep} (h : FitsS a) : f122 a a = some true := by
  unfold f122 f166
  rw [eqI (by have := h.1; omega), eqI (by have := h.2.1; omega), eqI (by have := h.2.2; omega)]; simp
theorem eqRw {a : List RewritingStep} (h : a.length ≤ 1048576) (h' : ∀ x ∈ a, FitsS x) : f54 a a = some true := by
  unfold f54
  rw [if_neg (by simp)]
  rw [iter_ex (List.range a.length) (fun _ => false) false (fun i hi => by
    simp only [f54_0]
    simp only [List.length_range] at hi
    rw [if_pos (by omega), ix_nat hi, w64_succ (by omega)]
    simp only [Option.bind_some, eqStep (h' _ (List.getElem_mem hi))]
    simp) (by
    simp only [f54_0]
    rw [if_neg (by simp)])]
  simp
def vStep (l : List Relation) (s : RewritingStep) : Bool :=
  vRels l && (btw s.Atom.Relation 0 (l.length - 1) && (decide ((s.Atom.Terms.length : Int) = arity l s.Atom.Relation) && ((s.Atom.Terms.all fun v => btw v (-10) 3) && (s.Existential.all (kvars l s.Atom).contains && s.Universal.all (avars s.Atom.Terms).contains))))
def vRw (l : List Relation) (f : List RewritingStep) : Bool := f.all (vStep l) && decide (f.length ≤ 3)
theorem specRw {l : List Relation} {f : List RewritingStep} (hl : Big l.length) (hf : Big f.length) (h : ∀ x ∈ f, FitsS x) : f49 l f = some (vRw l f) := by
  unfold f49
  rw [iter_ex f (fun s => !vStep l s) false (fun i hi => by
    have hs := h _ (List.getElem_mem hi)
    simp only [f49_0]
    rw [if_pos (by omega), ix_nat hi, w64_succ (by omega)]
    generalize f[i] = s at hs
    obtain ⟨s1, s2, s3⟩ := hs
    unfold vStep
    rw [Option.bind_some, specRels hl, Option.bind_some, w64_of (by omega)]
    cases vRels l
    · simp
    simp only [specIn]
    cases hb : btw s.Atom.Relation 0 (l.length - 1)
    · simp
    obtain ⟨x, h1, _, h2, _⟩ := ix_rel hb
    rw [h1]
    by_cases ha : (s.Atom.Terms.length : Int) = arity l s.Atom.Relation
    · rw [iter_ex s.Atom.Terms (fun v => !btw v (-10) 3) false (fun i hi => by
        simp only [f49_1]
        rw [if_pos (by omega), ix_nat hi, w64_succ (by omega)]
        simp only [Option.bind_some, specIn]
        cases btw s.Atom.Terms[i] (-10) 3 <;> simp) (by
        simp only [f49_1]
        rw [if_neg (by omega)]), any_not]
      have k1 := kvars_len (l := l) (a := s.Atom)
      have k2 := avars_len (t := s.Atom.Terms)
      cases s.Atom.Terms.all (fun v => btw v (-10) 3)
      · simp [h2, ha]
      · simp only [h2, ha, not_true_eq_false, if_false, Option.bind_some, ne_eq, decide_false, Bool.false_eq_true, Bool.not_true, specKV hl (show Big s.Atom.Terms.length by omega), has14 (l := kvars l s.Atom) (w := s.Existential) (by omega) (by omega),
          specVars (a := s.Atom) (by omega), has14 (l := avars s.Atom.Terms) (w := s.Universal) (by omega) (by omega)]
        cases s.Existential.all (kvars l s.Atom).contains
        · simp
        · cases s.Universal.all (avars s.Atom.Terms).contains <;> simp
    · simp [h2, ha]) (by
    simp only [f49_0]
    rw [if_neg (by omega)]), any_not]
  unfold vRw
  cases f.all (vStep l)
  · simp
  · simp; omega
theorem impRw {l : List Relation} {f : List RewritingStep} (hl : Big l.length) (hf : Big f.length) (h : ∀ x ∈ f, FitsS x) : f52 l f = some (vRw l f) := by
  unfold f52
  rw [iter_ex (List.range f.length) (fun i => decide (3 ≤ i) || !(match f[i]? with | some s => vStep l s | none => true)) false (fun i hi => by
    simp only [List.length_range] at hi
    simp only [List.getElem_range]
    rw [List.getElem?_eq_getElem hi]
    dsimp only
    have hs := h _ (List.getElem_mem hi)
    simp only [f52_0]
    rw [if_pos (by omega), ix_nat hi, w64_succ (by omega)]
    generalize f[i] = s at hs
    obtain ⟨s1, s2, s3⟩ := hs
    by_cases c3 : 3 ≤ i
    · rw [Option.bind_some, if_pos (by omega)]; simp [c3]
    rw [Option.bind_some, if_neg (by omega)]
    simp only [c3, decide_false, Bool.false_or]
    unfold vStep
    rw [impRels hl, Option.bind_some, w64_of (by omega)]
    cases hv : vRels l
    · simp
    simp only [impIn]
    cases hb : btw s.Atom.Relation 0 (l.length - 1)
    · simp
    obtain ⟨x, h1, _, h2, _⟩ := ix_rel hb
    rw [h1]
    by_cases ha : (s.Atom.Terms.length : Int) = arity l s.Atom.Relation
    · have h3 := vRels_arity hv hb
      have i1 : f74 s.Atom.Terms (fun x0 => f117 x0) = some (s.Atom.Terms.any fun v => !btw v (-10) 3) := indexI (by omega) (fun v _ => by
        unfold f117
        rw [impIn]; cases btw v (-10) 3 <;> simp)
      rw [i1, any_not]
      have k1 := kvars_len (l := l) (a := s.Atom)
      have k2 := avars_len (t := s.Atom.Terms)
      cases s.Atom.Terms.all (fun v => btw v (-10) 3)
      · simp [h2, ha]
      · simp only [h2, ha, not_true_eq_false, if_false, Option.bind_some, ne_eq, decide_false, Bool.false_eq_true, Bool.not_true, impKV hl (show s.Atom.Terms.length ≤ 12 by omega), subset (a := s.Existential) (b := kvars l s.Atom) (by omega) (by omega),
          impVars (a := s.Atom) (by omega), subset (a := s.Universal) (b := avars s.Atom.Terms) (by omega) (by omega)]
        cases s.Existential.all (kvars l s.Atom).contains
        · simp
        · cases s.Universal.all (avars s.Atom.Terms).contains <;> simp
    · simp [h2, ha]) (by
    simp only [f52_0]
    rw [if_neg (by simp)])]
  have e : ((List.range f.length).any fun i => decide (3 ≤ i) || !(match f[i]? with | some s => vStep l s | none => true)) = !vRw l f := by
    unfold vRw
    by_cases hn : f.length ≤ 3
    · have e1 : ((List.range f.length).any fun i => decide (3 ≤ i) || !(match f[i]? with | some s => vStep l s | none => true)) = f.any fun s => !vStep l s := by
        rw [Bool.eq_iff_iff]
        simp only [List.any_eq_true, List.mem_range]
        constructor
        · rintro ⟨i, hi, hp⟩
          rw [List.getElem?_eq_getElem hi] at hp
          simp only [show ¬ 3 ≤ i by omega, decide_false, Bool.false_or] at hp
          exact ⟨f[i], List.getElem_mem hi, hp⟩
        · rintro ⟨s, hs, hp⟩
          obtain ⟨i, hi, rfl⟩ := List.mem_iff_getElem.1 hs
          refine ⟨i, hi, ?_⟩
          rw [List.getElem?_eq_getElem hi]
          dsimp only
          rw [hp]; simp
      rw [e1, any_not]; simp [hn]
    · simp only [hn, decide_false, Bool.and_false, Bool.not_false]
      rw [List.any_eq_true]
      exact ⟨3, by simp; omega, by simp⟩
  rw [e]
  cases vRw l f <;> simp
end Go.Proofs.YtabmomjfdondnaaH
namespace Go.Proofs.YtabmomjfdondnaaH
open Go
theorem lawFnExactIsValidRewriting (a : List Relation) (ha : ok a) (b : List RewritingStep) (hb : ok b) : f8 a b = some true := by
  unfold f8
  rw [szRs ha (by omega) (by omega), Option.bind_some]
  change (if lft 1048576 (relSize a) < 0 then _ else _) = _
  by_cases h1 : lft 1048576 (relSize a) < 0
  · rw [if_pos h1]
  rw [if_neg h1]
  have b1 := lft_pos h1
  change (f48 b (lft 1048576 (relSize a))).bind _ = _
  rw [szRw hb (by omega) (by omega), Option.bind_some, lft_lft h1]
  by_cases h2 : lft 1048576 (relSize a + rwSize b) < 0
  · rw [if_pos h2]
  rw [if_neg h2]
  have b2 := lft_pos h2
  obtain ⟨f1, f2⟩ := rw_fits (l := b) (by omega)
  have f0 : a.length ≤ 1048576 := by have := b1.2; unfold relSize at this; omega
  simp only [toRs f0, toRw f1 f2, specRw (l := a) (f := b) (by omega) (by omega) f2, impRw (l := a) (f := b) (by omega) (by omega) f2, eqRs (a := a) (by omega), eqRw f1 f2, Option.bind_some]
  simp
end Go.Proofs.YtabmomjfdondnaaH
