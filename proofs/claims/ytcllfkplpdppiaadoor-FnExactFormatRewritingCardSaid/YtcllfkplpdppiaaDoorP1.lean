import Derived.Test.YtcllfkplpdppiaaDoorTd1
import Derived.Test.YtcllfkplpdppiaaDoorX3
import Derived.Lib.ItoaLen
import Derived.Lib.Join
import Derived.Test.YtcllfkplpdppiaaDoorRd1
set_option linter.unusedVariables false
set_option linter.unusedSimpArgs false
set_option linter.defProp false
set_option linter.unusedSectionVars false
namespace Go.Proofs.YtcllfkplpdppiaaDoorH
theorem bS {α β : Type} {a : α} {f : α → Option β} : (some a).bind f = f a := rfl
end Go.Proofs.YtcllfkplpdppiaaDoorH
namespace Go.Proofs.YtcllfkplpdppiaaDoorH
open Go
def dgs (n : Int) : List UInt8 := if n = 0 then [] else Lib.decDigits n.natAbs
theorem dgs_step {n : Int} (h : n ≠ 0) : dgs n = dgs (n.tdiv 10) ++ [UInt8.ofNat (48 + n.natAbs % 10)] := by
 unfold dgs
 have e : (n.tdiv 10).natAbs = n.natAbs / 10 := by rw [Int.natAbs_tdiv]; rfl
 rw [if_neg h, Lib.decDigits]
 by_cases c : n.natAbs < 10
 ·have e0 : n.tdiv 10 = 0 := Int.natAbs_eq_zero.1 (by rw [e]; omega)
  rw [dif_pos c, if_pos e0, List.nil_append, Nat.mod_eq_of_lt c]
 ·have e0 : ¬ n.tdiv 10 = 0 := fun h0 => by rw [h0] at e; simp at e; omega
  rw [dif_neg c, if_neg e0, e]
theorem fmt_loop : ∀ (m : Nat) (n : Int) (out : List UInt8), (-9223372036854775808 ≤ n ∧ n ≤ 9223372036854775807) → n.natAbs < 10 ^ m → out.length + m ≤ 100 → iter f25_0 (n, out) = some (dgs n ++ out) := by
 intro m
 induction m with
 | zero =>
  intro n out _ hn _
  have : n = 0 := by simp at hn; omega
  subst this
  rw [iter_eq]
  simp [f25_0, dgs]
 | succ m ih =>
  intro n out hm hn ho
  by_cases h : n = 0
  ·subst h
   rw [iter_eq]
   simp [f25_0, dgs]
  ·rw [iter_eq]
   simp only [f25_0]
   rw [if_pos h]
   have e1 : (n.tmod 10).natAbs = n.natAbs % 10 := by rw [Int.natAbs_tmod]; rfl
   have e2 : (n.tdiv 10).natAbs = n.natAbs / 10 := by rw [Int.natAbs_tdiv]; rfl
   have hd : (if n.tmod 10 < 0 then some (w64 (-(n.tmod 10))) else some (n.tmod 10) : Option Int) = some ((n.natAbs % 10 : Nat) : Int) := by
    split
    ·rw [w64_of (by omega)]; congr 1; omega
    ·congr 1; omega
   have hlt : n.natAbs % 10 < 10 := Nat.mod_lt _ (by decide)
   have hb : ∀ d : Nat, d < 10 → UInt8.ofNat (w8 (w64 (48 + (d : Int)))).toNat = UInt8.ofNat (48 + d) := by
    intro d hd
    rw [w64_of (by omega)]
    have : d = 0 ∨ d = 1 ∨ d = 2 ∨ d = 3 ∨ d = 4 ∨ d = 5 ∨ d = 6 ∨ d = 7 ∨ d = 8 ∨ d = 9 := by omega
    rcases this with rfl | rfl | rfl | rfl | rfl | rfl | rfl | rfl | rfl | rfl <;> rfl
   rw [hd, bS, hb _ hlt, cat_ok (by simp; omega), bS]
   rw [w64_of (by omega)]
   dsimp only
   rw [ih _ _ (by omega) (by rw [e2]; rw [Nat.pow_succ] at hn; omega) (by simp; omega), dgs_step h, List.append_assoc]
theorem fmtI {n : Int} (h0 : -9223372036854775808 ≤ n) (h1 : n ≤ 9223372036854775807) : f25 n = some (Lib.itoa n) := by
 unfold f25 Lib.itoa
 by_cases h : n = 0
 ·subst h
  rw [if_pos rfl, if_neg (by decide), Lib.decDigits]; rfl
 ·have hl : (dgs n).length ≤ 40 := by
   unfold dgs
   rw [if_neg h, Lib.decDigits_length]
   have := Lib.nDigits_le20 n.natAbs (by omega)
   omega
  rw [if_neg h, fmt_loop 20 n [] ⟨h0, h1⟩ (by omega) (by simp), bS, List.append_nil]
  by_cases c : n < 0
  ·rw [if_pos c, if_pos c, cat_ok (by simp; omega), bS]
   unfold dgs
   rw [if_neg h]; rfl
  ·rw [if_neg c, if_neg c]
   unfold dgs
   rw [if_neg h, show n.natAbs = n.toNat by omega]
theorem itoI {n : Int} (h0 : -9223372036854775808 ≤ n) (h1 : n ≤ 9223372036854775807) : f30 n = some (Lib.itoa n) := by
 unfold f30 f60 itoaN
 rw [if_pos ⟨h0, h1⟩]; rfl
theorem join_snoc (L : List (List UInt8)) (x sep : List UInt8) : Lib.join (L ++ [x]) sep = if L = [] then x else Lib.join L sep ++ sep ++ x := by
 cases L with
 | nil => rw [if_pos rfl, List.nil_append, Lib.join_one]
 | cons a r =>
  rw [if_neg (by simp), List.cons_append, Lib.join_cons, Lib.join_cons]
  simp [Lib.joinTail]
theorem join_flat (L : List (List UInt8)) : Lib.join L [] = L.flatten := by
 cases L with
 | nil => rfl
 | cons a r => rw [Lib.join_cons]; simp [Lib.joinTail]
theorem flatK {K : Nat} : ∀ {L : List (List UInt8)}, (∀ x ∈ L, x.length ≤ K) → L.flatten.length ≤ K * L.length
 | [], _ => by simp
 | x :: L, h => by
  have h1 := h x (by simp)
  have h2 := flatK (L := L) fun y hy => h y (by simp [hy])
  simp only [List.flatten_cons, List.length_append, List.length_cons, Nat.mul_succ]
  omega
theorem join_len {K : Nat} {sep : List UInt8} {L : List (List UInt8)} (h : ∀ x ∈ L, x.length ≤ K) : (Lib.join L sep).length ≤ (K + sep.length) * L.length := by
 cases L with
 | nil => simp [Lib.join_nil]
 | cons a r =>
  have h1 := h a (by simp)
  have h2 : (Lib.joinTail sep r).length ≤ (K + sep.length) * r.length := by
   unfold Lib.joinTail
   have := flatK (K := K + sep.length) (L := r.map (sep ++ ·)) (fun x hx => by
    obtain ⟨y, hy, rfl⟩ := List.mem_map.1 hx
    have := h y (by simp [hy])
    simp; omega)
   simpa using this
  rw [Lib.join_cons, List.length_append, List.length_cons, Nat.mul_succ]
  omega
theorem joinI {xs : List (List UInt8)} {sep : List UInt8} (h1 : xs.length ≤ 140737488355328) (h2 : (Lib.join xs sep).length ≤ 140737488355328) : f31 xs sep = some (Lib.join xs sep) := by
 unfold f31 joinN
 rw [if_pos ⟨h1, h2⟩]
theorem iter_words {f : List UInt8 × Int → Option ((List UInt8 × Int) ⊕ List UInt8)} (L : List (List UInt8)) (K : Nat) (hK : ∀ x ∈ L, x.length ≤ K)
  (hs : ∀ (i : Nat) (h : i < L.length) (s : List UInt8), s.length ≤ (K + 1) * i → f (s, (i : Int)) = some (.inl ((if i = 0 then s else s ++ [32]) ++ L[i], ((i + 1 : Nat) : Int)))) (he : ∀ s, f (s, (L.length : Int)) = some (.inr s)) :
  iter f ([], 0) = some (Lib.join L [32]) := by
 have := iter_steps (f := f) (fun i => (Lib.join (L.take i) [32], (i : Int))) L.length (Lib.join L [32]) (fun i hi => by
  rw [hs i hi _ (by
   have := join_len (sep := [32]) (L := L.take i) fun x hx => hK x (List.mem_of_mem_take hx)
   rw [List.length_take, show min i L.length = i by omega] at this
   simpa using this), take_succ' hi, join_snoc]
  congr 3
  by_cases c : i = 0
  ·subst c; simp [Lib.join_nil]
  ·rw [if_neg c, if_neg (fun e => by
    have := congrArg List.length e
    rw [List.length_take, List.length_nil] at this; omega)]) (by
  rw [he, List.take_of_length_le (Nat.le_refl _)])
 simpa [Lib.join_nil] using this
def bar (k : Nat) (L : List (List UInt8)) : List UInt8 := (L.take k).flatten ++ if k < L.length then 124 :: (L.drop k).flatten else []
theorem bar_nil {k : Nat} : bar k [] = [] := by simp [bar]
theorem bar_snoc {k : Nat} {L : List (List UInt8)} {x : List UInt8} : bar k (L ++ [x]) = (if L.length = k then bar k L ++ [124] else bar k L) ++ x := by
 unfold bar
 rw [List.length_append, List.length_singleton]
 rcases Nat.lt_trichotomy L.length k with h | h | h
 ·rw [if_neg (by omega), if_neg (by omega), if_neg (by omega), List.take_of_length_le (by simp; omega), List.take_of_length_le (by omega)]
  simp
 ·rw [if_pos (by omega), if_pos h, if_neg (by omega), List.take_of_length_le (l := L) (by omega), ← h]
  simp
 ·rw [if_pos (by omega), if_neg (by omega), if_pos h, List.take_append_of_le_length (by omega), List.drop_append_of_le_length (by omega)]
  simp
theorem bar_len {k K : Nat} {L : List (List UInt8)} (h : ∀ x ∈ L, x.length ≤ K) : (bar k L).length ≤ K * L.length + 1 := by
 unfold bar
 have h1 := flatK (L := L.take k) fun x hx => h x (List.mem_of_mem_take hx)
 have h2 := flatK (L := L.drop k) fun x hx => h x (List.mem_of_mem_drop hx)
 rw [List.length_take] at h1
 rw [List.length_drop] at h2
 have e : min k L.length + (L.length - k) = L.length := by omega
 have e2 : K * min k L.length + K * (L.length - k) = K * L.length := by rw [← Nat.mul_add, e]
 rw [List.length_append]
 split
 ·rw [List.length_cons]; omega
 ·rw [List.length_nil]; omega
theorem iter_bar {f : List UInt8 × Int → Option ((List UInt8 × Int) ⊕ List UInt8)} (s0 : List UInt8) (k : Int) (L : List (List UInt8)) (K : Nat) (hk : 0 ≤ k) (hK : ∀ x ∈ L, x.length ≤ K)
  (hs : ∀ (i : Nat) (h : i < L.length) (s : List UInt8), s.length ≤ s0.length + (K * i + 1) → f (s, (i : Int)) = some (.inl ((if (i : Int) = k then s ++ [124] else s) ++ L[i], ((i + 1 : Nat) : Int)))) (he : ∀ s, f (s, (L.length : Int)) = some (.inr s)) :
  iter f (s0, 0) = some (s0 ++ bar k.toNat L) := by
 have := iter_steps (f := f) (fun i => (s0 ++ bar k.toNat (L.take i), (i : Int))) L.length (s0 ++ bar k.toNat L) (fun i hi => by
  have hl : (L.take i).length = i := by rw [List.length_take]; omega
  rw [hs i hi _ (by
   have := bar_len (k := k.toNat) (L := L.take i) fun x hx => hK x (List.mem_of_mem_take hx)
   rw [hl] at this
   rw [List.length_append]; omega), take_succ' hi, bar_snoc, hl]
  congr 3
  by_cases c : (i : Int) = k
  ·rw [if_pos c, if_pos (by omega)]; simp
  ·rw [if_neg c, if_neg (by omega)]; simp) (by
  rw [he, List.take_of_length_le (Nat.le_refl _)])
 simpa [bar_nil] using this
theorem barI {parts : List (List UInt8)} {k : Int} {K : Nat} (h0 : 0 ≤ k) (h1 : k ≤ parts.length) (hl : parts.length ≤ 1048576) (hK : ∀ x ∈ parts, x.length ≤ K) (hk2 : K ≤ 1000) : f80 parts k = some (bar k.toNat parts) := by
 unfold f80 bar
 have a1 := flatK (L := parts.take k.toNat) fun x hx => hK x (List.mem_of_mem_take hx)
 have a2 := flatK (L := parts.drop k.toNat) fun x hx => hK x (List.mem_of_mem_drop hx)
 have b1 : K * (parts.take k.toNat).length ≤ 1000 * 1048576 := Nat.mul_le_mul hk2 (by rw [List.length_take]; omega)
 have b2 : K * (parts.drop k.toNat).length ≤ 1000 * 1048576 := Nat.mul_le_mul hk2 (by rw [List.length_drop]; omega)
 rw [cutL_ok (by omega) h0 h1, bS, show (0 : Int).toNat = 0 by rfl, List.drop_zero, joinI (by rw [List.length_take]; omega) (by rw [join_flat]; omega), join_flat, bS]
 by_cases c : k < parts.length
 ·rw [if_pos c, if_pos (by omega), cutL_ok h0 (by omega) (by omega), bS, show ((parts.length : Nat) : Int).toNat = parts.length by rfl, List.take_of_length_le (Nat.le_refl _), joinI (by rw [List.length_drop]; omega) (by rw [join_flat]; omega), join_flat, bS, cat_ok (by rw [List.length_singleton]; omega), bS, cat_ok (by rw [List.length_append, List.length_singleton]; omega), bS]
  simp
 ·rw [if_neg c, if_neg (by omega)]; simp
end Go.Proofs.YtcllfkplpdppiaaDoorH
namespace Go.Proofs.YtcllfkplpdppiaaDoorH
open Go
theorem toI {a : List Int} (h : a.length ≤ 1048576) : f54 a = some a := by
 unfold f54
 rw [mkl_ok (by omega) (by omega) (by omega)]
 have : iter (f54_0 a) (List.replicate (a.length : Int).toNat 0, 0) = some a := iter_copy (by simp) (fun i hi out ho => by
  simp only [f54_0]
  rw [if_pos (by omega), ix_nat hi, ix_nat ho, Int.toNat_natCast, w64_succ (by omega)]; rfl) (fun out => by
  simp only [f54_0]
  rw [if_neg (by omega)])
 simp only [bS, this]
theorem eqI {a : List Int} (h : a.length ≤ 9223372036854775807) : f65 a a = some true := by
 unfold f65
 rw [if_neg (by simp)]
 rw [iter_ex (List.range a.length) (fun _ => false) false (fun i hi => by
  simp only [f65_0]
  simp only [List.length_range] at hi
  rw [if_pos (by omega), ix_nat hi, w64_succ (by omega)]
  simp) (by
  simp only [f65_0]
  rw [if_neg (by simp)])]
 simp
theorem szI {a : List Int} {n : Int} (h : a.length ≤ 9223372036854775807) (h0 : 0 ≤ n) (h1 : n ≤ 1048576) : f47 a n = some (lft n a.length) := by
 unfold f47
 rw [w64_of (by omega)]
 unfold lft
 by_cases hc : n < (a.length : Int)
 ·rw [if_pos (by omega), if_neg (by omega)]
 ·rw [if_neg (by omega), if_pos (by omega)]
end Go.Proofs.YtcllfkplpdppiaaDoorH
namespace Go.Proofs.YtcllfkplpdppiaaDoorH
open Go
abbrev Big (n : Nat) : Prop := n ≤ 9223372036854775806
theorem hasI {l : List Int} {x : Int} (h : Big l.length) : f94 l x = some (l.contains x) := by
 unfold f94
 rw [iter_ex l (fun a => x == a) true (fun i hi => by
  simp only [f94_0]
  rw [if_pos (by omega), ix_nat hi, w64_succ (by omega)]
  simp only [bS]
  by_cases hc : l[i] = x
  ·rw [if_pos hc, if_pos (by simp [hc])]
  ·rw [if_neg hc, if_neg (by simp; exact fun h => hc h.symm)]) (by
  simp only [f94_0]
  rw [if_neg (by omega)])]
 rw [show l.contains x = l.any (fun a => x == a) from List.any_beq.symm]
 by_cases hc : l.any (fun a => x == a) = true
 ·rw [if_pos hc, hc]; rfl
 ·rw [if_neg hc]; simp only [Bool.not_eq_true] at hc; rw [hc]; rfl
theorem indexI {s : List Int} {f : Int → Option Bool} {p : Int → Bool} (h : Big s.length) (hf : ∀ a ∈ s, f a = some (p a)) : f74 s f = some (s.any p) := by
 unfold f74 f96
 obtain ⟨o, h1, h2⟩ := iter_idx (f := f96_0 s f) s p (fun i hi => by
  simp only [f96_0]
  rw [if_pos (by omega), ix_nat hi, w64_succ (by omega)]
  simp only [bS, hf _ (List.getElem_mem hi)]
  split <;> rfl) (by
  simp only [f96_0]
  rw [if_neg (by omega)])
 rw [h1]
 cases o with
 | inl _ => dsimp only at h2; rw [h2]; rfl
 | inr x => dsimp only at h2; rw [h2.2]; simp; omega
theorem containsI {s : List Int} {v : Int} (h : Big s.length) : f98 s v = some (s.contains v) := by
 unfold f98 f107
 obtain ⟨o, h1, h2⟩ := iter_idx (f := f107_0 s v) s (fun a => v == a) (fun i hi => by
  simp only [f107_0]
  rw [if_pos (by omega), ix_nat hi, w64_succ (by omega)]
  simp only [bS, beq_iff_eq]
  split <;> rfl) (by
  simp only [f107_0]
  rw [if_neg (by omega)])
 rw [h1]
 rw [show s.contains v = s.any (fun a => v == a) from List.any_beq.symm]
 cases o with
 | inl _ => dsimp only at h2; rw [h2]; rfl
 | inr x => dsimp only at h2; rw [h2.2]; simp; omega
theorem subset {a b : List Int} (ha : Big a.length) (hb : Big b.length) : f76 a b = some (a.all b.contains) := by
 unfold f76
 rw [indexI (p := fun x => !b.contains x) ha (fun x _ => by
  unfold f97
  rw [containsI hb]
  simp)]
 rw [any_not]
 simp
end Go.Proofs.YtcllfkplpdppiaaDoorH
namespace Go.Proofs.YtcllfkplpdppiaaDoorH
open Go
end Go.Proofs.YtcllfkplpdppiaaDoorH
namespace Go.Proofs.YtcllfkplpdppiaaDoorH
open Go
theorem toRs {a : List Relation} (h : a.length ≤ 1048576) : f16 a = some a := by
 unfold f16
 rw [mkl_ok (by omega) (by omega) (by omega)]
 have : iter (f16_0 a) (List.replicate (a.length : Int).toNat ({ Name := [], Arity := 0, KeyLength := 0 } : Relation), 0) = some a := iter_copy (by simp) (fun i hi out ho => by
  simp only [f16_0]
  rw [if_pos (by omega), ix_nat hi, ix_nat ho, Int.toNat_natCast, w64_succ (by omega)]; rfl) (fun out => by
  simp only [f16_0]
  rw [if_neg (by omega)])
 simp only [bS, this]
theorem eqRl {a : Relation} : f44 a a = some true := by unfold f44; simp
theorem eqRs {a : List Relation} (h : a.length ≤ 9223372036854775807) : f19 a a = some true := by
 unfold f19
 rw [if_neg (by simp)]
 rw [iter_ex (List.range a.length) (fun _ => false) false (fun i hi => by
  simp only [f19_0]
  simp only [List.length_range] at hi
  rw [if_pos (by omega), ix_nat hi, w64_succ (by omega)]
  simp only [bS, eqRl]
  simp) (by
  simp only [f19_0]
  rw [if_neg (by simp)])]
 simp
theorem szRl {a : Relation} {n : Int} (h : ok a) (h0 : 0 ≤ n) (h1 : n ≤ 1048576) : f34 a n = some (lft n a.Name.length) := by
 have h := h.1.1
 unfold f34
 rw [w64_of (by omega)]
 unfold lft
 by_cases hc : n < (a.Name.length : Int)
 ·rw [if_pos (by omega), if_neg (by omega)]
 ·rw [if_neg (by omega), if_pos (by omega)]
theorem lft_sub {n : Int} {a b : Nat} (h : ¬ n < a) : lft (n - a) b = lft n (a + b) := by
 unfold lft
 by_cases hc2 : ((b : Nat) : Int) ≤ n - a
 ·rw [if_pos hc2, if_pos (by omega)]; omega
 ·rw [if_neg hc2, if_neg (by omega)]
theorem szRs {a : List Relation} {n : Int} (h : ok a) (h0 : 0 ≤ n) (h1 : n ≤ 1048576) : f13 a n = some (lft n (a.length + (a.map (·.Name.length)).sum)) := by
 obtain ⟨h, h'⟩ := h
 unfold f13
 rw [w64_of (by omega)]
 by_cases hc : n < (a.length : Int)
 ·rw [if_pos (by omega)]
  unfold lft
  rw [if_neg (by omega)]
 ·rw [if_neg (by omega)]
  rw [iter_sz (fun x : Relation => x.Name.length) a _ (by omega) (fun i hi b hb hb' => by
   simp only [f13_0]
   rw [if_pos (by omega), ix_nat hi, w64_succ (by omega)]
   simp only [bS, szRl (h' _ (List.getElem_mem hi)) hb (by omega)]
   split <;> rfl) (fun b => by
   simp only [f13_0]
   rw [if_neg (by omega)]), lft_sub hc]
  split
  ·rename_i hlt
   rw [lft_bad hlt]; rfl
  ·rfl
def relSize (l : List Relation) : Nat := l.length + (l.map (·.Name.length)).sum
end Go.Proofs.YtcllfkplpdppiaaDoorH
namespace Go.Proofs.YtcllfkplpdppiaaDoorH
open Go
variable {α ρ : Type}
def good (q : α → Bool) (r : α → α → Bool) (l : List α) : Bool := decide (∀ i (h : i < l.length), (q l[i] && (decide (i = 0) || r (l[i - 1]'(by omega)) l[i])) = true)
theorem good_of {q : α → Bool} {r : α → α → Bool} {l : List α} (h : good q r l = true) {i : Nat} (hi : i < l.length) : q l[i] = true ∧ (0 < i → r (l[i - 1]'(by omega)) l[i] = true) := by
 have := of_decide_eq_true h i hi
 simp only [Bool.and_eq_true, Bool.or_eq_true, decide_eq_true_eq] at this
 exact ⟨this.1, fun hp => this.2.resolve_left (by omega)⟩
theorem iter_adj {f : Int → Option (Int ⊕ (Unit ⊕ ρ))} (q : α → Bool) (r : α → α → Bool) (L : List α) (c : ρ)
  (hs : ∀ (i : Nat) (h : i < L.length), f (i : Int) = some (if (q L[i] && (decide (i = 0) || r (L[i - 1]'(by omega)) L[i])) = true then .inl ((i + 1 : Nat) : Int) else .inr (.inr c)))
  (he : f (L.length : Int) = some (.inr (.inl ()))) : iter f 0 = some (if good q r L = true then .inl () else .inr c) := by
 obtain ⟨o, h1, h2⟩ := iter_up (f := f) L.length (fun i s => s = (i : Int) ∧ ∀ j (h : j < L.length), j < i → (q L[j] && (decide (j = 0) || r (L[j - 1]'(by omega)) L[j])) = true)
  (fun o => o = if good q r L = true then .inl () else .inr c) (fun i s hi ⟨h, hp⟩ => by
   subst h
   refine ⟨_, hs i hi, ?_⟩
   by_cases hc : (q L[i] && (decide (i = 0) || r (L[i - 1]'(by omega)) L[i])) = true
   ·rw [if_pos hc]
    refine ⟨rfl, fun j hj hlt => ?_⟩
    by_cases e : j = i
    ·subst e; exact hc
    ·exact hp j hj (by omega)
   ·rw [if_neg hc]
    dsimp only
    rw [if_neg]
    intro hg
    exact hc (of_decide_eq_true hg i hi)) (fun s ⟨h, hp⟩ => by
   subst h
   refine ⟨_, he, ?_⟩
   rw [if_pos]
   exact decide_eq_true fun i hi => hp i hi hi) 0 ⟨rfl, fun j _ h => by omega⟩
 rw [h1, h2]
def btw (x low high : Int) : Bool := decide (low ≤ x) && decide (x ≤ high)
theorem specIn {x a b : Int} : f67 x a b = some (btw x a b) := by
 unfold f67 btw
 by_cases h : a ≤ x
 ·rw [if_pos (show x ≥ a from h)]; simp [h]
 ·rw [if_neg (show ¬ x ≥ a from h)]; simp [h]
theorem impIn {x a b : Int} : f73 x a b = some (btw x a b) := by
 unfold f73 btw
 by_cases h : a ≤ x
 ·rw [if_pos h]; simp [h]
 ·rw [if_neg h]; simp [h]
def vRel (r : Relation) : Bool := decide (r.Name.length = 1) && (decide (97 ≤ (r.Name.getD 0 0).toNat) && (decide ((r.Name.getD 0 0).toNat ≤ 122) && (btw r.Arity 1 3 && btw r.KeyLength 0 r.Arity)))
theorem specRel {r : Relation} : f83 r = some (vRel r) := by
 unfold f83 vRel
 by_cases h1 : r.Name.length = 1
 ·rw [if_pos (by omega)]
  have e : ix r.Name 0 = some (r.Name.getD 0 0) := by rw [ix_of (by omega)]; simp [List.getElem?_eq_getElem (show 0 < r.Name.length by omega)]
  rw [e, bS]
  generalize r.Name.getD 0 0 = c
  by_cases h2 : 97 ≤ c.toNat
  ·rw [if_pos (by omega)]
   by_cases h3 : c.toNat ≤ 122
   ·rw [if_pos (by omega), specIn, bS]
    cases hb : btw r.Arity 1 3
    ·simp
    ·simp [specIn, h1, h2, h3]
   ·rw [if_neg (by omega)]; simp [h3]
  ·rw [if_neg (by omega)]; simp [h2]
 ·rw [if_neg (by omega)]; simp [h1]
theorem impRel {r : Relation} : f84 r = some (vRel r) := by
 unfold f84 vRel
 by_cases h1 : r.Name.length = 1
 ·rw [if_pos (by omega)]
  have e : ix r.Name 0 = some (r.Name.getD 0 0) := by rw [ix_of (by omega)]; simp [List.getElem?_eq_getElem (show 0 < r.Name.length by omega)]
  rw [e, bS]
  generalize r.Name.getD 0 0 = c
  by_cases h2 : 97 ≤ c.toNat
  ·rw [if_pos (by omega)]
   by_cases h3 : c.toNat ≤ 122
   ·rw [if_pos (by omega), impIn, bS]
    cases hb : btw r.Arity 1 3
    ·simp
    ·simp [impIn, h1, h2, h3]
   ·rw [if_neg (by omega)]; simp [h3]
  ·rw [if_neg (by omega)]; simp [h2]
 ·rw [if_neg (by omega)]; simp [h1]
def vRels (l : List Relation) : Bool := good vRel (fun a b => Op.bytesLess a.Name b.Name) l && decide (l.length ≤ 4)
theorem specRels {l : List Relation} (h : Big l.length) : f50 l = some (vRels l) := by
 unfold f50 vRels
 rw [iter_adj vRel (fun a b => Op.bytesLess a.Name b.Name) l false (fun i hi => by
  simp only [f50_0]
  rw [if_pos (by omega), ix_nat hi, w64_succ (by omega)]
  simp only [bS, specRel]
  cases vRel l[i]
  ·simp
  ·by_cases h0 : i = 0
   ·subst h0; simp
   ·have e : ix l (w64 ((i : Int) - 1)) = some (l[i - 1]'(by omega)) := by rw [w64_of (by omega), show (i : Int) - 1 = ((i - 1 : Nat) : Int) by omega, ix_nat (by omega)]
    simp only [e]
    have : 0 < i := by omega
    cases hb : Op.bytesLess (l[i - 1]'(by omega)).Name l[i].Name <;> simp [h0, this, hb]) (by
  simp only [f50_0]
  rw [if_neg (by omega)])]
 cases good vRel (fun a b => Op.bytesLess a.Name b.Name) l
 ·simp
 ·simp; omega
theorem impRels {l : List Relation} (h : Big l.length) : f55 l = some (vRels l) := by
 unfold f55 vRels
 rw [iter_adj vRel (fun a b => Op.bytesLess a.Name b.Name) l false (fun i hi => by
  simp only [f55_0]
  rw [if_pos (by omega), ix_nat hi, w64_succ (by omega)]
  simp only [bS, impRel]
  cases vRel l[i]
  ·simp
  ·by_cases h0 : i = 0
   ·subst h0; simp
   ·have e : ix l (w64 ((i : Int) - 1)) = some (l[i - 1]'(by omega)) := by rw [w64_of (by omega), show (i : Int) - 1 = ((i - 1 : Nat) : Int) by omega, ix_nat (by omega)]
    simp only [e]
    have : 0 < i := by omega
    cases hb : Op.bytesLess (l[i - 1]'(by omega)).Name l[i].Name <;> simp [h0, this, hb]) (by
  simp only [f55_0]
  rw [if_neg (by omega)])]
 cases good vRel (fun a b => Op.bytesLess a.Name b.Name) l
 ·simp
 ·simp; omega
def arity (l : List Relation) (r : Int) : Int := (l[r.toNat]?.map (·.Arity)).getD 0
def keyLen (l : List Relation) (r : Int) : Int := (l[r.toNat]?.map (·.KeyLength)).getD 0
theorem ix_rel {l : List Relation} {r : Int} (h : btw r 0 (l.length - 1) = true) : ∃ x, ix l r = some x ∧ x ∈ l ∧ x.Arity = arity l r ∧ x.KeyLength = keyLen l r := by
 unfold btw at h; simp only [Bool.and_eq_true, decide_eq_true_eq] at h
 have e : l[r.toNat]? = some (l[r.toNat]'(by omega)) := List.getElem?_eq_getElem _
 refine ⟨l[r.toNat]'(by omega), ?_, List.getElem_mem _, ?_, ?_⟩
 ·rw [ix_of h.1, e]
 ·unfold arity; rw [e]; rfl
 ·unfold keyLen; rw [e]; rfl
end Go.Proofs.YtcllfkplpdppiaaDoorH
namespace Go.Proofs.YtcllfkplpdppiaaDoorH
open Go
variable {α ρ : Type}
variable {n : Nat} {sk : Nat → Nat → Bool}
def pick (c : Int → Bool) (bs : List (List Int)) : List Int := bs.filterMap fun b => b.find? c
def picks (c : Int → Bool) (bs : List (List Int)) : List Int × Bool := if (bs.all fun b => (b.find? c).isSome) = true then (pick c bs, true) else ([], false)
end Go.Proofs.YtcllfkplpdppiaaDoorH
namespace Go.Proofs.YtcllfkplpdppiaaDoorH
open Go
end Go.Proofs.YtcllfkplpdppiaaDoorH
namespace Go.Proofs.YtcllfkplpdppiaaDoorH
open Go
variable {n : Nat} {sk : Nat → Nat → Bool}
end Go.Proofs.YtcllfkplpdppiaaDoorH
namespace Go.Proofs.YtcllfkplpdppiaaDoorH
open Go
theorem flat_take {L : List (List Int)} {i : Nat} : (L.take i).flatten.length ≤ L.flatten.length := by
 conv => rhs; rw [← List.take_append_drop i L, List.flatten_append, List.length_append]
 omega
theorem concatN {L : List (List Int)} (hL : L.length ≤ 1048576) (h : L.flatten.length ≤ 1048576) : f108 L = some L.flatten := by
 unfold f108
 have q : ∀ i (hi : i < L.length), (L.take (i + 1)).flatten = (L.take i).flatten ++ L[i] := fun i hi => by rw [take_succ' hi, List.flatten_append]; simp
 have h1 := iter_steps (f := f108_0 L) (fun i => (((L.take i).flatten.length : Int), (i : Int))) L.length (L.flatten.length : Int) (fun i hi => by
  have e := congrArg List.length (q i hi)
  rw [List.length_append] at e
  have b := flat_take (L := L) (i := i + 1)
  simp only [f108_0]
  rw [if_pos (by omega), ix_nat hi, bS, w64_succ (by omega), w64_of (by omega), if_neg (by omega), bS, e]
  rw [Int.natCast_add (List.take i L).flatten.length]) (by
  simp only [f108_0]
  rw [if_neg (by omega), List.take_of_length_le (Nat.le_refl _)])
 simp only [List.take_zero, List.flatten_nil, List.length_nil, Int.natCast_zero, Int.ofNat_zero] at h1
 erw [h1]
 rw [bS]
 unfold f116 growN
 rw [if_pos ⟨by omega, by unfold room; omega⟩, bS]
 have h2 := iter_steps (f := f108_1 L) (fun i => (L.flatten.length - (L.take i).flatten.length, (L.take i).flatten, (i : Int))) L.length (0, L.flatten) (fun i hi => by
  have e := congrArg List.length (q i hi)
  rw [List.length_append] at e
  have b := flat_take (L := L) (i := i + 1)
  simp only [f108_1]
  rw [if_pos (by omega), ix_nat hi, bS, w64_succ (by omega)]
  unfold apps
  rw [if_pos ⟨by omega, by unfold room; omega⟩, bS, q i hi]
  simp only [List.length_append]
  rw [Nat.sub_sub]) (by
  simp only [f108_1]
  rw [if_neg (by omega), List.take_of_length_le (Nat.le_refl _), Nat.sub_self])
 simp only [List.take_zero, List.flatten_nil, List.length_nil, Nat.sub_zero, Int.natCast_zero, Int.ofNat_zero] at h2
 rw [Int.toNat_natCast]
 erw [h2]
 simp [nsk]
set_option maxRecDepth 10000 in
theorem bitsLen {n : Int} (h0 : 0 ≤ n) (h : n < 256) : Ens (f118 (IntKind.u64.wrap n)) fun _ => True := by
 have e : IntKind.u64.wrap n = n := by
  have : IntKind.u64.wrap n = n % 18446744073709551616 := by simp [IntKind.wrap, IntKind.bits, IntKind.signed]
  omega
 have e8 : w8 n = n := by
  have : w8 n = n % 256 := by simp [w8, IntKind.wrap, IntKind.bits, IntKind.signed]
  omega
 rw [e]
 unfold f118 f120
 rw [if_neg (by omega), bS]
 dsimp only
 rw [if_neg (by omega), bS]
 dsimp only
 rw [if_neg (by omega), bS]
 dsimp only
 rw [e8, ix_of h0, List.getElem?_eq_getElem (by show n.toNat < 256; omega)]
 exact ⟨_, rfl, trivial⟩
def insR : List Int → Int → List Int
 | [], v => [v]
 | a :: r, v => if v < a then a :: insR r v else v :: a :: r
theorem insR_perm : ∀ {r : List Int} {v : Int}, (insR r v).Perm (v :: r)
 | [], v => by simp [insR]
 | a :: r, v => by
  rw [insR]
  split
  ·exact ((insR_perm (r := r) (v := v)).cons a).trans (List.Perm.swap v a r)
  ·exact List.Perm.refl _
theorem insR_down : ∀ {r : List Int} {v : Int}, r.Pairwise (fun a b => b ≤ a) → (insR r v).Pairwise (fun a b => b ≤ a)
 | [], v, h => by simp [insR]
 | a :: r, v, h => by
  rw [insR]
  rw [List.pairwise_cons] at h
  split
  ·refine List.pairwise_cons.2 ⟨fun b hb => ?_, insR_down h.2⟩
   rcases List.mem_cons.1 (insR_perm.mem_iff.1 hb) with rfl | hb
   ·omega
   ·exact h.1 b hb
  ·refine List.pairwise_cons.2 ⟨fun b hb => ?_, List.pairwise_cons.2 h⟩
   rcases List.mem_cons.1 hb with rfl | hb
   ·omega
   ·have := h.1 b hb; omega
theorem cmpLess {x y : Int} : f130 x y = some (decide (x < y)) := by
 unfold f130 f111; simp
theorem insLoop : ∀ (r : List Int) (v : Int) (T : List Int), r.length + T.length ≤ 1048576 → iter (f124_1 0) (r.reverse ++ v :: T, (r.length : Int)) = some ((insR r v).reverse ++ T)
 | [], v, T, hl => by
  rw [iter_eq]
  simp [f124_1, insR]
 | a :: r, v, T, hl => by
  simp only [List.length_cons] at hl
  rw [iter_eq]
  simp only [f124_1]
  have e1 : ((a :: r).reverse ++ v :: T) = r.reverse ++ a :: v :: T := by simp
  have e2 : w64 (((a :: r).length : Int) - 1) = (r.length : Int) := by rw [w64_of (by simp; omega)]; simp
  have e3 : ((a :: r).length : Int) = ((r.length + 1 : Nat) : Int) := rfl
  rw [e1, e2, e3, if_pos (by omega)]
  have i1 : ix (r.reverse ++ a :: v :: T) ((r.length + 1 : Nat) : Int) = some v := by
   rw [ix_cast, List.getElem?_append_right (by simp)]; simp
  have i2 : ix (r.reverse ++ a :: v :: T) ((r.length : Nat) : Int) = some a := by
   rw [ix_cast, List.getElem?_append_right (by simp)]; simp
  have s1 : (r.reverse ++ a :: v :: T).set (r.length + 1) a = r.reverse ++ a :: a :: T := by
   rw [List.set_append_right _ _ (by simp)]; simp
  have i3 : ix (r.reverse ++ a :: a :: T) ((r.length : Nat) : Int) = some a := by
   rw [ix_cast, List.getElem?_append_right (by simp)]; simp
  have s2 : (r.reverse ++ a :: a :: T).set r.length v = r.reverse ++ v :: a :: T := by
   rw [List.set_append_right _ _ (by simp)]; simp
  rw [i1, bS, i2, bS, cmpLess]
  simp only [bS]
  rw [insR]
  by_cases c : v < a
  ·simp only [c, decide_true, if_true, Int.toNat_natCast, bS]
   rw [s1, i3]
   simp only [bS, s2]
   rw [insLoop r v (a :: T) (by simp; omega)]
   simp
  ·simp [c]
theorem insSort {x : List Int} (h : x.length ≤ 1048575) : Ens (f124 x 0 (x.length : Int)) fun r => r.Pairwise (· ≤ ·) ∧ r.Perm x := by
 unfold f124
 refine Ens.bind (Q := fun r => r.Pairwise (· ≤ ·) ∧ r.Perm x) ?_ fun a ha => Ens.of ha
 rw [w64_of (by omega)]
 cases x with
 | nil =>
  refine ⟨[], ?_, by simp, by simp⟩
  rw [iter_eq]; simp [f124_0]
 | cons y x =>
  simp only [List.length_cons] at h
  refine iter_up (f := f124_0 0 ((y :: x).length : Int)) x.length (fun k s => s.2 = ((k + 1 : Nat) : Int) ∧ ∃ r, s.1 = r.reverse ++ x.drop k ∧ r.length = k + 1 ∧ r.Pairwise (fun a b => b ≤ a) ∧ r.Perm (y :: x.take k)) _ (fun k s hk hI => ?_) (fun s hI => ?_) _ ⟨rfl, [y], by simp, by simp, by simp, by simp⟩
  ·obtain ⟨d, j⟩ := s
   obtain ⟨e1, r, e2, e3, e4, e5⟩ := hI
   dsimp only at e1 e2
   subst e1; subst e2
   simp only [f124_0]
   have e : r.reverse ++ x.drop k = r.reverse ++ x[k] :: x.drop (k + 1) := by rw [List.drop_eq_getElem_cons hk]
   rw [if_pos (by simp only [List.length_cons]; omega), e, ← e3, insLoop r x[k] _ (by simp; omega), bS, w64_succ (by omega)]
   refine ⟨_, rfl, by simp only [e3], insR r x[k], rfl, by rw [insR_perm.length_eq]; simp [e3], insR_down e4, ?_⟩
   rw [e3, take_succ' hk]
   refine insR_perm.trans ((e5.cons _).trans ?_)
   have : (x[k] :: (y :: x.take k)).Perm ((y :: x.take k) ++ [x[k]]) := (List.perm_append_singleton _ _).symm
   simpa using this
  ·obtain ⟨d, j⟩ := s
   obtain ⟨e1, r, e2, e3, e4, e5⟩ := hI
   dsimp only at e1 e2
   subst e1; subst e2
   simp only [f124_0]
   rw [if_neg (by simp only [List.length_cons]; omega)]
   refine ⟨_, rfl, ?_, ?_⟩
   ·rw [List.drop_of_length_le (Nat.le_refl _), List.append_nil, List.pairwise_reverse]; exact e4
   ·rw [List.drop_of_length_le (Nat.le_refl _), List.append_nil]
    rw [List.take_of_length_le (Nat.le_refl _)] at e5
    exact (List.reverse_perm r).trans e5
theorem sort12 {x : List Int} (h : x.length ≤ 12) : Ens (f109 x) fun r => r.Pairwise (· ≤ ·) ∧ r.Perm x := by
 unfold f109
 obtain ⟨k, hk, _⟩ := bitsLen (n := (x.length : Int)) (by omega) (by omega)
 rw [hk, bS]
 refine Ens.bind (Q := fun r => r.Pairwise (· ≤ ·) ∧ r.Perm x) ?_ fun a ha => Ens.of ha
 rw [show (64 : Nat) = 63 + 1 from rfl, f117]
 refine Ens.bind (Q := fun r => r.Pairwise (· ≤ ·) ∧ r.Perm x) ?_ fun a ha => Ens.of ha
 rw [iter_eq]
 simp only [f117_0]
 obtain ⟨r, hr, hq⟩ := insSort (x := x) (by omega)
 rw [w64_of (by omega), if_pos (by omega), hr]
 exact ⟨r, rfl, hq⟩
theorem compact_up : ∀ {l : List Int}, l.Pairwise (· ≤ ·) → (compactL l).Pairwise (· < ·) ∧ ∀ y, y ∈ compactL l ↔ y ∈ l
 | [], h => by simp [compactL]
 | [a], h => by simp [compactL]
 | a :: b :: r, h => by
  rw [List.pairwise_cons] at h
  obtain ⟨i1, i2⟩ := compact_up h.2
  rw [compactL]
  split
  ·rename_i e
   subst e
   exact ⟨i1, fun y => by rw [i2]; simp⟩
  ·rename_i e
   refine ⟨List.pairwise_cons.2 ⟨fun y hy => ?_, i1⟩, fun y => by simp [i2]⟩
   rw [i2] at hy
   have h1 := h.1 b (by simp)
   rcases List.mem_cons.1 hy with rfl | hy
   ·omega
   ·have := (List.pairwise_cons.1 h.2).1 y hy; omega
theorem union12 {a b : List Int} (h : a.length + b.length ≤ 12) : Ens (f99 a b) fun r => r.Pairwise (· < ·) ∧ (∀ y, y ∈ r ↔ y ∈ a ∨ y ∈ b) ∧ r.length ≤ 12 := by
 unfold f99
 have e : [a, b].flatten = a ++ b := by simp
 rw [concatN (by simp) (by rw [e]; simp; omega), e, bS]
 refine Ens.bind (sort12 (by simp; omega)) fun r hr => ?_
 have hl := hr.2.length_eq
 simp only [List.length_append] at hl
 unfold f110 compactN
 rw [if_pos (by omega)]
 obtain ⟨c1, c2⟩ := compact_up hr.1
 exact Ens.of ⟨c1, fun y => by rw [c2, hr.2.mem_iff, List.mem_append], by have := compactL_len r; omega⟩
theorem up_ext : ∀ {a b : List Int}, a.Pairwise (· < ·) → b.Pairwise (· < ·) → (∀ y, y ∈ a ↔ y ∈ b) → a = b
 | [], [], _, _, _ => rfl
 | [], y :: b, _, _, h => by have := (h y).2 (by simp); cases this
 | x :: a, [], _, _, h => by have := (h x).1 (by simp); cases this
 | x :: a, y :: b, ha, hb, h => by
  rw [List.pairwise_cons] at ha hb
  have e : x = y := by
   have h1 := (h x).1 (by simp)
   have h2 := (h y).2 (by simp)
   rcases List.mem_cons.1 h1 with e | h1
   ·exact e
   ·rcases List.mem_cons.1 h2 with e | h2
    ·exact e.symm
    ·have := ha.1 y h2; have := hb.1 x h1; omega
  subst e
  congr 1
  refine up_ext ha.2 hb.2 fun y => ?_
  have := h y
  constructor
  ·intro hy
   have q := ha.1 y hy
   rcases List.mem_cons.1 (this.1 (List.mem_cons.2 (.inr hy))) with e | e
   ·omega
   ·exact e
  ·intro hy
   have q := hb.1 y hy
   rcases List.mem_cons.1 (this.2 (List.mem_cons.2 (.inr hy))) with e | e
   ·omega
   ·exact e
end Go.Proofs.YtcllfkplpdppiaaDoorH
namespace Go.Proofs.YtcllfkplpdppiaaDoorH
open Go
def avars (t : List Int) : List Int := (List.range 4).flatMap fun v => if t.contains ((v : Nat) : Int) = true then [((v : Nat) : Int)] else []
theorem avars_up {t : List Int} : (avars t).Pairwise (· < ·) := by
 unfold avars
 simp only [List.range, List.range.loop, List.flatMap_cons, List.flatMap_nil, List.append_nil]
 generalize t.contains ((0 : Nat) : Int) = a
 generalize t.contains ((1 : Nat) : Int) = b
 generalize t.contains ((2 : Nat) : Int) = c
 generalize t.contains ((3 : Nat) : Int) = d
 cases a <;> cases b <;> cases c <;> cases d <;> simp
theorem avars_mem {t : List Int} {y : Int} : y ∈ avars t ↔ y ∈ t ∧ btw y 0 3 = true := by
 unfold avars btw
 simp only [List.mem_flatMap, List.mem_range, Bool.and_eq_true, decide_eq_true_eq]
 constructor
 ·rintro ⟨v, hv, h⟩
  by_cases c : t.contains ((v : Nat) : Int) = true
  ·rw [if_pos c, List.mem_singleton] at h
   subst h
   exact ⟨by simpa using c, by omega, by omega⟩
  ·rw [if_neg c] at h; cases h
 ·rintro ⟨h, h1, h2⟩
  refine ⟨y.toNat, by omega, ?_⟩
  rw [Int.toNat_of_nonneg h1, if_pos (by simpa using h)]
  simp
theorem avars_len {t : List Int} : (avars t).length ≤ 4 := by
 unfold avars
 simp only [List.range, List.range.loop, List.flatMap_cons, List.flatMap_nil, List.append_nil, List.length_append]
 split <;> split <;> split <;> split <;> simp
theorem specVars {a : Atom} (h : Big a.Terms.length) : f70 a = some (avars a.Terms) := by
 unfold f70
 rw [iter_flat (List.range 4) (fun v => if a.Terms.contains ((v : Nat) : Int) = true then [((v : Nat) : Int)] else []) id (fun k hk => by
  simp only [List.length_range] at hk
  have el : (((List.range 4).take k).flatMap fun v => if a.Terms.contains ((v : Nat) : Int) = true then [((v : Nat) : Int)] else []).length ≤ k := by
   have := take_flat_le (l := List.range 4) (i := k) (g := fun v => if a.Terms.contains ((v : Nat) : Int) = true then [((v : Nat) : Int)] else []) (m := 1) (fun a => by split <;> simp)
   omega
  generalize ((List.range 4).take k).flatMap (fun v => if a.Terms.contains ((v : Nat) : Int) = true then [((v : Nat) : Int)] else []) = out at el ⊢
  simp only [List.getElem_range]
  simp only [f70_0]
  rw [if_pos (by omega), hasI h, bS, w64_succ (by omega)]
  by_cases c : a.Terms.contains ((k : Nat) : Int) = true
  ·rw [if_pos c, if_pos c, app_fits (by simp; omega)]; rfl
  ·rw [if_neg c, if_neg c]; simp) (by
  simp only [f70_0]
  rw [if_neg (by simp)]; rfl)]
 rfl
theorem impVars {a : Atom} (h : a.Terms.length ≤ 12) : f78 a = some (avars a.Terms) := by
 unfold f78
 rw [iter_flat a.Terms (fun v => if btw v 0 3 = true then [v] else []) id (fun k hk => by
  have el : ((a.Terms.take k).flatMap fun v => if btw v 0 3 = true then [v] else []).length ≤ k := by
   have := take_flat_le (l := a.Terms) (i := k) (g := fun v => if btw v 0 3 = true then [v] else []) (m := 1) (fun a => by split <;> simp)
   omega
  generalize (a.Terms.take k).flatMap (fun v => if btw v 0 3 = true then [v] else []) = out at el ⊢
  simp only [f78_0]
  rw [if_pos (by omega), ix_nat hk, bS, impIn, bS, w64_succ (by omega)]
  by_cases c : btw a.Terms[k] 0 3 = true
  ·rw [if_pos c, if_pos c, app_fits (by simp; omega)]; rfl
  ·rw [if_neg c, if_neg c]; simp) (by
  simp only [f78_0]
  rw [if_neg (by omega)]; rfl)]
 rw [bS]
 dsimp only [id]
 have el : (a.Terms.flatMap fun v => if btw v 0 3 = true then [v] else []).length ≤ a.Terms.length := by
  have := take_flat_le (l := a.Terms) (i := a.Terms.length) (g := fun v => if btw v 0 3 = true then [v] else []) (m := 1) (fun a => by split <;> simp)
  rw [List.take_of_length_le (Nat.le_refl _)] at this
  omega
 obtain ⟨r, h1, h2, h3, _⟩ := union12 (a := a.Terms.flatMap fun v => if btw v 0 3 = true then [v] else []) (b := []) (by rw [List.length_nil]; omega)
 rw [h1, bS]
 congr 1
 refine up_ext h2 avars_up fun y => ?_
 rw [h3, avars_mem, List.mem_flatMap]
 constructor
 ·rintro (⟨v, hv, h⟩ | h)
  ·by_cases c : btw v 0 3 = true
   ·rw [if_pos c, List.mem_singleton] at h; subst h; exact ⟨hv, c⟩
   ·rw [if_neg c] at h; cases h
  ·cases h
 ·rintro ⟨h, c⟩
  exact .inl ⟨y, h, by rw [if_pos c]; simp⟩
def kvars (l : List Relation) (a : Atom) : List Int := if (btw a.Relation 0 (l.length - 1) && btw (keyLen l a.Relation) 0 a.Terms.length) = true then avars (a.Terms.take (keyLen l a.Relation).toNat) else []
theorem kvars_len {l : List Relation} {a : Atom} : (kvars l a).length ≤ 4 := by
 unfold kvars; split
 ·exact avars_len
 ·simp
theorem specKV {l : List Relation} {a : Atom} (hl : Big l.length) (h : Big a.Terms.length) : f69 l a = some (kvars l a) := by
 unfold f69 kvars
 rw [w64_of (by omega), specIn, bS]
 cases hb : btw a.Relation 0 (l.length - 1)
 ·simp
 ·obtain ⟨x, h1, _, _, h2⟩ := ix_rel hb
  rw [h1]
  simp only [not_true_eq_false, if_false, bS, specIn, h2]
  cases hk : btw (keyLen l a.Relation) 0 a.Terms.length
  ·simp
  ·unfold btw at hk; simp only [Bool.and_eq_true, decide_eq_true_eq] at hk
   simp only [not_true_eq_false, decide_false, Bool.false_eq_true, if_false, Bool.and_self, if_true]
   rw [cutL_ok (by omega) hk.1 hk.2, bS, specVars (by simp; omega)]; rfl
theorem impKV {l : List Relation} {a : Atom} (hl : Big l.length) (h : a.Terms.length ≤ 12) : f77 l a = some (kvars l a) := by
 unfold f77 kvars
 rw [w64_of (by omega), impIn, bS]
 cases hb : btw a.Relation 0 (l.length - 1)
 ·simp
 ·obtain ⟨x, h1, _, _, h2⟩ := ix_rel hb
  rw [h1]
  simp only [not_true_eq_false, if_false, bS, impIn, h2]
  cases hk : btw (keyLen l a.Relation) 0 a.Terms.length
  ·simp
  ·unfold btw at hk; simp only [Bool.and_eq_true, decide_eq_true_eq] at hk
   simp only [not_true_eq_false, decide_false, Bool.false_eq_true, if_false, Bool.and_self, if_true]
   rw [cutL_ok (by omega) hk.1 hk.2, bS, impVars (by simp; omega)]; rfl
theorem has14 {l w : List Int} (hl : Big l.length) (hw : Big w.length) : f68 l w = some (w.all l.contains) := by
 unfold f68
 rw [iter_ex w (fun v => !l.contains v) false (fun i hi => by
  simp only [f68_0]
  rw [if_pos (by omega), ix_nat hi, w64_succ (by omega)]
  simp only [bS, hasI hl]
  cases l.contains w[i] <;> simp) (by
  simp only [f68_0]
  rw [if_neg (by omega)])]
 rw [any_not]
 cases w.all l.contains <;> simp
theorem vRels_arity {l : List Relation} {r : Int} (h : vRels l = true) (hb : btw r 0 (l.length - 1) = true) : arity l r ≤ 3 := by
 obtain ⟨x, h1, h2, h3, _⟩ := ix_rel hb
 unfold vRels at h; simp only [Bool.and_eq_true] at h
 obtain ⟨i, hi, rfl⟩ := List.mem_iff_getElem.1 h2
 have := (good_of h.1 hi).1
 unfold vRel btw at this
 simp only [Bool.and_eq_true, decide_eq_true_eq] at this
 omega
end Go.Proofs.YtcllfkplpdppiaaDoorH
namespace Go.Proofs.YtcllfkplpdppiaaDoorH
open Go
def Le4 (X Y : Int → Bool) : Prop := ∀ v, X v = true → Y v = true
theorem Le4.refl {X : Int → Bool} : Le4 X X := fun _ h => h
theorem Le4.trans {X Y Z : Int → Bool} (h : Le4 X Y) (g : Le4 Y Z) : Le4 X Z := fun v hv => g v (h v hv)
end Go.Proofs.YtcllfkplpdppiaaDoorH
namespace Go.Proofs.YtcllfkplpdppiaaDoorH
open Go
section
variable {l : List Relation}
end
end Go.Proofs.YtcllfkplpdppiaaDoorH
namespace Go.Proofs.YtcllfkplpdppiaaDoorH
open Go
end Go.Proofs.YtcllfkplpdppiaaDoorH
namespace Go.Proofs.YtcllfkplpdppiaaDoorH
open Go
end Go.Proofs.YtcllfkplpdppiaaDoorH
namespace Go.Proofs.YtcllfkplpdppiaaDoorH
open Go
end Go.Proofs.YtcllfkplpdppiaaDoorH
namespace Go.Proofs.YtcllfkplpdppiaaDoorH
open Go
end Go.Proofs.YtcllfkplpdppiaaDoorH
namespace Go.Proofs.YtcllfkplpdppiaaDoorH
open Go
end Go.Proofs.YtcllfkplpdppiaaDoorH
namespace Go.Proofs.YtcllfkplpdppiaaDoorH
open Go
end Go.Proofs.YtcllfkplpdppiaaDoorH
namespace Go.Proofs.YtcllfkplpdppiaaDoorH
open Go
theorem szAtom {a : Atom} {n : Int} (h : ok a) (h0 : 0 ≤ n) (h1 : n ≤ 1048576) : f66 a n = some (lft n a.Terms.length) := by
 unfold f66
 rw [szI h.2.1 h0 h1, bS]
 split
 ·rename_i hlt; rw [lft_bad hlt]
 ·rfl
end Go.Proofs.YtcllfkplpdppiaaDoorH
namespace Go.Proofs.YtcllfkplpdppiaaDoorH
open Go
end Go.Proofs.YtcllfkplpdppiaaDoorH
namespace Go.Proofs.YtcllfkplpdppiaaDoorH
open Go
end Go.Proofs.YtcllfkplpdppiaaDoorH
namespace Go.Proofs.YtcllfkplpdppiaaDoorH
open Go
variable {n : Nat} {sk : Nat → Nat → Bool}
end Go.Proofs.YtcllfkplpdppiaaDoorH
namespace Go.Proofs.YtcllfkplpdppiaaDoorH
open Go
variable {x : List Int} (hx : x.length ≤ 1048576)
include hx
end Go.Proofs.YtcllfkplpdppiaaDoorH
namespace Go.Proofs.YtcllfkplpdppiaaDoorH
open Go
variable {x : List Int} (hx : x.length ≤ 16383)
include hx
end Go.Proofs.YtcllfkplpdppiaaDoorH
namespace Go.Proofs.YtcllfkplpdppiaaDoorH
open Go
variable {x : List Int} (hx : x.length ≤ 16383)
include hx
end Go.Proofs.YtcllfkplpdppiaaDoorH
namespace Go.Proofs.YtcllfkplpdppiaaDoorH
open Go
end Go.Proofs.YtcllfkplpdppiaaDoorH
namespace Go.Proofs.YtcllfkplpdppiaaDoorH
open Go
end Go.Proofs.YtcllfkplpdppiaaDoorH
namespace Go.Proofs.YtcllfkplpdppiaaDoorH
open Go
end Go.Proofs.YtcllfkplpdppiaaDoorH
namespace Go.Proofs.YtcllfkplpdppiaaDoorH
open Go
end Go.Proofs.YtcllfkplpdppiaaDoorH
namespace Go.Proofs.YtcllfkplpdppiaaDoorH
open Go
end Go.Proofs.YtcllfkplpdppiaaDoorH
namespace Go.Proofs.YtcllfkplpdppiaaDoorH
open Go
end Go.Proofs.YtcllfkplpdppiaaDoorH
namespace Go.Proofs.YtcllfkplpdppiaaDoorH
open Go
end Go.Proofs.YtcllfkplpdppiaaDoorH
namespace Go.Proofs.YtcllfkplpdppiaaDoorH
open Go
end Go.Proofs.YtcllfkplpdppiaaDoorH
namespace Go.Proofs.YtcllfkplpdppiaaDoorH
open Go
variable {l : List Relation}
theorem rel_part (hr : vRels l = true) {r : Int} (hb : btw r 0 (l.length - 1) = true) : ∃ x, ix l r = some x ∧ l[r.toNat]? = some x ∧ x.Name.length = 1 ∧ 0 ≤ x.KeyLength ∧ x.KeyLength ≤ arity l r ∧ arity l r ≤ 3 := by
 obtain ⟨x, h1, h2, h3, h4⟩ := ix_rel hb
 unfold btw at hb; simp only [Bool.and_eq_true, decide_eq_true_eq] at hb
 have hx : vRel x = true := by
  unfold vRels at hr; simp only [Bool.and_eq_true] at hr
  obtain ⟨i, hi, rfl⟩ := List.mem_iff_getElem.1 h2
  exact (good_of hr.1 hi).1
 unfold vRel btw at hx; simp only [Bool.and_eq_true, decide_eq_true_eq] at hx
 refine ⟨x, h1, ?_, hx.1, hx.2.2.2.2.1, by rw [← h3]; exact hx.2.2.2.2.2, by rw [← h3]; exact hx.2.2.2.1.2⟩
 rw [ix_of hb.1] at h1; exact h1
def rTxt (l : List Relation) (r : Int) (L : List (List UInt8)) : List UInt8 :=
 match l[r.toNat]? with
 | some x => x.Name ++ bar x.KeyLength.toNat L
 | none => []
end Go.Proofs.YtcllfkplpdppiaaDoorH
namespace Go.Proofs.YtcllfkplpdppiaaDoorH
open Go
def stepSize (a : RewritingStep) : Nat := a.Atom.Terms.length + a.Existential.length + a.Universal.length
def rwSize (l : List RewritingStep) : Nat := l.length + (l.map stepSize).sum
theorem szAt {a : Atom} {n : Int} (h : ok a) (h0 : 0 ≤ n) (h1 : n ≤ 1048576) : f66 a n = some (lft n a.Terms.length) := by
 unfold f66
 rw [szI h.2.1 h0 h1, bS]
 split
 ·rename_i hlt; rw [lft_bad hlt]
 ·rfl
theorem lft_lft {n : Int} {a b : Nat} (h : ¬ lft n a < 0) : lft (lft n a) b = lft n (a + b) := by
 obtain ⟨e, h'⟩ := lft_pos h
 rw [e, lft_sub (by omega)]
theorem lft_neg_add {n : Int} {a b : Nat} (h : lft n a < 0) : lft n (a + b) = -1 := by
 have := lft_neg.1 h
 unfold lft; rw [if_neg (by omega)]
theorem szStep {a : RewritingStep} {n : Int} (h : ok a) (h0 : 0 ≤ n) (h1 : n ≤ 1048576) : f35 a n = some (lft n (stepSize a)) := by
 unfold f35 stepSize
 rw [szAt h.1 h0 h1, bS]
 by_cases c1 : lft n a.Atom.Terms.length < 0
 ·rw [if_pos c1, Nat.add_assoc, lft_neg_add c1]
 ·rw [if_neg c1]
  have b1 := lft_pos c1
  rw [szI h.2.1.1 (by omega) (by omega), bS, lft_lft c1]
  by_cases c2 : lft n (a.Atom.Terms.length + a.Existential.length) < 0
  ·rw [if_pos c2, lft_neg_add c2]
  ·rw [if_neg c2]
   have b2 := lft_pos c2
   rw [szI h.2.2.1 (by omega) (by omega), bS, lft_lft c2]
   split
   ·rename_i hlt; rw [lft_bad hlt]
   ·rfl
theorem szRw {a : List RewritingStep} {n : Int} (h : ok a) (h0 : 0 ≤ n) (h1 : n ≤ 1048576) : f14 a n = some (lft n (rwSize a)) := by
 obtain ⟨h, h'⟩ := h
 unfold f14 rwSize
 rw [w64_of (by omega)]
 by_cases hc : n < (a.length : Int)
 ·rw [if_pos (by omega)]
  unfold lft
  rw [if_neg (by omega)]
 ·rw [if_neg (by omega)]
  rw [iter_sz stepSize a _ (by omega) (fun i hi b hb hb' => by
   simp only [f14_0]
   rw [if_pos (by omega), ix_nat hi, w64_succ (by omega)]
   simp only [bS, szStep (h' _ (List.getElem_mem hi)) hb (by omega)]
   split <;> rfl) (fun b => by
   simp only [f14_0]
   rw [if_neg (by omega)]), lft_sub hc]
  split
  ·rename_i hlt
   rw [lft_bad hlt]; rfl
  ·rfl
def FitsS (a : RewritingStep) : Prop := a.Atom.Terms.length ≤ 1048576 ∧ a.Existential.length ≤ 1048576 ∧ a.Universal.length ≤ 1048576
theorem rw_fits {l : List RewritingStep} (h : rwSize l ≤ 1048576) : l.length ≤ 1048576 ∧ ∀ x ∈ l, FitsS x := by
 unfold rwSize at h
 refine ⟨by omega, fun x hx => ?_⟩
 have := mem_le_sum (s := stepSize) hx
 have e : stepSize x = x.Atom.Terms.length + x.Existential.length + x.Universal.length := rfl
 exact ⟨by omega, by omega, by omega⟩
theorem toStep {a : RewritingStep} (h : FitsS a) : f40 a = some a := by
 unfold f40 f72
 rw [toI h.1, toI h.2.1, toI h.2.2]; rfl
theorem toRw {a : List RewritingStep} (h : a.length ≤ 1048576) (h' : ∀ x ∈ a, FitsS x) : f17 a = some a := by
 unfold f17
 rw [mkl_ok (by omega) (by omega) (by omega)]
 have : iter (f17_0 a) (List.replicate (a.length : Int).toNat (({ Atom := ({ Relation := 0, Terms := [] } : Atom), Existential := [], Universal := [] } : RewritingStep) : RewritingStep), 0) = some a := iter_copy (by simp) (fun i hi out ho => by
  simp only [f17_0]
  rw [if_pos (by omega), ix_nat hi, ix_nat ho, Int.toNat_natCast, w64_succ (by omega)]
  simp only [bS, toStep (h' _ (List.getElem_mem hi))]) (fun out => by
  simp only [f17_0]
  rw [if_neg (by omega)])
 simp only [bS, this]
theorem eqStep {a : RewritingStep} (h : FitsS a) : f45 a a = some true := by
 unfold f45 f81
 rw [eqI (by have := h.1; omega), eqI (by have := h.2.1; omega), eqI (by have := h.2.2; omega)]; simp
theorem eqRw {a : List RewritingStep} (h : a.length ≤ 1048576) (h' : ∀ x ∈ a, FitsS x) : f20 a a = some true := by
 unfold f20
 rw [if_neg (by simp)]
 rw [iter_ex (List.range a.length) (fun _ => false) false (fun i hi => by
  simp only [f20_0]
  simp only [List.length_range] at hi
  rw [if_pos (by omega), ix_nat hi, w64_succ (by omega)]
  simp only [bS, eqStep (h' _ (List.getElem_mem hi))]
  simp) (by
  simp only [f20_0]
  rw [if_neg (by simp)])]
 simp
def vStep (l : List Relation) (s : RewritingStep) : Bool :=
 vRels l && (btw s.Atom.Relation 0 (l.length - 1) && (decide ((s.Atom.Terms.length : Int) = arity l s.Atom.Relation) && ((s.Atom.Terms.all fun v => btw v (-10) 3) && (s.Existential.all (kvars l s.Atom).contains && s.Universal.all (avars s.Atom.Terms).contains))))
def vRw (l : List Relation) (f : List RewritingStep) : Bool := f.all (vStep l) && decide (f.length ≤ 3)
theorem specRw {l : List Relation} {f : List RewritingStep} (hl : Big l.length) (hf : Big f.length) (h : ∀ x ∈ f, FitsS x) : f36 l f = some (vRw l f) := by
 unfold f36
 rw [iter_ex f (fun s => !vStep l s) false (fun i hi => by
  have hs := h _ (List.getElem_mem hi)
  simp only [f36_0]
  rw [if_pos (by omega), ix_nat hi, w64_succ (by omega)]
  generalize f[i] = s at hs
  obtain ⟨s1, s2, s3⟩ := hs
  unfold vStep
  rw [bS, specRels hl, bS, w64_of (by omega)]
  cases vRels l
  ·simp
  simp only [specIn]
  cases hb : btw s.Atom.Relation 0 (l.length - 1)
  ·simp
  obtain ⟨x, h1, _, h2, _⟩ := ix_rel hb
  rw [h1]
  by_cases ha : (s.Atom.Terms.length : Int) = arity l s.Atom.Relation
  ·rw [iter_ex s.Atom.Terms (fun v => !btw v (-10) 3) false (fun i hi => by
    simp only [f36_1]
    rw [if_pos (by omega), ix_nat hi, w64_succ (by omega)]
    simp only [bS, specIn]
    cases btw s.Atom.Terms[i] (-10) 3 <;> simp) (by
    simp only [f36_1]
    rw [if_neg (by omega)]), any_not]
   have k1 := kvars_len (l := l) (a := s.Atom)
   have k2 := avars_len (t := s.Atom.Terms)
   cases s.Atom.Terms.all (fun v => btw v (-10) 3)
   ·simp [h2, ha]
   ·simp only [h2, ha, not_true_eq_false, if_false, bS, ne_eq, decide_false, Bool.false_eq_true, Bool.not_true, specKV hl (show Big s.Atom.Terms.length by omega), has14 (l := kvars l s.Atom) (w := s.Existential) (by omega) (by omega),
     specVars (a := s.Atom) (by omega), has14 (l := avars s.Atom.Terms) (w := s.Universal) (by omega) (by omega)]
    cases s.Existential.all (kvars l s.Atom).contains
    ·simp
    ·cases s.Universal.all (avars s.Atom.Terms).contains <;> simp
  ·simp [h2, ha]) (by
  simp only [f36_0]
  rw [if_neg (by omega)]), any_not]
 unfold vRw
 cases f.all (vStep l)
 ·simp
 ·simp; omega
theorem impRw {l : List Relation} {f : List RewritingStep} (hl : Big l.length) (hf : Big f.length) (h : ∀ x ∈ f, FitsS x) : f41 l f = some (vRw l f) := by
 unfold f41
 rw [iter_ex (List.range f.length) (fun i => decide (3 ≤ i) || !(match f[i]? with | some s => vStep l s | none => true)) false (fun i hi => by
  simp only [List.length_range] at hi
  simp only [List.getElem_range]
  rw [List.getElem?_eq_getElem hi]
  dsimp only
  have hs := h _ (List.getElem_mem hi)
  simp only [f41_0]
  rw [if_pos (by omega), ix_nat hi, w64_succ (by omega)]
  generalize f[i] = s at hs
  obtain ⟨s1, s2, s3⟩ := hs
  by_cases c3 : 3 ≤ i
  ·rw [bS, if_pos (by omega)]; simp [c3]
  rw [bS, if_neg (by omega)]
  simp only [c3, decide_false, Bool.false_or]
  unfold vStep
  rw [impRels hl, bS, w64_of (by omega)]
  cases hv : vRels l
  ·simp
  simp only [impIn]
  cases hb : btw s.Atom.Relation 0 (l.length - 1)
  ·simp
  obtain ⟨x, h1, _, h2, _⟩ := ix_rel hb
  rw [h1]
  by_cases ha : (s.Atom.Terms.length : Int) = arity l s.Atom.Relation
  ·have h3 := vRels_arity hv hb
   have i1 : f74 s.Atom.Terms (fun x0 => f75 x0) = some (s.Atom.Terms.any fun v => !btw v (-10) 3) := indexI (by omega) (fun v _ => by
    unfold f75
    rw [impIn]; cases btw v (-10) 3 <;> simp)
   rw [i1, any_not]
   have k1 := kvars_len (l := l) (a := s.Atom)
   have k2 := avars_len (t := s.Atom.Terms)
   cases s.Atom.Terms.all (fun v => btw v (-10) 3)
   ·simp [h2, ha]
   ·simp only [h2, ha, not_true_eq_false, if_false, bS, ne_eq, decide_false, Bool.false_eq_true, Bool.not_true, impKV hl (show s.Atom.Terms.length ≤ 12 by omega), subset (a := s.Existential) (b := kvars l s.Atom) (by omega) (by omega),
     impVars (a := s.Atom) (by omega), subset (a := s.Universal) (b := avars s.Atom.Terms) (by omega) (by omega)]
    cases s.Existential.all (kvars l s.Atom).contains
    ·simp
    ·cases s.Universal.all (avars s.Atom.Terms).contains <;> simp
  ·simp [h2, ha]) (by
  simp only [f41_0]
  rw [if_neg (by simp)])]
 have e : ((List.range f.length).any fun i => decide (3 ≤ i) || !(match f[i]? with | some s => vStep l s | none => true)) = !vRw l f := by
  unfold vRw
  by_cases hn : f.length ≤ 3
  ·have e1 : ((List.range f.length).any fun i => decide (3 ≤ i) || !(match f[i]? with | some s => vStep l s | none => true)) = f.any fun s => !vStep l s := by
    rw [Bool.eq_iff_iff]
    simp only [List.any_eq_true, List.mem_range]
    constructor
    ·rintro ⟨i, hi, hp⟩
     rw [List.getElem?_eq_getElem hi] at hp
     simp only [show ¬ 3 ≤ i by omega, decide_false, Bool.false_or] at hp
     exact ⟨f[i], List.getElem_mem hi, hp⟩
    ·rintro ⟨s, hs, hp⟩
     obtain ⟨i, hi, rfl⟩ := List.mem_iff_getElem.1 hs
     refine ⟨i, hi, ?_⟩
     rw [List.getElem?_eq_getElem hi]
     dsimp only
     rw [hp]; simp
   rw [e1, any_not]; simp [hn]
  ·simp only [hn, decide_false, Bool.and_false, Bool.not_false]
   rw [List.any_eq_true]
   exact ⟨3, by simp; omega, by simp⟩
 rw [e]
 cases vRw l f <;> simp
end Go.Proofs.YtcllfkplpdppiaaDoorH
namespace Go.Proofs.YtcllfkplpdppiaaDoorH
open Go
variable {l : List Relation}
def tTxt (t : Int) : List UInt8 := if -10 ≤ t ∧ t ≤ -1 then Lib.itoa (-1 - t) else (([120, 121, 122, 119] : List UInt8).drop t.toNat).take 1
theorem tTxt_len {t : Int} (h : -10 ≤ t ∧ t ≤ 3) : (tTxt t).length ≤ 21 := by
 unfold tTxt
 split
 ·exact Lib.itoa_length_le _ (by omega) (by omega)
 ·rw [List.length_take]; omega
theorem specT {t : Int} (h : -10 ≤ t ∧ t ≤ 3) : f71 t = some (tTxt t) := by
 unfold f71 f95 tTxt
 by_cases c : t ≤ -1
 ·rw [if_neg (by omega), w64_of (n := -1 - t) (by omega), specIn, bS, bS, show btw (-1 - t) 0 9 = true by simp [btw]; omega, if_neg (by simp), bS, if_pos rfl, fmtI (by omega) (by omega), bS, if_pos ⟨h.1, c⟩]
 ·rw [if_pos (by omega), bS, if_pos rfl, bS, if_neg (by simp), specIn, bS, show btw t 0 3 = true by simp [btw]; omega, if_neg (by simp), w64_of (by omega), cutL_ok (by omega) (by omega) (by simp; omega), bS, if_neg (by omega)]
  have : t = 0 ∨ t = 1 ∨ t = 2 ∨ t = 3 := by omega
  rcases this with rfl | rfl | rfl | rfl <;> rfl
theorem impT {t : Int} (h : -10 ≤ t ∧ t ≤ 3) : f79 t = some (tTxt t) := by
 unfold f79 f100 tTxt
 rw [impIn, bS]
 by_cases c : t ≤ -1
 ·rw [show btw t (-10) (-1) = true by simp [btw]; omega, if_neg (by simp), w64_of (n := -1 - t) (by omega), bS, if_pos rfl, itoI (by omega) (by omega), bS, if_pos ⟨h.1, c⟩]
 ·rw [show btw t (-10) (-1) = false by simp [btw]; omega, if_pos (by simp), bS, if_neg (by simp), impIn, bS, show btw t 0 3 = true by simp [btw]; omega, if_pos rfl, w64_of (by omega), cutL_ok (by omega) (by omega) (by simp; omega), bS, if_neg (by omega)]
  have : t = 0 ∨ t = 1 ∨ t = 2 ∨ t = 3 := by omega
  rcases this with rfl | rfl | rfl | rfl <;> rfl
theorem tTxts_len {L : List Int} (h : ∀ t ∈ L, -10 ≤ t ∧ t ≤ 3) : ∀ x ∈ L.map tTxt, x.length ≤ 21 := by
 intro x hx
 obtain ⟨t, ht, rfl⟩ := List.mem_map.1 hx
 exact tTxt_len (h t ht)
theorem specTs {L : List Int} (hl : L.length ≤ 1048576) (h : ∀ t ∈ L, -10 ≤ t ∧ t ≤ 3) : f37 L = some (L.map tTxt).flatten := by
 unfold f37
 have it := iter_steps (f := f37_0 L) (fun i => (((L.take i).map tTxt).flatten, (i : Int))) L.length (L.map tTxt).flatten (fun i hi => by
  have ht := h _ (List.getElem_mem hi)
  have h1 := flatK (tTxts_len (L := L.take i) fun t ht => h t (List.mem_of_mem_take ht))
  have h2 := tTxt_len ht
  rw [List.length_map, List.length_take] at h1
  simp only [f37_0]
  rw [if_pos (by omega), ix_nat hi, bS, specT ht, bS, cat_ok (by omega), bS, w64_succ (by omega), take_succ' hi, List.map_append, List.flatten_append, List.map_singleton, List.flatten_singleton]) (by
  simp only [f37_0]
  rw [if_neg (by omega), List.take_of_length_le (Nat.le_refl _)])
 simp only [List.take_zero, List.map_nil, List.flatten_nil, Int.natCast_zero, Int.ofNat_zero] at it
 rw [it]; rfl
theorem impTs {L : List Int} (hl : L.length ≤ 1048576) (h : ∀ t ∈ L, -10 ≤ t ∧ t ≤ 3) : f42 L = some (L.map tTxt) := by
 unfold f42
 have it := iter_steps (f := f42_0 L) (fun i => ((L.take i).map tTxt, (i : Int))) L.length (L.map tTxt) (fun i hi => by
  have ht := h _ (List.getElem_mem hi)
  simp only [f42_0]
  rw [if_pos (by omega), ix_nat hi, bS, impT ht, bS, app_fits (by simp; omega), bS, w64_succ (by omega), take_succ' hi, List.map_append, List.map_singleton]) (by
  simp only [f42_0]
  rw [if_neg (by omega), List.take_of_length_le (Nat.le_refl _)])
 simp only [List.take_zero, List.map_nil, Int.natCast_zero, Int.ofNat_zero] at it
 rw [it]; rfl
theorem avR {t : List Int} {v : Int} (h : (avars t).contains v = true) : -10 ≤ v ∧ v ≤ 3 := by
 rw [List.contains_iff_mem] at h
 unfold avars at h
 obtain ⟨i, hi, hv⟩ := List.mem_flatMap.1 h
 rw [List.mem_range] at hi
 split at hv
 ·rw [List.mem_singleton] at hv; omega
 ·cases hv
theorem kvR {a : Atom} {v : Int} (h : (kvars l a).contains v = true) : -10 ≤ v ∧ v ≤ 3 := by
 unfold kvars at h
 split at h
 ·exact avR h
 ·simp at h
def aTxt (l : List Relation) (a : Atom) : List UInt8 := rTxt l a.Relation (a.Terms.map tTxt)
theorem step_part {s : RewritingStep} (h : vStep l s = true) : vRels l = true ∧ btw s.Atom.Relation 0 (l.length - 1) = true ∧ (s.Atom.Terms.length : Int) = arity l s.Atom.Relation ∧ (∀ t ∈ s.Atom.Terms, -10 ≤ t ∧ t ≤ 3) ∧ (∀ t ∈ s.Existential, -10 ≤ t ∧ t ≤ 3) ∧ (∀ t ∈ s.Universal, -10 ≤ t ∧ t ≤ 3) := by
 unfold vStep at h
 simp only [Bool.and_eq_true, decide_eq_true_eq, List.all_eq_true] at h
 obtain ⟨h1, h2, h3, h4, h5, h6⟩ := h
 have rng : ∀ {v lo hi : Int}, btw v lo hi = true → lo ≤ v ∧ v ≤ hi := fun h => by
  unfold btw at h; simp only [Bool.and_eq_true, decide_eq_true_eq] at h; exact h
 exact ⟨h1, h2, h3, fun t ht => rng (h4 t ht), fun t ht => kvR (h5 t ht), fun t ht => avR (h6 t ht)⟩
theorem specA {s : RewritingStep} (h : vStep l s = true) (hl : Big l.length) : f38 l s.Atom = some (aTxt l s.Atom) := by
 obtain ⟨hr, hb, ha, ht, _, _⟩ := step_part h
 obtain ⟨x, h1, h2, h3, h4, h5, h6⟩ := rel_part hr hb
 have hK := tTxts_len ht
 unfold f38
 rw [h1, bS, iter_bar x.Name x.KeyLength (s.Atom.Terms.map tTxt) 21 h4 hK (fun i hi u hs => by
  rw [List.length_map] at hi
  have hv := ht _ (List.getElem_mem hi)
  have hk := tTxt_len hv
  simp only [f38_0]
  rw [if_pos (by omega), h1, bS, ix_nat hi, w64_succ (by omega)]
  have e : (if (i : Int) = x.KeyLength then (cat u [124]).bind fun s_14 => some s_14 else some u : Option (List UInt8)) = some (if (i : Int) = x.KeyLength then u ++ [124] else u) := by
   split
   ·rw [cat_ok (by simp; omega)]; rfl
   ·rfl
  have e2 : (if (i : Int) = x.KeyLength then u ++ [124] else u).length ≤ u.length + 1 := by split <;> simp
  rw [List.getElem_map]
  rw [e, bS, bS, specT hv, bS, cat_ok (by omega), bS]) (fun u => by
  simp only [f38_0]
  rw [List.length_map, if_neg (by omega)]), bS]
 unfold aTxt rTxt
 rw [h2]
theorem aTxt_len {s : RewritingStep} (h : vStep l s = true) : (aTxt l s.Atom).length ≤ 65 := by
 obtain ⟨hr, hb, ha, ht, _, _⟩ := step_part h
 obtain ⟨x, h1, h2, h3, h4, h5, h6⟩ := rel_part hr hb
 unfold aTxt rTxt
 rw [h2]
 have := bar_len (k := x.KeyLength.toNat) (tTxts_len ht)
 rw [List.length_map] at this
 simp only [List.length_append]; omega
theorem impA {s : RewritingStep} (h : vStep l s = true) (hl : Big l.length) : f43 l s.Atom = some (aTxt l s.Atom) := by
 obtain ⟨hr, hb, ha, ht, _, _⟩ := step_part h
 obtain ⟨x, h1, h2, h3, h4, h5, h6⟩ := rel_part hr hb
 have hK := tTxts_len ht
 have hb := bar_len (k := x.KeyLength.toNat) hK
 rw [List.length_map] at hb
 unfold f43
 rw [h1, bS, impTs (by omega) ht, bS, barI h4 (by rw [List.length_map]; omega) (by rw [List.length_map]; omega) hK (by omega), bS, cat_ok (by omega), bS]
 unfold aTxt rTxt
 rw [h2]
def sTxt (l : List Relation) (s : RewritingStep) : List UInt8 := [69] ++ (s.Existential.map tTxt).flatten ++ [32, 65] ++ (s.Universal.map tTxt).flatten ++ [32] ++ aTxt l s.Atom
def rwTxt (l : List Relation) (f : List RewritingStep) : List UInt8 := if vRw l f = true then Lib.join (f.map (sTxt l)) [32] else []
theorem sTxt_part {s : RewritingStep} (h : vStep l s = true) (hf : FitsS s) : (s.Existential.map tTxt).flatten.length ≤ 22020096 ∧ (s.Universal.map tTxt).flatten.length ≤ 22020096 := by
 obtain ⟨_, _, _, _, he, hu⟩ := step_part h
 have h1 := flatK (tTxts_len he)
 have h2 := flatK (tTxts_len hu)
 rw [List.length_map] at h1 h2
 have := hf.2
 omega
theorem sTxt_len {s : RewritingStep} (h : vStep l s = true) (hf : FitsS s) : (sTxt l s).length ≤ 44040300 := by
 obtain ⟨h1, h2⟩ := sTxt_part h hf
 have h3 := aTxt_len h
 unfold sTxt
 simp only [List.length_append, List.length_cons, List.length_nil]
 omega
theorem vRw_of {f : List RewritingStep} (h : vRw l f = true) : (∀ s ∈ f, vStep l s = true) ∧ f.length ≤ 3 := by
 unfold vRw at h
 simp only [Bool.and_eq_true, decide_eq_true_eq, List.all_eq_true] at h
 exact h
theorem specFRw {f : List RewritingStep} (hl : Big l.length) (hf : f.length ≤ 1048576) (h : ∀ x ∈ f, FitsS x) : f15 l f = some (rwTxt l f) := by
 unfold f15 rwTxt
 have hs := specRw hl (show Big f.length by omega) h
 cases hv : vRw l f
 ·have it := iter_steps (f := f15_0 l f) (fun _ => ([], 0)) 0 [] (fun i hi => by omega) (by
   simp only [f15_0]
   rw [hs, hv]
   by_cases c : (0 : Int) < f.length
   ·rw [if_pos c, bS, bS, if_neg (by simp)]
   ·rw [if_neg c, bS, if_neg (by simp)])
  rw [it]; simp
 ·obtain ⟨v1, v2⟩ := vRw_of hv
  rw [iter_words (f.map (sTxt l)) 44040300 (fun x hx => by
   obtain ⟨s, hm, rfl⟩ := List.mem_map.1 hx
   exact sTxt_len (v1 s hm) (h s hm)) (fun i hi t ht => by
   rw [List.length_map] at hi
   have vi := v1 _ (List.getElem_mem hi)
   have fi := h _ (List.getElem_mem hi)
   obtain ⟨h1, h2⟩ := sTxt_part vi fi
   have h3 := aTxt_len vi
   obtain ⟨_, _, _, _, he, hu⟩ := step_part vi
   simp only [f15_0]
   have e : (if (i : Int) > 0 then (cat t [32]).bind fun s_17 => some s_17 else some t : Option (List UInt8)) = some (if i = 0 then t else t ++ [32]) := by
    by_cases c : i = 0
    ·rw [if_neg (by omega), if_pos c]
    ·rw [if_pos (by omega), if_neg c, cat_ok (by simp; omega)]; rfl
   have e2 : (if i = 0 then t else t ++ [32]).length ≤ t.length + 1 := by split <;> simp
   rw [List.getElem_map]
   unfold sTxt
   rw [if_pos (by omega), hs, hv, bS, bS, if_pos rfl, e, bS]
   generalize (if i = 0 then t else t ++ [32]) = u at e2
   rw [cat_ok (by rw [List.length_singleton]; omega), bS, ix_nat hi, bS, specTs fi.2.1 he, bS, cat_ok (by simp only [List.length_append, List.length_cons, List.length_nil]; omega), bS, cat_ok (by simp only [List.length_append, List.length_cons, List.length_nil]; omega), bS,
    specTs fi.2.2 hu, bS, cat_ok (by simp only [List.length_append, List.length_cons, List.length_nil]; omega), bS, cat_ok (by simp only [List.length_append, List.length_cons, List.length_nil]; omega), bS, specA vi hl, bS, cat_ok (by simp only [List.length_append, List.length_cons, List.length_nil]; omega), bS, w64_succ (by omega)]
   simp only [List.append_assoc]) (fun t => by
   simp only [f15_0]
   rw [List.length_map, if_neg (by omega), bS, if_neg (by simp)]), bS, if_pos rfl]
theorem impFRw {f : List RewritingStep} (hl : Big l.length) (hf : f.length ≤ 1048576) (h : ∀ x ∈ f, FitsS x) : f18 l f = some (rwTxt l f) := by
 unfold f18 rwTxt
 rw [impRw hl (show Big f.length by omega) h, bS]
 cases hv : vRw l f
 ·simp
 ·obtain ⟨v1, v2⟩ := vRw_of hv
  have hK : ∀ x ∈ f.map (sTxt l), x.length ≤ 44040300 := fun x hx => by
   obtain ⟨s, hm, rfl⟩ := List.mem_map.1 hx
   exact sTxt_len (v1 s hm) (h s hm)
  have it := iter_steps (f := f18_0 l f) (fun i => ((f.take i).map (sTxt l), (i : Int))) f.length (f.map (sTxt l)) (fun i hi => by
   have vi := v1 _ (List.getElem_mem hi)
   have fi := h _ (List.getElem_mem hi)
   obtain ⟨h1, h2⟩ := sTxt_part vi fi
   have h3 := aTxt_len vi
   obtain ⟨_, _, _, _, he, hu⟩ := step_part vi
   have l1 := fi.2.1
   have l2 := fi.2.2
   simp only [f18_0]
   rw [if_pos (by omega), ix_nat hi, bS, impTs fi.2.1 he, bS, joinI (by rw [List.length_map]; omega) (by rw [join_flat]; omega), join_flat, bS, cat_ok (by simp only [List.length_append, List.length_cons, List.length_nil]; omega), bS, cat_ok (by simp only [List.length_append, List.length_cons, List.length_nil]; omega), bS,
    impTs fi.2.2 hu, bS, joinI (by rw [List.length_map]; omega) (by rw [join_flat]; omega), join_flat, bS, cat_ok (by simp only [List.length_append, List.length_cons, List.length_nil]; omega), bS, cat_ok (by simp only [List.length_append, List.length_cons, List.length_nil]; omega), bS,
    impA vi hl, bS, cat_ok (by simp only [List.length_append, List.length_cons, List.length_nil]; omega), bS, app_fits (by simp; omega), bS, w64_succ (by omega), take_succ' hi, List.map_append, List.map_singleton]
   rfl) (by
   simp only [f18_0]
   rw [if_neg (by omega), List.take_of_length_le (Nat.le_refl _)])
  simp only [List.take_zero, List.map_nil, Int.natCast_zero, Int.ofNat_zero] at it
  have hj := join_len (sep := [32]) hK
  rw [List.length_map, List.length_singleton] at hj
  rw [if_neg (by simp), it, bS, joinI (by rw [List.length_map]; omega) (by omega), bS, if_pos rfl]
end Go.Proofs.YtcllfkplpdppiaaDoorH
namespace Go.Proofs.YtcllfkplpdppiaaDoorH
open Go
theorem lawFnExactFormatRewriting (a : List Relation) (ha : ok a) (b : List RewritingStep) (hb : ok b) : f4 a b = some true := by
 unfold f4
 rw [szRs ha (by omega) (by omega), bS]
 change (if lft 1048576 (relSize a) < 0 then _ else _) = _
 by_cases h1 : lft 1048576 (relSize a) < 0
 ·rw [if_pos h1]
 rw [if_neg h1]
 have b1 := lft_pos h1
 change (f14 b (lft 1048576 (relSize a))).bind _ = _
 rw [szRw hb (by omega) (by omega), bS, lft_lft h1]
 by_cases h2 : lft 1048576 (relSize a + rwSize b) < 0
 ·rw [if_pos h2]
 rw [if_neg h2]
 have b2 := lft_pos h2
 obtain ⟨f1, f2⟩ := rw_fits (l := b) (by omega)
 have f0 : a.length ≤ 1048576 := by have := b1.2; unfold relSize at this; omega
 simp only [toRs f0, toRw f1 f2, specFRw (l := a) (f := b) (by omega) f1 f2, impFRw (l := a) (f := b) (by omega) f1 f2, eqRs (a := a) (by omega), eqRw f1 f2, bS]
 simp
end Go.Proofs.YtcllfkplpdppiaaDoorH
