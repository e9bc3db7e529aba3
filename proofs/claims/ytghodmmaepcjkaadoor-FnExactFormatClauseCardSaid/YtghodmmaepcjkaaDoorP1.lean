import Derived.Test.YtghodmmaepcjkaaDoorTd1
import Derived.Test.YtghodmmaepcjkaaDoorX3
import Derived.Lib.ItoaLen
import Derived.Lib.Join
set_option linter.unusedVariables false
set_option linter.unusedSimpArgs false
set_option linter.defProp false
set_option linter.unusedSectionVars false
namespace Go.Proofs.YtghodmmaepcjkaaDoorH
open Go
def dgs (n : Int) : List UInt8 := if n = 0 then [] else Lib.decDigits n.natAbs
theorem dgs_step {n : Int} (h : n ≠ 0) : dgs n = dgs (n.tdiv 10) ++ [UInt8.ofNat (48 + n.natAbs % 10)] := by
 unfold dgs
 have e : (n.tdiv 10).natAbs = n.natAbs / 10 := by rw [Int.natAbs_tdiv]; rfl
 rw [if_neg h, Lib.decDigits]
 by_cases c : n.natAbs < 10
 ·have e0 : n.tdiv 10 = 0 := Int.natAbs_eq_zero.1 (by rw [e]; omega)
  rw [dif_pos c, if_pos e0, List.nil_append, Nat.mod_eq_of_lt c]
 ·have e0 : ¬ n.tdiv 10 = 0 := fun h0 => by rw [h0] at e; simp at e; omega
  rw [dif_neg c, if_neg e0, e]
theorem fmt_loop : ∀ (m : Nat) (n : Int) (out : List UInt8), (-9223372036854775808 ≤ n ∧ n ≤ 9223372036854775807) → n.natAbs < 10 ^ m → out.length + m ≤ 100 → iter f22_0 (n, out) = some (dgs n ++ out) := by
 intro m
 induction m with
 | zero =>
  intro n out _ hn _
  have : n = 0 := by simp at hn; omega
  subst this
  rw [iter_eq]
  simp [f22_0, dgs]
 | succ m ih =>
  intro n out hm hn ho
  by_cases h : n = 0
  ·subst h
   rw [iter_eq]
   simp [f22_0, dgs]
  ·rw [iter_eq]
   simp only [f22_0]
   rw [if_pos h]
   have e1 : (n.tmod 10).natAbs = n.natAbs % 10 := by rw [Int.natAbs_tmod]; rfl
   have e2 : (n.tdiv 10).natAbs = n.natAbs / 10 := by rw [Int.natAbs_tdiv]; rfl
   have hd : (if n.tmod 10 < 0 then some (w64 (-(n.tmod 10))) else some (n.tmod 10) : Option Int) = some ((n.natAbs % 10 : Nat) : Int) := by
    split
    ·rw [w64_of (by omega)]; congr 1; omega
    ·congr 1; omega
   have hlt : n.natAbs % 10 < 10 := Nat.mod_lt _ (by decide)
   have hb : ∀ d : Nat, d < 10 → UInt8.ofNat (w8 (w64 (48 + (d : Int)))).toNat = UInt8.ofNat (48 + d) := by
    intro d hd
    rw [w64_of (by omega)]
    have : d = 0 ∨ d = 1 ∨ d = 2 ∨ d = 3 ∨ d = 4 ∨ d = 5 ∨ d = 6 ∨ d = 7 ∨ d = 8 ∨ d = 9 := by omega
    rcases this with rfl | rfl | rfl | rfl | rfl | rfl | rfl | rfl | rfl | rfl <;> rfl
   rw [hd, Option.bind_some, hb _ hlt, cat_ok (by simp; omega), Option.bind_some]
   rw [w64_of (by omega)]
   dsimp only
   rw [ih _ _ (by omega) (by rw [e2]; rw [Nat.pow_succ] at hn; omega) (by simp; omega), dgs_step h, List.append_assoc]
theorem fmtI {n : Int} (h0 : -9223372036854775808 ≤ n) (h1 : n ≤ 9223372036854775807) : f22 n = some (Lib.itoa n) := by
 unfold f22 Lib.itoa
 by_cases h : n = 0
 ·subst h
  rw [if_pos rfl, if_neg (by decide), Lib.decDigits]; rfl
 ·have hl : (dgs n).length ≤ 40 := by
   unfold dgs
   rw [if_neg h, Lib.decDigits_length]
   have := Lib.nDigits_le20 n.natAbs (by omega)
   omega
  rw [if_neg h, fmt_loop 20 n [] ⟨h0, h1⟩ (by omega) (by simp), Option.bind_some, List.append_nil]
  by_cases c : n < 0
  ·rw [if_pos c, if_pos c, cat_ok (by simp; omega), Option.bind_some]
   unfold dgs
   rw [if_neg h]; rfl
  ·rw [if_neg c, if_neg c]
   unfold dgs
   rw [if_neg h, show n.natAbs = n.toNat by omega]
theorem itoI {n : Int} (h0 : -9223372036854775808 ≤ n) (h1 : n ≤ 9223372036854775807) : f23 n = some (Lib.itoa n) := by
 unfold f23 f43 itoaN
 rw [if_pos ⟨h0, h1⟩]; rfl
theorem join_snoc (L : List (List UInt8)) (x sep : List UInt8) : Lib.join (L ++ [x]) sep = if L = [] then x else Lib.join L sep ++ sep ++ x := by
 cases L with
 | nil => rw [if_pos rfl, List.nil_append, Lib.join_one]
 | cons a r =>
  rw [if_neg (by simp), List.cons_append, Lib.join_cons, Lib.join_cons]
  simp [Lib.joinTail]
theorem flatK {K : Nat} : ∀ {L : List (List UInt8)}, (∀ x ∈ L, x.length ≤ K) → L.flatten.length ≤ K * L.length
 | [], _ => by simp
 | x :: L, h => by
  have h1 := h x (by simp)
  have h2 := flatK (L := L) fun y hy => h y (by simp [hy])
  simp only [List.flatten_cons, List.length_append, List.length_cons, Nat.mul_succ]
  omega
theorem join_len {K : Nat} {sep : List UInt8} {L : List (List UInt8)} (h : ∀ x ∈ L, x.length ≤ K) : (Lib.join L sep).length ≤ (K + sep.length) * L.length := by
 cases L with
 | nil => simp [Lib.join_nil]
 | cons a r =>
  have h1 := h a (by simp)
  have h2 : (Lib.joinTail sep r).length ≤ (K + sep.length) * r.length := by
   unfold Lib.joinTail
   have := flatK (K := K + sep.length) (L := r.map (sep ++ ·)) (fun x hx => by
    obtain ⟨y, hy, rfl⟩ := List.mem_map.1 hx
    have := h y (by simp [hy])
    simp; omega)
   simpa using this
  rw [Lib.join_cons, List.length_append, List.length_cons, Nat.mul_succ]
  omega
theorem joinI {xs : List (List UInt8)} {sep : List UInt8} (h1 : xs.length ≤ 140737488355328) (h2 : (Lib.join xs sep).length ≤ 140737488355328) : f24 xs sep = some (Lib.join xs sep) := by
 unfold f24 joinN
 rw [if_pos ⟨h1, h2⟩]
end Go.Proofs.YtghodmmaepcjkaaDoorH
namespace Go.Proofs.YtghodmmaepcjkaaDoorH
open Go
theorem toI {a : List Int} (h : a.length ≤ 1048576) : f7 a = some a := by
 unfold f7
 rw [mkl_ok (by omega) (by omega) (by omega)]
 have : iter (f7_0 a) (List.replicate (a.length : Int).toNat 0, 0) = some a := iter_copy (by simp) (fun i hi out ho => by
  simp only [f7_0]
  rw [if_pos (by omega), ix_nat hi, ix_nat ho, Int.toNat_natCast, w64_succ (by omega)]; rfl) (fun out => by
  simp only [f7_0]
  rw [if_neg (by omega)])
 simp only [Option.bind_some, this]
theorem eqI {a : List Int} (h : a.length ≤ 9223372036854775807) : f9 a a = some true := by
 unfold f9
 rw [if_neg (by simp)]
 rw [iter_ex (List.range a.length) (fun _ => false) false (fun i hi => by
  simp only [f9_0]
  simp only [List.length_range] at hi
  rw [if_pos (by omega), ix_nat hi, w64_succ (by omega)]
  simp) (by
  simp only [f9_0]
  rw [if_neg (by simp)])]
 simp
end Go.Proofs.YtghodmmaepcjkaaDoorH
namespace Go.Proofs.YtghodmmaepcjkaaDoorH
open Go
end Go.Proofs.YtghodmmaepcjkaaDoorH
namespace Go.Proofs.YtghodmmaepcjkaaDoorH
open Go
def slit (n v : Int) : Bool := let y := if v < 0 ∧ v ≥ w64 (-n) then w64 (-v) else (if 0 > v then 0 else v); decide (1 ≤ y) && decide (y ≤ n)
def bef (c : List Int) (i : Nat) : Bool := (c.take i).any fun a => a == c.getD i 0 || a == w64 (-(c.getD i 0))
def clS (n : Int) (c : List Int) : Bool := !(List.range c.length).any fun i => !slit n (c.getD i 0) || bef c i
def valid (n : Int) (l : List (List Int)) : Bool := l.all (clS n) && ((decide (0 ≤ n) && decide (n ≤ 14)) && decide ((l.length : Int) ≤ 400))
end Go.Proofs.YtghodmmaepcjkaaDoorH
namespace Go.Proofs.YtghodmmaepcjkaaDoorH
open Go
theorem iter_wordsP {f : List UInt8 × Int → Option ((List UInt8 × Int) ⊕ List UInt8)} (p : List UInt8) (L : List (List UInt8)) (K : Nat) (hK : ∀ x ∈ L, x.length ≤ K)
  (hs : ∀ (i : Nat) (h : i < L.length) (s : List UInt8), s.length ≤ p.length + (K + 1) * i → f (s, (i : Int)) = some (.inl ((if i = 0 then s else s ++ [32]) ++ L[i], ((i + 1 : Nat) : Int)))) (he : ∀ s, f (s, (L.length : Int)) = some (.inr s)) :
  iter f (p, 0) = some (p ++ Lib.join L [32]) := by
 have := iter_steps (f := f) (fun i => (p ++ Lib.join (L.take i) [32], (i : Int))) L.length (p ++ Lib.join L [32]) (fun i hi => by
  have hj := join_len (sep := [32]) (L := L.take i) fun x hx => hK x (List.mem_of_mem_take hx)
  rw [List.length_take, show min i L.length = i by omega, List.length_singleton] at hj
  rw [hs i hi _ (by rw [List.length_append]; omega), take_succ' hi, join_snoc]
  congr 3
  by_cases c : i = 0
  ·subst c; simp [Lib.join_nil]
  ·rw [if_neg c, if_neg (fun e => by
    have := congrArg List.length e
    rw [List.length_take, List.length_nil] at this; omega)]
   simp) (by
  rw [he, List.take_of_length_le (Nat.le_refl _)])
 simpa [Lib.join_nil] using this
def cTxt (c : List Int) : List UInt8 := [40] ++ Lib.join (c.map Lib.itoa) [32] ++ [41]
theorem itoas_len {c : List Int} (ho : ∀ v ∈ c, ok v) : ∀ x ∈ c.map Lib.itoa, x.length ≤ 21 := by
 intro x hx
 obtain ⟨v, hv, rfl⟩ := List.mem_map.1 hx
 exact Lib.itoa_length_le v (ho v hv).1 (ho v hv).2
theorem specCl {c : List Int} (ho : ∀ v ∈ c, ok v) (hl : c.length ≤ 1048576) : f6 c = some (cTxt c) := by
 unfold f6 cTxt
 have hj := join_len (sep := [32]) (itoas_len ho)
 rw [List.length_map, List.length_singleton] at hj
 rw [iter_wordsP [40] (c.map Lib.itoa) 21 (itoas_len ho) (fun i hi s hs => by
  rw [List.length_map] at hi
  have hv := ho _ (List.getElem_mem hi)
  have hk := Lib.itoa_length_le c[i] hv.1 hv.2
  rw [List.length_singleton] at hs
  simp only [f6_0]
  have e : (if (i : Int) > 0 then (cat s [32]).bind fun s_17 => some s_17 else some s : Option (List UInt8)) = some (if i = 0 then s else s ++ [32]) := by
   by_cases c : i = 0
   ·rw [if_neg (by omega), if_pos c]
   ·rw [if_pos (by omega), if_neg c, cat_ok (by simp; omega)]; rfl
  have e2 : (if i = 0 then s else s ++ [32]).length ≤ s.length + 1 := by split <;> simp
  rw [List.getElem_map, if_pos (by omega), e, Option.bind_some, ix_nat hi, Option.bind_some, fmtI hv.1 hv.2, Option.bind_some, cat_ok (by omega), Option.bind_some, w64_succ (by omega)]) (fun s => by
  simp only [f6_0]
  rw [List.length_map, if_neg (by omega)]), Option.bind_some, cat_ok (by simp only [List.length_append, List.length_singleton]; omega), Option.bind_some]
theorem impCl {c : List Int} (ho : ∀ v ∈ c, ok v) (hl : c.length ≤ 1048576) : f8 c = some (cTxt c) := by
 unfold f8 cTxt
 have hj := join_len (sep := [32]) (itoas_len ho)
 rw [List.length_map, List.length_singleton] at hj
 have it := iter_steps (f := f8_0 c) (fun i => ((c.take i).map Lib.itoa, (i : Int))) c.length (c.map Lib.itoa) (fun i hi => by
  have hv := ho _ (List.getElem_mem hi)
  simp only [f8_0]
  rw [if_pos (by omega), ix_nat hi, Option.bind_some, itoI hv.1 hv.2, Option.bind_some, app_fits (by simp; omega), Option.bind_some, w64_succ (by omega), take_succ' hi, List.map_append, List.map_singleton]) (by
  simp only [f8_0]
  rw [if_neg (by omega), List.take_of_length_le (Nat.le_refl _)])
 simp only [List.take_zero, List.map_nil, Int.natCast_zero, Int.ofNat_zero] at it
 rw [it, Option.bind_some, joinI (by rw [List.length_map]; omega) (by omega), Option.bind_some, cat_ok (by rw [List.length_singleton]; omega), Option.bind_some, cat_ok (by simp only [List.length_append, List.length_singleton]; omega), Option.bind_some]
end Go.Proofs.YtghodmmaepcjkaaDoorH
namespace Go.Proofs.YtghodmmaepcjkaaDoorH
open Go
theorem lawFnExactFormatClause (c : List Int) (hc : ok c) : f3 c = some true := by
 unfold f3
 by_cases h : (c.length : Int) > 1048576
 ·rw [if_pos h]
 rw [if_neg h]
 have hl : c.length ≤ 1048576 := by omega
 simp only [toI hl, specCl hc.2 hl, impCl hc.2 hl, eqI (show c.length ≤ 9223372036854775807 by omega), Option.bind_some]
 simp
end Go.Proofs.YtghodmmaepcjkaaDoorH
