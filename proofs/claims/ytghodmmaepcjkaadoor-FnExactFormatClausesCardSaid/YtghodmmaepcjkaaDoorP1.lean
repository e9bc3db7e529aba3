import Derived.Test.YtghodmmaepcjkaaDoorTd1
import Derived.Test.YtghodmmaepcjkaaDoorX3
import Derived.Lib.ItoaLen
import Derived.Lib.Join
set_option linter.unusedVariables false
set_option linter.unusedSimpArgs false
set_option linter.defProp false
set_option linter.unusedSectionVars false
namespace Go.Proofs.YtghodmmaepcjkaaDoorH
theorem bS {α β : Type} {a : α} {f : α → Option β} : (some a).bind f = f a := rfl
end Go.Proofs.YtghodmmaepcjkaaDoorH
namespace Go.Proofs.YtghodmmaepcjkaaDoorH
open Go
def dgs (n : Int) : List UInt8 := if n = 0 then [] else Lib.decDigits n.natAbs
theorem dgs_step {n : Int} (h : n ≠ 0) : dgs n = dgs (n.tdiv 10) ++ [UInt8.ofNat (48 + n.natAbs % 10)] := by
 unfold dgs
 have e : (n.tdiv 10).natAbs = n.natAbs / 10 := by rw [Int.natAbs_tdiv]; rfl
 rw [if_neg h, Lib.decDigits]
 by_cases c : n.natAbs < 10
 ·have e0 : n.tdiv 10 = 0 := Int.natAbs_eq_zero.1 (by rw [e]; omega)
  rw [dif_pos c, if_pos e0, List.nil_append, Nat.mod_eq_of_lt c]
 ·have e0 : ¬ n.tdiv 10 = 0 := fun h0 => by rw [h0] at e; simp at e; omega
  rw [dif_neg c, if_neg e0, e]
theorem fmt_loop : ∀ (m : Nat) (n : Int) (out : List UInt8), (-9223372036854775808 ≤ n ∧ n ≤ 9223372036854775807) → n.natAbs < 10 ^ m → out.length + m ≤ 100 → iter f22_0 (n, out) = some (dgs n ++ out) := by
 intro m
 induction m with
 | zero =>
  intro n out _ hn _
  have : n = 0 := by simp at hn; omega
  subst this
  rw [iter_eq]
  simp [f22_0, dgs]
 | succ m ih =>
  intro n out hm hn ho
  by_cases h : n = 0
  ·subst h
   rw [iter_eq]
   simp [f22_0, dgs]
  ·rw [iter_eq]
   simp only [f22_0]
   rw [if_pos h]
   have e1 : (n.tmod 10).natAbs = n.natAbs % 10 := by rw [Int.natAbs_tmod]; rfl
   have e2 : (n.tdiv 10).natAbs = n.natAbs / 10 := by rw [Int.natAbs_tdiv]; rfl
   have hd : (if n.tmod 10 < 0 then some (w64 (-(n.tmod 10))) else some (n.tmod 10) : Option Int) = some ((n.natAbs % 10 : Nat) : Int) := by
    split
    ·rw [w64_of (by omega)]; congr 1; omega
    ·congr 1; omega
   have hlt : n.natAbs % 10 < 10 := Nat.mod_lt _ (by decide)
   have hb : ∀ d : Nat, d < 10 → UInt8.ofNat (w8 (w64 (48 + (d : Int)))).toNat = UInt8.ofNat (48 + d) := by
    intro d hd
    rw [w64_of (by omega)]
    have : d = 0 ∨ d = 1 ∨ d = 2 ∨ d = 3 ∨ d = 4 ∨ d = 5 ∨ d = 6 ∨ d = 7 ∨ d = 8 ∨ d = 9 := by omega
    rcases this with rfl | rfl | rfl | rfl | rfl | rfl | rfl | rfl | rfl | rfl <;> rfl
   rw [hd, bS, hb _ hlt, cat_ok (by simp; omega), bS]
   rw [w64_of (by omega)]
   dsimp only
   rw [ih _ _ (by omega) (by rw [e2]; rw [Nat.pow_succ] at hn; omega) (by simp; omega), dgs_step h, List.append_assoc]
theorem fmtI {n : Int} (h0 : -9223372036854775808 ≤ n) (h1 : n ≤ 9223372036854775807) : f22 n = some (Lib.itoa n) := by
 unfold f22 Lib.itoa
 by_cases h : n = 0
 ·subst h
  rw [if_pos rfl, if_neg (by decide), Lib.decDigits]; rfl
 ·have hl : (dgs n).length ≤ 40 := by
   unfold dgs
   rw [if_neg h, Lib.decDigits_length]
   have := Lib.nDigits_le20 n.natAbs (by omega)
   omega
  rw [if_neg h, fmt_loop 20 n [] ⟨h0, h1⟩ (by omega) (by simp), bS, List.append_nil]
  by_cases c : n < 0
  ·rw [if_pos c, if_pos c, cat_ok (by simp; omega), bS]
   unfold dgs
   rw [if_neg h]; rfl
  ·rw [if_neg c, if_neg c]
   unfold dgs
   rw [if_neg h, show n.natAbs = n.toNat by omega]
theorem itoI {n : Int} (h0 : -9223372036854775808 ≤ n) (h1 : n ≤ 9223372036854775807) : f23 n = some (Lib.itoa n) := by
 unfold f23 f43 itoaN
 rw [if_pos ⟨h0, h1⟩]; rfl
theorem join_snoc (L : List (List UInt8)) (x sep : List UInt8) : Lib.join (L ++ [x]) sep = if L = [] then x else Lib.join L sep ++ sep ++ x := by
 cases L with
 | nil => rw [if_pos rfl, List.nil_append, Lib.join_one]
 | cons a r =>
  rw [if_neg (by simp), List.cons_append, Lib.join_cons, Lib.join_cons]
  simp [Lib.joinTail]
theorem flatK {K : Nat} : ∀ {L : List (List UInt8)}, (∀ x ∈ L, x.length ≤ K) → L.flatten.length ≤ K * L.length
 | [], _ => by simp
 | x :: L, h => by
  have h1 := h x (by simp)
  have h2 := flatK (L := L) fun y hy => h y (by simp [hy])
  simp only [List.flatten_cons, List.length_append, List.length_cons, Nat.mul_succ]
  omega
theorem join_len {K : Nat} {sep : List UInt8} {L : List (List UInt8)} (h : ∀ x ∈ L, x.length ≤ K) : (Lib.join L sep).length ≤ (K + sep.length) * L.length := by
 cases L with
 | nil => simp [Lib.join_nil]
 | cons a r =>
  have h1 := h a (by simp)
  have h2 : (Lib.joinTail sep r).length ≤ (K + sep.length) * r.length := by
   unfold Lib.joinTail
   have := flatK (K := K + sep.length) (L := r.map (sep ++ ·)) (fun x hx => by
    obtain ⟨y, hy, rfl⟩ := List.mem_map.1 hx
    have := h y (by simp [hy])
    simp; omega)
   simpa using this
  rw [Lib.join_cons, List.length_append, List.length_cons, Nat.mul_succ]
  omega
theorem joinI {xs : List (List UInt8)} {sep : List UInt8} (h1 : xs.length ≤ 140737488355328) (h2 : (Lib.join xs sep).length ≤ 140737488355328) : f24 xs sep = some (Lib.join xs sep) := by
 unfold f24 joinN
 rw [if_pos ⟨h1, h2⟩]
end Go.Proofs.YtghodmmaepcjkaaDoorH
namespace Go.Proofs.YtghodmmaepcjkaaDoorH
open Go
theorem toI {a : List Int} (h : a.length ≤ 1048576) : f7 a = some a := by
 unfold f7
 rw [mkl_ok (by omega) (by omega) (by omega)]
 have : iter (f7_0 a) (List.replicate (a.length : Int).toNat 0, 0) = some a := iter_copy (by simp) (fun i hi out ho => by
  simp only [f7_0]
  rw [if_pos (by omega), ix_nat hi, ix_nat ho, Int.toNat_natCast, w64_succ (by omega)]; rfl) (fun out => by
  simp only [f7_0]
  rw [if_neg (by omega)])
 simp only [bS, this]
theorem toII {a : List (List Int)} (h : a.length ≤ 1048576) (h' : ∀ x ∈ a, x.length ≤ 1048576) : f12 a = some a := by
 unfold f12
 rw [mkl_ok (by omega) (by omega) (by omega)]
 have : iter (f12_0 a) (List.replicate (a.length : Int).toNat [], 0) = some a := iter_copy (by simp) (fun i hi out ho => by
  simp only [f12_0]
  rw [if_pos (by omega), ix_nat hi, ix_nat ho, Int.toNat_natCast, w64_succ (by omega)]
  simp only [bS, toI (h' _ (List.getElem_mem hi))]) (fun out => by
  simp only [f12_0]
  rw [if_neg (by omega)])
 simp only [bS, this]
theorem eqI {a : List Int} (h : a.length ≤ 9223372036854775807) : f9 a a = some true := by
 unfold f9
 rw [if_neg (by simp)]
 rw [iter_ex (List.range a.length) (fun _ => false) false (fun i hi => by
  simp only [f9_0]
  simp only [List.length_range] at hi
  rw [if_pos (by omega), ix_nat hi, w64_succ (by omega)]
  simp) (by
  simp only [f9_0]
  rw [if_neg (by simp)])]
 simp
theorem eqII {a : List (List Int)} (h : a.length ≤ 9223372036854775807) (h' : ∀ x ∈ a, x.length ≤ 9223372036854775807) : f14 a a = some true := by
 unfold f14
 rw [if_neg (by simp)]
 rw [iter_ex (List.range a.length) (fun _ => false) false (fun i hi => by
  simp only [f14_0]
  simp only [List.length_range] at hi
  rw [if_pos (by omega), ix_nat hi, w64_succ (by omega)]
  simp only [bS, eqI (h' _ (List.getElem_mem hi))]
  simp) (by
  simp only [f14_0]
  rw [if_neg (by simp)])]
 simp
theorem szI {a : List Int} {n : Int} (h : a.length ≤ 9223372036854775807) (h0 : 0 ≤ n) (h1 : n ≤ 1048576) : f25 a n = some (lft n a.length) := by
 unfold f25
 rw [w64_of (by omega)]
 unfold lft
 by_cases hc : n < (a.length : Int)
 ·rw [if_pos (by omega), if_neg (by omega)]
 ·rw [if_neg (by omega), if_pos (by omega)]
theorem szII {a : List (List Int)} {n : Int} (h : ok a) (h0 : 0 ≤ n) (h1 : n ≤ 1048576) : f10 a n = some (lft n (a.length + (a.map List.length).sum)) := by
 obtain ⟨h, h'⟩ := h
 unfold f10
 rw [w64_of (by omega)]
 by_cases hc : n < (a.length : Int)
 ·rw [if_pos (by omega)]
  unfold lft
  rw [if_neg (by omega)]
 ·rw [if_neg (by omega)]
  rw [iter_sz List.length a _ (by omega) (fun i hi b hb hb' => by
   simp only [f10_0]
   rw [if_pos (by omega), ix_nat hi, w64_succ (by omega)]
   simp only [bS, szI (h' _ (List.getElem_mem hi)).1 hb (by omega)]
   split <;> rfl) (fun b => by
   simp only [f10_0]
   rw [if_neg (by omega)])]
  have : lft (n - a.length) (a.map List.length).sum = lft n (a.length + (a.map List.length).sum) := by
   unfold lft
   by_cases hc2 : (((a.map List.length).sum : Nat) : Int) ≤ n - a.length
   ·rw [if_pos hc2, if_pos (by omega)]; omega
   ·rw [if_neg hc2, if_neg (by omega)]
  rw [this]
  split
  ·rename_i hlt
   rw [lft_bad hlt]; rfl
  ·rfl
theorem szII_ok {a : List (List Int)} {n : Int} (h : ¬ lft n (a.length + (a.map List.length).sum) < 0) (h1 : n ≤ 1048576) : a.length ≤ 1048576 ∧ ∀ x ∈ a, x.length ≤ 1048576 := by
 obtain ⟨_, h⟩ := lft_pos h
 refine ⟨by omega, fun x hx => ?_⟩
 have := mem_le_sum (s := List.length) hx
 omega
end Go.Proofs.YtghodmmaepcjkaaDoorH
namespace Go.Proofs.YtghodmmaepcjkaaDoorH
open Go
abbrev Big (n : Nat) : Prop := n ≤ 9223372036854775806
theorem indexII {s : List (List Int)} {f : List Int → Option Bool} {p : List Int → Bool} (h : Big s.length) (hf : ∀ a ∈ s, f a = some (p a)) : f52 s f = some (s.any p) := by
 unfold f52 f68
 obtain ⟨o, h1, h2⟩ := iter_idx (f := f68_0 s f) s p (fun i hi => by
  simp only [f68_0]
  rw [if_pos (by omega), ix_nat hi, w64_succ (by omega)]
  simp only [bS, hf _ (List.getElem_mem hi)]
  split <;> rfl) (by
  simp only [f68_0]
  rw [if_neg (by omega)])
 rw [h1]
 cases o with
 | inl _ => dsimp only at h2; rw [h2]; rfl
 | inr x => dsimp only at h2; rw [h2.2]; simp; omega
theorem containsI {s : List Int} {v : Int} (h : Big s.length) : f57 s v = some (s.contains v) := by
 unfold f57 f70
 obtain ⟨o, h1, h2⟩ := iter_idx (f := f70_0 s v) s (fun a => v == a) (fun i hi => by
  simp only [f70_0]
  rw [if_pos (by omega), ix_nat hi, w64_succ (by omega)]
  simp only [bS, beq_iff_eq]
  split <;> rfl) (by
  simp only [f70_0]
  rw [if_neg (by omega)])
 rw [h1]
 rw [show s.contains v = s.any (fun a => v == a) from List.any_beq.symm]
 cases o with
 | inl _ => dsimp only at h2; rw [h2]; rfl
 | inr x => dsimp only at h2; rw [h2.2]; simp; omega
end Go.Proofs.YtghodmmaepcjkaaDoorH
namespace Go.Proofs.YtghodmmaepcjkaaDoorH
open Go
def slit (n v : Int) : Bool := let y := if v < 0 ∧ v ≥ w64 (-n) then w64 (-v) else (if 0 > v then 0 else v); decide (1 ≤ y) && decide (y ≤ n)
def ilit (n v : Int) : Bool := !(v == 0) && (decide (w64 (-n) ≤ v) && decide (v ≤ n))
def bef (c : List Int) (i : Nat) : Bool := (c.take i).any fun a => a == c.getD i 0 || a == w64 (-(c.getD i 0))
def clS (n : Int) (c : List Int) : Bool := !(List.range c.length).any fun i => !slit n (c.getD i 0) || bef c i
def clI (n : Int) (c : List Int) : Bool := !(List.range c.length).any fun i => !ilit n (c.getD i 0) || bef c i
theorem slit_ilit {n v : Int} (h0 : 0 ≤ n) (h1 : n ≤ 14) : slit n v = ilit n v := by
 unfold slit ilit
 have e1 : w64 (-n) = -n := w64_of (by omega)
 rw [e1]
 by_cases h2 : v < 0 ∧ v ≥ -n
 ·have e2 : w64 (-v) = -v := w64_of (by omega)
  rw [if_pos h2, e2]
  rw [Bool.eq_iff_iff]
  simp
  omega
 ·rw [if_neg h2]
  rw [Bool.eq_iff_iff]
  by_cases h3 : 0 > v
  ·rw [if_pos h3]; simp; omega
  ·rw [if_neg h3]; simp; omega
theorem clS_clI {n : Int} {c : List Int} (h0 : 0 ≤ n) (h1 : n ≤ 14) : clI n c = clS n c := by
 unfold clS clI
 simp only [slit_ilit h0 h1]
theorem specIn {x lo hi : Int} : f47 x lo hi = some (decide (lo ≤ x) && decide (x ≤ hi)) := by
 unfold f47
 by_cases h : x ≥ lo
 ·rw [if_pos h]; simp [h]
 ·rw [if_neg h]; simp [show ¬ lo ≤ x from h]
theorem implIn {x lo hi : Int} : f51 x lo hi = some (decide (lo ≤ x) && decide (x ≤ hi)) := by
 unfold f51
 by_cases h : lo ≤ x
 ·rw [if_pos h]; simp [h]
 ·rw [if_neg h]; simp [h]
theorem specClause {n : Int} {c : List Int} (h : Big c.length) : f39 n c = some (clS n c) := by
 unfold f39
 rw [iter_ex (List.range c.length) (fun i => !slit n (c.getD i 0) || bef c i) false (fun i hi => by
  simp only [f39_0]
  simp only [List.length_range] at hi
  simp only [List.getElem_range]
  have eg : c.getD i 0 = c[i] := by rw [List.getD_eq_getElem?_getD, List.getElem?_eq_getElem hi]; rfl
  rw [if_pos (by omega), ix_nat hi, w64_succ (by omega), bS]
  have es : ((((if c[i] < 0 then some (decide (c[i] ≥ (w64 (-n)))) else some false) : Option Bool).bind fun x_5 => ((if x_5 = true then some (w64 (-c[i])) else some (if 0 > c[i] then 0 else c[i])) : Option Int).bind fun v_11 => f47 v_11 1 n) : Option Bool) = some (slit n c[i]) := by
   unfold slit
   by_cases h1 : c[i] < 0
   ·by_cases h2 : c[i] ≥ w64 (-n)
    ·simp only [if_pos h1, h2, decide_true, bS, if_true, specIn, and_true]
    ·simp only [if_pos h1, h2, decide_false, bS, specIn, and_false, if_false, Bool.false_eq_true]
   ·rw [if_neg (show ¬ (c[i] < 0 ∧ c[i] ≥ w64 (-n)) from fun h => h1 h.1)]
    simp only [if_neg h1, bS, specIn, if_false, Bool.false_eq_true]
  rw [← Option.bind_assoc] at es
  rw [← Option.bind_assoc, ← Option.bind_assoc, es, bS]
  rw [eg]
  by_cases hc : slit n c[i] = true
  ·rw [hc, if_neg (by simp)]
   rw [iter_ex (c.take i) (fun a => a == c.getD i 0 || a == w64 (-(c.getD i 0))) false (fun k hk => by
    simp only [f39_1]
    simp only [List.length_take] at hk
    rw [if_pos (by omega), ix_nat (l := c) (i := k) (by omega), w64_succ (by omega), ix_nat hi, eg]
    simp only [bS, List.getElem_take]
    by_cases h1 : c[k] = c[i]
    ·rw [if_pos h1]; simp [h1]
    ·rw [if_neg h1]
     by_cases h2 : c[k] = w64 (-c[i]) <;> simp [h1, h2]) (by
    simp only [f39_1]
    rw [if_neg (by simp; omega)])]
   unfold bef
   cases ((c.take i).any fun a => a == c.getD i 0 || a == w64 (-(c.getD i 0))) <;> rfl
  ·simp only [Bool.not_eq_true] at hc
   rw [hc]; rfl) (by
  simp only [f39_0]
  rw [if_neg (by simp)])]
 unfold clS
 cases ((List.range c.length).any fun i => !slit n (c.getD i 0) || bef c i) <;> rfl
theorem implClause {n : Int} {c : List Int} (h : Big c.length) : f54 n c = some (clI n c) := by
 unfold f54
 rw [iter_ex (List.range c.length) (fun i => !ilit n (c.getD i 0) || bef c i) false (fun i hi => by
  simp only [f54_0]
  simp only [List.length_range] at hi
  simp only [List.getElem_range]
  have eg : c.getD i 0 = c[i] := by rw [List.getD_eq_getElem?_getD, List.getElem?_eq_getElem hi]; rfl
  rw [if_pos (by omega), ix_nat hi, w64_succ (by omega), bS, eg]
  unfold ilit
  by_cases h1 : c[i] = 0
  ·rw [if_pos h1]; simp [h1]
  ·rw [if_neg h1, implIn]
   simp only [bS]
   by_cases h2 : (decide (w64 (-n) ≤ c[i]) && decide (c[i] ≤ n)) = true
   ·rw [if_neg (by rw [h2]; simp), cutL_ok (by omega) (by omega) (by omega), bS]
    rw [show (List.take (i : Int).toNat c).drop (0 : Int).toNat = c.take i by simp]
    have hb : Big (c.take i).length := by simp; omega
    rw [containsI hb, containsI hb, h2]
    unfold bef
    rw [eg]
    have e3 : ((c.take i).any fun a => a == c[i] || a == w64 (-c[i])) = ((c.take i).contains c[i] || (c.take i).contains (w64 (-c[i]))) := by
     rw [Bool.eq_iff_iff]; simp only [List.any_eq_true, Bool.or_eq_true, List.contains_iff_mem, beq_iff_eq]
     constructor
     ·rintro ⟨a, ha, h | h⟩
      ·exact .inl (h ▸ ha)
      ·exact .inr (h ▸ ha)
     ·rintro (h | h)
      ·exact ⟨_, h, .inl rfl⟩
      ·exact ⟨_, h, .inr rfl⟩
    rw [e3]
    have h1' : (c[i] == 0) = false := by simpa using h1
    rw [h1']
    cases (c.take i).contains c[i] <;> cases (c.take i).contains (w64 (-c[i])) <;> rfl
   ·rw [if_pos h2]
    simp only [Bool.not_eq_true] at h2
    rw [h2]; simp) (by
  simp only [f54_0]
  rw [if_neg (by simp)])]
 unfold clI
 cases ((List.range c.length).any fun i => !ilit n (c.getD i 0) || bef c i) <;> rfl
def valid (n : Int) (l : List (List Int)) : Bool := l.all (clS n) && ((decide (0 ≤ n) && decide (n ≤ 14)) && decide ((l.length : Int) ≤ 400))
theorem specValid {n : Int} {l : List (List Int)} (h : Big l.length) (h' : ∀ x ∈ l, Big x.length) : f26 n l = some (valid n l) := by
 unfold f26
 rw [iter_ex l (fun c => !clS n c) false (fun i hi => by
  simp only [f26_0]
  rw [if_pos (by omega), ix_nat hi, w64_succ (by omega)]
  simp only [bS, specClause (h' _ (List.getElem_mem hi))]
  cases clS n l[i] <;> rfl) (by
  simp only [f26_0]
  rw [if_neg (by omega)])]
 rw [any_not]
 unfold valid
 cases l.all (clS n)
 ·rfl
 ·rw [if_neg (by simp), bS]
  dsimp only
  rw [specIn, bS]
  cases (decide (0 ≤ n) && decide (n ≤ 14)) <;> simp
theorem implValid {n : Int} {l : List (List Int)} (h : Big l.length) (h' : ∀ x ∈ l, Big x.length) : f27 n l = some (valid n l) := by
 unfold f27 f34 valid
 by_cases h0 : (l.length : Int) ≤ 400
 ·rw [if_pos h0, implIn, bS]
  by_cases h1 : (decide (0 ≤ n) && decide (n ≤ 14)) = true
  ·rw [if_pos h1, h1]
   simp only [Bool.and_eq_true, decide_eq_true_eq] at h1
   rw [indexII (p := fun c => !clS n c) h (fun c hc => by
    unfold f53
    rw [implClause (h' _ hc), clS_clI h1.1 h1.2]; simp), any_not]
   simp [h0]
  ·rw [if_neg h1]
   simp only [Bool.not_eq_true] at h1
   rw [h1]; simp
 ·rw [if_neg h0]; simp [h0]
end Go.Proofs.YtghodmmaepcjkaaDoorH
namespace Go.Proofs.YtghodmmaepcjkaaDoorH
open Go
theorem iter_wordsP {f : List UInt8 × Int → Option ((List UInt8 × Int) ⊕ List UInt8)} (p : List UInt8) (L : List (List UInt8)) (K : Nat) (hK : ∀ x ∈ L, x.length ≤ K)
  (hs : ∀ (i : Nat) (h : i < L.length) (s : List UInt8), s.length ≤ p.length + (K + 1) * i → f (s, (i : Int)) = some (.inl ((if i = 0 then s else s ++ [32]) ++ L[i], ((i + 1 : Nat) : Int)))) (he : ∀ s, f (s, (L.length : Int)) = some (.inr s)) :
  iter f (p, 0) = some (p ++ Lib.join L [32]) := by
 have := iter_steps (f := f) (fun i => (p ++ Lib.join (L.take i) [32], (i : Int))) L.length (p ++ Lib.join L [32]) (fun i hi => by
  have hj := join_len (sep := [32]) (L := L.take i) fun x hx => hK x (List.mem_of_mem_take hx)
  rw [List.length_take, show min i L.length = i by omega, List.length_singleton] at hj
  rw [hs i hi _ (by rw [List.length_append]; omega), take_succ' hi, join_snoc]
  congr 3
  by_cases c : i = 0
  ·subst c; simp [Lib.join_nil]
  ·rw [if_neg c, if_neg (fun e => by
    have := congrArg List.length e
    rw [List.length_take, List.length_nil] at this; omega)]
   simp) (by
  rw [he, List.take_of_length_le (Nat.le_refl _)])
 simpa [Lib.join_nil] using this
def cTxt (c : List Int) : List UInt8 := [40] ++ Lib.join (c.map Lib.itoa) [32] ++ [41]
theorem itoas_len {c : List Int} (ho : ∀ v ∈ c, ok v) : ∀ x ∈ c.map Lib.itoa, x.length ≤ 21 := by
 intro x hx
 obtain ⟨v, hv, rfl⟩ := List.mem_map.1 hx
 exact Lib.itoa_length_le v (ho v hv).1 (ho v hv).2
theorem cTxt_len {c : List Int} (ho : ∀ v ∈ c, ok v) (hl : c.length ≤ 1048576) : (cTxt c).length ≤ 23068674 := by
 unfold cTxt
 have := join_len (sep := [32]) (itoas_len ho)
 rw [List.length_map, List.length_singleton] at this
 simp only [List.length_append, List.length_singleton]; omega
theorem specCl {c : List Int} (ho : ∀ v ∈ c, ok v) (hl : c.length ≤ 1048576) : f6 c = some (cTxt c) := by
 unfold f6 cTxt
 have hj := join_len (sep := [32]) (itoas_len ho)
 rw [List.length_map, List.length_singleton] at hj
 rw [iter_wordsP [40] (c.map Lib.itoa) 21 (itoas_len ho) (fun i hi s hs => by
  rw [List.length_map] at hi
  have hv := ho _ (List.getElem_mem hi)
  have hk := Lib.itoa_length_le c[i] hv.1 hv.2
  rw [List.length_singleton] at hs
  simp only [f6_0]
  have e : (if (i : Int) > 0 then (cat s [32]).bind fun s_17 => some s_17 else some s : Option (List UInt8)) = some (if i = 0 then s else s ++ [32]) := by
   by_cases c : i = 0
   ·rw [if_neg (by omega), if_pos c]
   ·rw [if_pos (by omega), if_neg c, cat_ok (by simp; omega)]; rfl
  have e2 : (if i = 0 then s else s ++ [32]).length ≤ s.length + 1 := by split <;> simp
  rw [List.getElem_map, if_pos (by omega), e, bS, ix_nat hi, bS, fmtI hv.1 hv.2, bS, cat_ok (by omega), bS, w64_succ (by omega)]) (fun s => by
  simp only [f6_0]
  rw [List.length_map, if_neg (by omega)]), bS, cat_ok (by simp only [List.length_append, List.length_singleton]; omega), bS]
theorem impCl {c : List Int} (ho : ∀ v ∈ c, ok v) (hl : c.length ≤ 1048576) : f8 c = some (cTxt c) := by
 unfold f8 cTxt
 have hj := join_len (sep := [32]) (itoas_len ho)
 rw [List.length_map, List.length_singleton] at hj
 have it := iter_steps (f := f8_0 c) (fun i => ((c.take i).map Lib.itoa, (i : Int))) c.length (c.map Lib.itoa) (fun i hi => by
  have hv := ho _ (List.getElem_mem hi)
  simp only [f8_0]
  rw [if_pos (by omega), ix_nat hi, bS, itoI hv.1 hv.2, bS, app_fits (by simp; omega), bS, w64_succ (by omega), take_succ' hi, List.map_append, List.map_singleton]) (by
  simp only [f8_0]
  rw [if_neg (by omega), List.take_of_length_le (Nat.le_refl _)])
 simp only [List.take_zero, List.map_nil, Int.natCast_zero, Int.ofNat_zero] at it
 rw [it, bS, joinI (by rw [List.length_map]; omega) (by omega), bS, cat_ok (by rw [List.length_singleton]; omega), bS, cat_ok (by simp only [List.length_append, List.length_singleton]; omega), bS]
def clsTxt (n : Int) (l : List (List Int)) : List UInt8 := if valid n l = true then Lib.itoa n ++ [58] ++ (l.map cTxt).flatten else []
theorem valid_few {n : Int} {l : List (List Int)} (h : valid n l = true) : l.length ≤ 400 ∧ 0 ≤ n ∧ n ≤ 14 := by
 unfold valid at h
 simp only [Bool.and_eq_true, decide_eq_true_eq] at h
 omega
theorem specCls {n : Int} {l : List (List Int)} (hl : l.length ≤ 1048576) (hx : ∀ x ∈ l, x.length ≤ 1048576) (ho : ∀ x ∈ l, ∀ v ∈ x, ok v) : f11 n l = some (clsTxt n l) := by
 unfold f11 clsTxt
 rw [specValid (n := n) (show Big l.length by omega) (fun x h => by have := hx x h; omega), bS]
 cases hv : valid n l
 ·simp
 ·obtain ⟨h4, n0, n1⟩ := valid_few hv
  have hn := Lib.itoa_length_le n (by omega) (by omega)
  have hK : ∀ x ∈ l.map cTxt, x.length ≤ 23068674 := fun x h => by
   obtain ⟨c, hc, rfl⟩ := List.mem_map.1 h
   exact cTxt_len (ho c hc) (hx c hc)
  rw [if_neg (by simp), fmtI (by omega) (by omega), bS, cat_ok (by rw [List.length_singleton]; omega), bS]
  have it := iter_steps (f := f11_0 l) (fun i => (Lib.itoa n ++ [58] ++ ((l.take i).map cTxt).flatten, (i : Int))) l.length (Lib.itoa n ++ [58] ++ (l.map cTxt).flatten) (fun i hi => by
   have h1 := flatK (L := (l.take i).map cTxt) (K := 23068674) fun x h => by
    obtain ⟨c, hc, rfl⟩ := List.mem_map.1 h
    exact hK _ (List.mem_map.2 ⟨c, List.mem_of_mem_take hc, rfl⟩)
   rw [List.length_map, List.length_take] at h1
   have h2 := cTxt_len (ho _ (List.getElem_mem hi)) (hx _ (List.getElem_mem hi))
   simp only [f11_0]
   rw [if_pos (by omega), ix_nat hi, bS, specCl (ho _ (List.getElem_mem hi)) (hx _ (List.getElem_mem hi)), bS, cat_ok (by simp only [List.length_append, List.length_singleton]; omega), bS, w64_succ (by omega), take_succ' hi, List.map_append, List.flatten_append, List.map_singleton, List.flatten_singleton, ← List.append_assoc]) (by
   simp only [f11_0]
   rw [if_neg (by omega), List.take_of_length_le (Nat.le_refl _)])
  simp only [List.take_zero, List.map_nil, List.flatten_nil, List.append_nil, Int.natCast_zero, Int.ofNat_zero] at it
  rw [it, bS, if_pos rfl]
theorem impCls {n : Int} {l : List (List Int)} (hl : l.length ≤ 1048576) (hx : ∀ x ∈ l, x.length ≤ 1048576) (ho : ∀ x ∈ l, ∀ v ∈ x, ok v) : f13 n l = some (clsTxt n l) := by
 unfold f13 clsTxt
 rw [implValid (n := n) (show Big l.length by omega) (fun x h => by have := hx x h; omega), bS]
 cases hv : valid n l
 ·simp
 ·obtain ⟨h4, n0, n1⟩ := valid_few hv
  have hn := Lib.itoa_length_le n (by omega) (by omega)
  have hK : ∀ x ∈ l.map cTxt, x.length ≤ 23068674 := fun x h => by
   obtain ⟨c, hc, rfl⟩ := List.mem_map.1 h
   exact cTxt_len (ho c hc) (hx c hc)
  rw [if_neg (by simp), itoI (by omega) (by omega), bS, cat_ok (by rw [List.length_singleton]; omega), bS]
  have it := iter_steps (f := f13_0 l) (fun i => (Lib.itoa n ++ [58] ++ ((l.take i).map cTxt).flatten, (i : Int))) l.length (Lib.itoa n ++ [58] ++ (l.map cTxt).flatten) (fun i hi => by
   have h1 := flatK (L := (l.take i).map cTxt) (K := 23068674) fun x h => by
    obtain ⟨c, hc, rfl⟩ := List.mem_map.1 h
    exact hK _ (List.mem_map.2 ⟨c, List.mem_of_mem_take hc, rfl⟩)
   rw [List.length_map, List.length_take] at h1
   have h2 := cTxt_len (ho _ (List.getElem_mem hi)) (hx _ (List.getElem_mem hi))
   simp only [f13_0]
   rw [if_pos (by omega), ix_nat hi, bS, impCl (ho _ (List.getElem_mem hi)) (hx _ (List.getElem_mem hi)), bS, cat_ok (by simp only [List.length_append, List.length_singleton]; omega), bS, w64_succ (by omega), take_succ' hi, List.map_append, List.flatten_append, List.map_singleton, List.flatten_singleton, ← List.append_assoc]) (by
   simp only [f13_0]
   rw [if_neg (by omega), List.take_of_length_le (Nat.le_refl _)])
  simp only [List.take_zero, List.map_nil, List.flatten_nil, List.append_nil, Int.natCast_zero, Int.ofNat_zero] at it
  rw [it, bS, if_pos rfl]
end Go.Proofs.YtghodmmaepcjkaaDoorH
namespace Go.Proofs.YtghodmmaepcjkaaDoorH
open Go
theorem lawFnExactFormatClauses (n : Int) (hn : ok n) (a : List (List Int)) (ha : ok a) : f4 n a = some true := by
 unfold f4
 rw [szII ha (by omega) (by omega)]
 simp only [bS]
 by_cases h1 : lft 1048576 (a.length + (a.map List.length).sum) < 0
 ·rw [if_pos h1]
 rw [if_neg h1]
 obtain ⟨h2, h3⟩ := szII_ok h1 (by omega)
 have ho : ∀ x ∈ a, ∀ v ∈ x, ok v := fun x hx v hv => (ha.2 x hx).2 v hv
 simp only [toII h2 h3, bS, specCls (n := n) h2 h3 ho, impCls (n := n) h2 h3 ho]
 simp only [eqII (show a.length ≤ 9223372036854775807 by omega) (fun x hx => by have := h3 x hx; omega), bS]
 simp
end Go.Proofs.YtghodmmaepcjkaaDoorH
