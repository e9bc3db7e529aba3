import Derived.Test.YtjfeimhiiomgoaaTd1
import Derived.Test.YtjfeimhiiomgoaaX3
set_option linter.unusedVariables false
set_option linter.unusedSimpArgs false
set_option linter.defProp false
set_option linter.unusedSectionVars false
namespace Go.Proofs.YtjfeimhiiomgoaaH
open Go
section
theorem bS {α β : Type} {a : α} {f : α -> Option β} : (some a).bind f = f a := rfl
end
section
theorem toI {a : List Int} (h : a.length <= 1048576) : f44 a = some a := by
 unfold f44
 rw [mkl_ok (by omega) (by omega) (by omega)]
 have : iter (f44_0 a) (List.replicate (a.length : Int).toNat 0, 0) = some a := iter_copy (by simp) (fun i hi out ho => by
  simp only [f44_0]
  rw [if_pos (by omega), ix_nat hi, ix_nat ho, Int.toNat_natCast, w64_succ (by omega)]; rfl) (fun out => by
  simp only [f44_0]
  rw [if_neg (by omega)])
 simp only [bS, this]
theorem toII {a : List (List Int)} (h : a.length <= 1048576) (h' : ∀ x ∈ a, x.length <= 1048576) : f18 a = some a := by
 unfold f18
 rw [mkl_ok (by omega) (by omega) (by omega)]
 have : iter (f18_0 a) (List.replicate (a.length : Int).toNat [], 0) = some a := iter_copy (by simp) (fun i hi out ho => by
  simp only [f18_0]
  rw [if_pos (by omega), ix_nat hi, ix_nat ho, Int.toNat_natCast, w64_succ (by omega)]
  simp only [bS, toI (h' _ (List.getElem_mem hi))]) (fun out => by
  simp only [f18_0]
  rw [if_neg (by omega)])
 simp only [bS, this]
theorem eqI {a : List Int} (h : a.length <= 9223372036854775807) : f45 a a = some true := by
 unfold f45
 rw [if_neg (by simp)]
 rw [iter_ex (List.range a.length) (fun _ => false) false (fun i hi => by
  simp only [f45_0]
  simp only [List.length_range] at hi
  rw [if_pos (by omega), ix_nat hi, w64_succ (by omega)]
  simp) (by
  simp only [f45_0]
  rw [if_neg (by simp)])]
 simp
theorem eqB {a : List Bool} (h : a.length <= 9223372036854775807) : f19 a a = some true := by
 unfold f19
 rw [if_neg (by simp)]
 rw [iter_ex (List.range a.length) (fun _ => false) false (fun i hi => by
  simp only [f19_0]
  simp only [List.length_range] at hi
  rw [if_pos (by omega), ix_nat hi, w64_succ (by omega)]
  simp) (by
  simp only [f19_0]
  rw [if_neg (by simp)])]
 simp
theorem eqII {a : List (List Int)} (h : a.length <= 9223372036854775807) (h' : ∀ x ∈ a, x.length <= 9223372036854775807) : f20 a a = some true := by
 unfold f20
 rw [if_neg (by simp)]
 rw [iter_ex (List.range a.length) (fun _ => false) false (fun i hi => by
  simp only [f20_0]
  simp only [List.length_range] at hi
  rw [if_pos (by omega), ix_nat hi, w64_succ (by omega)]
  simp only [bS, eqI (h' _ (List.getElem_mem hi))]
  simp) (by
  simp only [f20_0]
  rw [if_neg (by simp)])]
 simp
theorem szI {a : List Int} {n : Int} (h : a.length <= 9223372036854775807) (h0 : 0 <= n) (h1 : n <= 1048576) : f43 a n = some (lft n a.length) := by
 unfold f43
 rw [w64_of (by omega)]
 unfold lft
 by_cases hc : n < (a.length : Int)
 ·rw [if_pos (by omega), if_neg (by omega)]
 ·rw [if_neg (by omega), if_pos (by omega)]
theorem szII {a : List (List Int)} {n : Int} (h : ok a) (h0 : 0 <= n) (h1 : n <= 1048576) : f17 a n = some (lft n (a.length + (a.map List.length).sum)) := by
 obtain ⟨h, h'⟩ := h
 unfold f17
 rw [w64_of (by omega)]
 by_cases hc : n < (a.length : Int)
 ·rw [if_pos (by omega)]
  unfold lft
  rw [if_neg (by omega)]
 ·rw [if_neg (by omega)]
  rw [iter_sz List.length a _ (by omega) (fun i hi b hb hb' => by
   simp only [f17_0]
   rw [if_pos (by omega), ix_nat hi, w64_succ (by omega)]
   simp only [bS, szI (h' _ (List.getElem_mem hi)).1 hb (by omega)]
   split <;> rfl) (fun b => by
   simp only [f17_0]
   rw [if_neg (by omega)])]
  have : lft (n - a.length) (a.map List.length).sum = lft n (a.length + (a.map List.length).sum) := by
   unfold lft
   by_cases hc2 : (((a.map List.length).sum : Nat) : Int) <= n - a.length
   ·rw [if_pos hc2, if_pos (by omega)]; omega
   ·rw [if_neg hc2, if_neg (by omega)]
  rw [this]
  split
  ·rename_i hlt
   rw [lft_bad hlt]; rfl
  ·rfl
theorem szII_ok {a : List (List Int)} {n : Int} (h : ¬ lft n (a.length + (a.map List.length).sum) < 0) (h1 : n <= 1048576) : a.length <= 1048576 /\ ∀ x ∈ a, x.length <= 1048576 := by
 obtain ⟨_, h⟩ := lft_pos h
 refine ⟨by omega, fun x hx => ?_⟩
 have := mem_le_sum (s := List.length) hx
 omega
end
section
abbrev Big (n : Nat) : Prop := n <= 9223372036854775806
theorem hasI {l : List Int} {x : Int} (h : Big l.length) : f55 l x = some (l.contains x) := by
 unfold f55
 rw [iter_ex l (fun a => x == a) true (fun i hi => by
  simp only [f55_0]
  rw [if_pos (by omega), ix_nat hi, w64_succ (by omega)]
  simp only [bS]
  by_cases hc : l[i] = x
  ·rw [if_pos hc, if_pos (by simp [hc])]
  ·rw [if_neg hc, if_neg (by simp; exact fun h => hc h.symm)]) (by
  simp only [f55_0]
  rw [if_neg (by omega)])]
 rw [show l.contains x = l.any (fun a => x == a) from List.any_beq.symm]
 by_cases hc : l.any (fun a => x == a) = true
 ·rw [if_pos hc, hc]; rfl
 ·rw [if_neg hc]; simp only [Bool.not_eq_true] at hc; rw [hc]; rfl
theorem indexII {s : List (List Int)} {f : List Int -> Option Bool} {p : List Int -> Bool} (h : Big s.length) (hf : ∀ a ∈ s, f a = some (p a)) : f32 s f = some (s.any p) := by
 unfold f32 f56
 obtain ⟨o, h1, h2⟩ := iter_idx (f := f56_0 s f) s p (fun i hi => by
  simp only [f56_0]
  rw [if_pos (by omega), ix_nat hi, w64_succ (by omega)]
  simp only [bS, hf _ (List.getElem_mem hi)]
  split <;> rfl) (by
  simp only [f56_0]
  rw [if_neg (by omega)])
 rw [h1]
 cases o with
 | inl _ => dsimp only at h2; rw [h2]; rfl
 | inr x => dsimp only at h2; rw [h2.2]; simp; omega
theorem indexI {s : List Int} {f : Int -> Option Bool} {p : Int -> Bool} (h : Big s.length) (hf : ∀ a ∈ s, f a = some (p a)) : f34 s f = some (s.any p) := by
 unfold f34 f57
 obtain ⟨o, h1, h2⟩ := iter_idx (f := f57_0 s f) s p (fun i hi => by
  simp only [f57_0]
  rw [if_pos (by omega), ix_nat hi, w64_succ (by omega)]
  simp only [bS, hf _ (List.getElem_mem hi)]
  split <;> rfl) (by
  simp only [f57_0]
  rw [if_neg (by omega)])
 rw [h1]
 cases o with
 | inl _ => dsimp only at h2; rw [h2]; rfl
 | inr x => dsimp only at h2; rw [h2.2]; simp; omega
theorem containsI {s : List Int} {v : Int} (h : Big s.length) : f52 s v = some (s.contains v) := by
 unfold f52 f68
 obtain ⟨o, h1, h2⟩ := iter_idx (f := f68_0 s v) s (fun a => v == a) (fun i hi => by
  simp only [f68_0]
  rw [if_pos (by omega), ix_nat hi, w64_succ (by omega)]
  simp only [bS, beq_iff_eq]
  split <;> rfl) (by
  simp only [f68_0]
  rw [if_neg (by omega)])
 rw [h1]
 rw [show s.contains v = s.any (fun a => v == a) from List.any_beq.symm]
 cases o with
 | inl _ => dsimp only at h2; rw [h2]; rfl
 | inr x => dsimp only at h2; rw [h2.2]; simp; omega
end
section
def lit (m : List Bool) (x : Int) : Bool :=
 if x > 0 then (if x <= (m.length : Int) then m[(x - 1).toNat]?.getD false else false)
 else if x < 0 then (if x >= -(m.length : Int) then !(m[(-x - 1).toNat]?.getD false) else false) else false
def sat (l : List (List Int)) (m : List Bool) : Bool := l.all fun c => c.any (lit m)
def slit (n v : Int) : Bool := let y := if v < 0 /\ v >= w64 (-n) then w64 (-v) else (if 0 > v then 0 else v); decide (1 <= y) && decide (y <= n)
def ilit (n v : Int) : Bool := !(v == 0) && (decide (w64 (-n) <= v) && decide (v <= n))
def bef (c : List Int) (i : Nat) : Bool := (c.take i).any fun a => a == c.getD i 0 || a == w64 (-(c.getD i 0))
def clS (n : Int) (c : List Int) : Bool := !(List.range c.length).any fun i => !slit n (c.getD i 0) || bef c i
def clI (n : Int) (c : List Int) : Bool := !(List.range c.length).any fun i => !ilit n (c.getD i 0) || bef c i
theorem slit_ilit {n v : Int} (h0 : 0 <= n) (h1 : n <= 14) : slit n v = ilit n v := by
 unfold slit ilit
 have e1 : w64 (-n) = -n := w64_of (by omega)
 rw [e1]
 by_cases h2 : v < 0 /\ v >= -n
 ·have e2 : w64 (-v) = -v := w64_of (by omega)
  rw [if_pos h2, e2]
  rw [Bool.eq_iff_iff]
  simp
  omega
 ·rw [if_neg h2]
  rw [Bool.eq_iff_iff]
  by_cases h3 : 0 > v
  ·rw [if_pos h3]; simp; omega
  ·rw [if_neg h3]; simp; omega
theorem clS_clI {n : Int} {c : List Int} (h0 : 0 <= n) (h1 : n <= 14) : clI n c = clS n c := by
 unfold clS clI
 simp only [slit_ilit h0 h1]
theorem specIn3 {x lo hi : Int} : f31 x lo hi = some (decide (lo <= x) && decide (x <= hi)) := by
 unfold f31
 by_cases h : x >= lo
 ·rw [if_pos h]; simp [h]
 ·rw [if_neg h]; simp [show ¬ lo <= x from h]
theorem implIn {x lo hi : Int} : f58 x lo hi = some (decide (lo <= x) && decide (x <= hi)) := by
 unfold f58
 by_cases h : lo <= x
 ·rw [if_pos h]; simp [h]
 ·rw [if_neg h]; simp [h]
theorem specClause {n : Int} {c : List Int} (h : Big c.length) : f30 n c = some (clS n c) := by
 unfold f30
 rw [iter_ex (List.range c.length) (fun i => !slit n (c.getD i 0) || bef c i) false (fun i hi => by
  simp only [f30_0]
  simp only [List.length_range] at hi
  simp only [List.getElem_range]
  have eg : c.getD i 0 = c[i] := by rw [zD, zE hi]; rfl
  rw [if_pos (by omega), ix_nat hi, w64_succ (by omega), bS]
  have es : ((((if c[i] < 0 then some (decide (c[i] >= (w64 (-n)))) else some false) : Option Bool).bind fun x_5 => ((if x_5 = true then some (w64 (-c[i])) else some (if 0 > c[i] then 0 else c[i])) : Option Int).bind fun v_11 => f31 v_11 1 n) : Option Bool) = some (slit n c[i]) := by
   unfold slit
   by_cases h1 : c[i] < 0
   ·by_cases h2 : c[i] >= w64 (-n)
    ·simp only [if_pos h1, h2, decide_true, bS, if_true, specIn3, and_true]
    ·simp only [if_pos h1, h2, decide_false, bS, specIn3, and_false, if_false, Bool.false_eq_true]
   ·rw [if_neg (show ¬ (c[i] < 0 /\ c[i] >= w64 (-n)) from fun h => h1 h.1)]
    simp only [if_neg h1, bS, specIn3, if_false, Bool.false_eq_true]
  rw [<- Option.bind_assoc] at es
  rw [<- Option.bind_assoc, <- Option.bind_assoc, es, bS]
  rw [eg]
  by_cases hc : slit n c[i] = true
  ·rw [hc, if_neg (by simp)]
   rw [iter_ex (c.take i) (fun a => a == c.getD i 0 || a == w64 (-(c.getD i 0))) false (fun k hk => by
    simp only [f30_1]
    simp only [List.length_take] at hk
    rw [if_pos (by omega), ix_nat (l := c) (i := k) (by omega), w64_succ (by omega), ix_nat hi, eg]
    simp only [bS, List.getElem_take]
    by_cases h1 : c[k] = c[i]
    ·rw [if_pos h1]; simp [h1]
    ·rw [if_neg h1]
     by_cases h2 : c[k] = w64 (-c[i]) <;> simp [h1, h2]) (by
    simp only [f30_1]
    rw [if_neg (by simp; omega)])]
   unfold bef
   cases ((c.take i).any fun a => a == c.getD i 0 || a == w64 (-(c.getD i 0))) <;> rfl
  ·simp only [Bool.not_eq_true] at hc
   rw [hc]; rfl) (by
  simp only [f30_0]
  rw [if_neg (by simp)])]
 unfold clS
 cases ((List.range c.length).any fun i => !slit n (c.getD i 0) || bef c i) <;> rfl
theorem implClause {n : Int} {c : List Int} (h : Big c.length) : f60 n c = some (clI n c) := by
 unfold f60
 rw [iter_ex (List.range c.length) (fun i => !ilit n (c.getD i 0) || bef c i) false (fun i hi => by
  simp only [f60_0]
  simp only [List.length_range] at hi
  simp only [List.getElem_range]
  have eg : c.getD i 0 = c[i] := by rw [zD, zE hi]; rfl
  rw [if_pos (by omega), ix_nat hi, w64_succ (by omega), bS, eg]
  unfold ilit
  by_cases h1 : c[i] = 0
  ·rw [if_pos h1]; simp [h1]
  ·rw [if_neg h1, implIn]
   simp only [bS]
   by_cases h2 : (decide (w64 (-n) <= c[i]) && decide (c[i] <= n)) = true
   ·rw [if_neg (by rw [h2]; simp), cutL_ok (by omega) (by omega) (by omega), bS]
    rw [show (List.take (i : Int).toNat c).drop (0 : Int).toNat = c.take i by simp]
    have hb : Big (c.take i).length := by simp; omega
    rw [containsI hb, containsI hb, h2]
    unfold bef
    rw [eg]
    have e3 : ((c.take i).any fun a => a == c[i] || a == w64 (-c[i])) = ((c.take i).contains c[i] || (c.take i).contains (w64 (-c[i]))) := by
     rw [Bool.eq_iff_iff]; simp only [List.any_eq_true, Bool.or_eq_true, List.contains_iff_mem, beq_iff_eq]
     constructor
     ·rintro ⟨a, ha, h | h⟩
      ·exact .inl (h ▸ ha)
      ·exact .inr (h ▸ ha)
     ·rintro (h | h)
      ·exact ⟨_, h, .inl rfl⟩
      ·exact ⟨_, h, .inr rfl⟩
    rw [e3]
    have h1' : (c[i] == 0) = false := by simpa using h1
    rw [h1']
    cases (c.take i).contains c[i] <;> cases (c.take i).contains (w64 (-c[i])) <;> rfl
   ·rw [if_pos h2]
    simp only [Bool.not_eq_true] at h2
    rw [h2]; simp) (by
  simp only [f60_0]
  rw [if_neg (by simp)])]
 unfold clI
 cases ((List.range c.length).any fun i => !ilit n (c.getD i 0) || bef c i) <;> rfl
def valid (n : Int) (l : List (List Int)) : Bool := l.all (clS n) && ((decide (0 <= n) && decide (n <= 14)) && decide ((l.length : Int) <= 400))
theorem specValid {n : Int} {l : List (List Int)} (h : Big l.length) (h' : ∀ x ∈ l, Big x.length) : f12 n l = some (valid n l) := by
 unfold f12
 rw [iter_ex l (fun c => !clS n c) false (fun i hi => by
  simp only [f12_0]
  rw [if_pos (by omega), ix_nat hi, w64_succ (by omega)]
  simp only [bS, specClause (h' _ (List.getElem_mem hi))]
  cases clS n l[i] <;> rfl) (by
  simp only [f12_0]
  rw [if_neg (by omega)])]
 rw [any_not]
 unfold valid
 cases l.all (clS n)
 ·rfl
 ·rw [if_neg (by simp), bS]
  dsimp only
  rw [specIn3, bS]
  cases (decide (0 <= n) && decide (n <= 14)) <;> simp
theorem implValid {n : Int} {l : List (List Int)} (h : Big l.length) (h' : ∀ x ∈ l, Big x.length) : f26 n l = some (valid n l) := by
 unfold f26 f37 valid
 by_cases h0 : (l.length : Int) <= 400
 ·rw [if_pos h0, implIn, bS]
  by_cases h1 : (decide (0 <= n) && decide (n <= 14)) = true
  ·rw [if_pos h1, h1]
   simp only [Bool.and_eq_true, decide_eq_true_eq] at h1
   rw [indexII (p := fun c => !clS n c) h (fun c hc => by
    unfold f59
    rw [implClause (h' _ hc), clS_clI h1.1 h1.2]; simp), any_not]
   simp [h0]
  ·rw [if_neg h1]
   simp only [Bool.not_eq_true] at h1
   rw [h1]; simp
 ·rw [if_neg h0]; simp [h0]
end
section
abbrev neg (v : Int) : Int := w64 (-v)
def negs (c : List Int) : List Int := c.map neg
theorem negSpec {l : List Int} (h : l.length <= 1048576) : f42 l = some (negs l) := by
 unfold f42
 rw [iter_flat l (fun v => [neg v]) id (fun i hi => by
  have hn := take_flat_le (l := l) (i := i) (g := fun v => [neg v]) (m := 1) (fun _ => by simp)
  simp only [f42_0]
  rw [if_pos (by omega), ix_nat hi, bS, app_fits (by simp only [List.length_singleton]; omega), w64_succ (by omega)]; rfl) (by
  simp only [f42_0]
  rw [if_neg (by omega)]; rfl)]
 rw [bS, negs, List.map_eq_flatMap]; rfl
theorem negImp {l : List Int} (h : l.length <= 1048576) : f40 l = some (negs l) := by
 unfold f40
 rw [iter_flat l (fun v => [neg v]) id (fun i hi => by
  have hn := take_flat_le (l := l) (i := i) (g := fun v => [neg v]) (m := 1) (fun _ => by simp)
  simp only [f40_0]
  rw [if_pos (by omega), ix_nat hi, bS, app_fits (by simp only [List.length_singleton]; omega), w64_succ (by omega)]; rfl) (by
  simp only [f40_0]
  rw [if_neg (by omega)]; rfl)]
 rw [bS, negs, List.map_eq_flatMap]; rfl
def left (out c : List Int) : List Int := c.filter fun v => !out.contains (neg v)
def hit (out c : List Int) : Bool := c.any out.contains
theorem filter_flat {α : Type} {l : List α} {p : α -> Bool} : l.flatMap (fun v => if p v = true then [v] else []) = l.filter p := by
 induction l with
 | nil => rfl
 | cons a l ih => rw [List.flatMap_cons, ih, List.filter_cons]; split <;> rfl
theorem leftSpec {c out : List Int} (h : c.length <= 1048576) (ho : Big out.length) : ∃ o, f63 c out = some o /\ o.2 = hit out c /\ (o.2 = false -> o.1 = left out c) := by
 unfold f63
 obtain ⟨r, e1, e2⟩ := iter_up (f := f63_0 c out) c.length (fun i s => s = (left out (c.take i), (i : Int)) /\ hit out (c.take i) = false) (fun r => match r with | .inl o => o = left out c /\ hit out c = false | .inr (o, b) => b = true /\ hit out c = true) (fun i s hi ⟨hs, hh⟩ => by
  subst hs
  have hl : (left out (c.take i)).length <= i := by
   refine Nat.le_trans (List.length_filter_le _ _) ?_
   rw [List.length_take]; omega
  simp only [f63_0]
  rw [if_pos (by omega), ix_nat hi, bS, hasI ho, bS]
  have et := take_succ' hi
  by_cases hc : out.contains c[i] = true
  ·rw [if_pos hc]
   exact ⟨_, rfl, rfl, List.any_eq_true.2 ⟨_, List.getElem_mem hi, hc⟩⟩
  ·rw [if_neg hc, hasI ho, bS, w64_succ (by omega)]
   simp only [Bool.not_eq_true] at hc
   have h2 : hit out (c.take (i + 1)) = false := by
    unfold hit at hh ⊢; rw [et, List.any_append, hh]; simp [hc]; simpa using hc
   have h3 : left out (c.take (i + 1)) = left out (c.take i) ++ (if !out.contains (neg c[i]) then [c[i]] else []) := by
    unfold left; rw [et, List.filter_append, List.filter_cons]; rfl
   by_cases hn : out.contains (neg c[i]) = true
   ·refine ⟨.inl (left out (c.take i), ((i + 1 : Nat) : Int)), ?_, ?_, h2⟩
    ·rw [if_neg (by simpa using hn)]; rfl
    ·rw [h3, hn]; simp
   ·refine ⟨.inl (left out (c.take i) ++ [c[i]], ((i + 1 : Nat) : Int)), ?_, ?_, h2⟩
    ·rw [if_pos (by simpa using hn), app_fits (by simp only [List.length_singleton]; omega)]; rfl
    ·simp only [Bool.not_eq_true] at hn
     rw [h3, hn]; simp) (fun s ⟨hs, hh⟩ => by
  subst hs
  rw [List.take_of_length_le (Nat.le_refl _)] at hh ⊢
  simp only [f63_0]
  rw [if_neg (by omega)]
  exact ⟨_, rfl, rfl, hh⟩) ([], 0) ⟨by simp [left], by simp [hit]⟩
 rw [e1]
 cases r with
 | inl o => exact ⟨_, rfl, e2.2.symm, fun _ => e2.1⟩
 | inr r => obtain ⟨o, b⟩ := r; exact ⟨_, rfl, e2.1.trans e2.2.symm, fun h => by rw [e2.1] at h; cases h⟩
theorem withoutImp {c b : List Int} (h : c.length <= 1048576) (hb : Big b.length) : f62 c b = some (c.filter fun v => !b.contains v) := by
 unfold f62
 rw [iter_flat c (fun v => if (!b.contains v) = true then [v] else []) id (fun i hi => by
  have hn := take_flat_le (l := c) (i := i) (g := fun v => if (!b.contains v) = true then [v] else []) (m := 1) (fun a => by split <;> simp)
  generalize (c.take i).flatMap (fun v => if (!b.contains v) = true then [v] else []) = out at hn ⊢
  simp only [f62_0]
  rw [if_pos (by omega), ix_nat hi, bS, containsI hb, bS, w64_succ (by omega)]
  cases hc : b.contains c[i]
  ·rw [if_pos (by simp), app_fits (by simp only [List.length_singleton]; omega)]; rfl
  ·rw [if_neg (by simp)]; simp) (by
  simp only [f62_0]
  rw [if_neg (by omega)]; rfl)]
 rw [bS, filter_flat]; rfl
def Lits (n : Int) (c : List Int) : Prop := ∀ v ∈ c, v ≠ 0 /\ -n <= v /\ v <= n
theorem neg_neg {n v : Int} (h : n <= 14) (hv : v ≠ 0 /\ -n <= v /\ v <= n) : neg v = -v := w64_of (by omega)
theorem left_eq {n : Int} {c out : List Int} (hn : n <= 14) (hc : Lits n c) (ho : Lits n out) : (c.filter fun v => !(negs out).contains v) = left out c := by
 unfold left
 apply List.filter_congr
 intro v hv
 have : (negs out).contains v = out.contains (neg v) := by
  rw [Bool.eq_iff_iff, List.contains_iff_mem, List.contains_iff_mem]
  unfold negs
  rw [List.mem_map]
  constructor
  ·rintro ⟨a, ha, rfl⟩
   rw [neg_neg hn (ho a ha)]
   have := ho a ha
   rw [neg_neg hn (by omega), Int.neg_neg]; exact ha
  ·intro h
   refine ⟨_, h, ?_⟩
   have h1 := hc v hv
   rw [neg_neg hn h1, neg_neg hn (by omega), Int.neg_neg]
 rw [this]
def scan (out : List Int) : List (List Int) -> Option (Option Int)
 | [] => none
 | c :: l => if hit out c = true then scan out l else match left out c with
  | [] => some none
  | [v] => some (some v)
  | _ => scan out l
def round (out : List Int) (l : List (List Int)) : (List Int × Bool) ⊕ (List Int × Bool) := match scan out l with
 | none => .inl (out, false)
 | some none => .inr (out, true)
 | some (some v) => .inl (out ++ [v], true)
theorem roundImp {n : Int} {l : List (List Int)} {out : List Int} (hn : n <= 14) (h : l.length <= 1048576) (h' : ∀ c ∈ l, c.length <= 1048576) (hl : ∀ c ∈ l, Lits n c) (ho : Lits n out) (hz : out.length <= 1048576) :
  iter (f39_1 l out) 0 = some (round out l) := by
 obtain ⟨r, e1, e2⟩ := iter_up (f := f39_1 l out) l.length (fun i s => s = (i : Int) /\ scan out (l.drop i) = scan out l) (fun r => r = round out l) (fun i s hi ⟨hs, hh⟩ => by
  subst hs
  simp only [f39_1]
  have hb := h' _ (List.getElem_mem hi)
  have hg : Big (negs out).length := by simp only [negs, List.length_map]; omega
  rw [if_pos (by omega), ix_nat hi, bS, indexI (p := out.contains) (by omega) (fun x _ => by
   unfold f61
   rw [containsI (by omega)]; rfl), bS, negImp hz, bS, withoutImp hb hg, left_eq hn (hl _ (List.getElem_mem hi)) ho, w64_succ (by omega)]
  rw [List.drop_eq_getElem_cons hi] at hh
  rw [scan] at hh
  by_cases hc : hit out l[i] = true
  ·rw [if_pos hc] at hh
   rw [if_pos (show l[i].any out.contains = true from hc)]
   exact ⟨_, rfl, rfl, hh⟩
  ·rw [if_neg hc] at hh
   rw [if_neg (show ¬ l[i].any out.contains = true from hc)]
   cases hv : left out l[i] with
   | nil =>
    rw [hv] at hh
    exact ⟨.inr (.inr (out, true)), rfl, by unfold round; rw [<- hh]⟩
   | cons v t =>
    rw [hv] at hh
    rw [bS, if_neg (by simp only [List.length_cons]; omega)]
    cases t with
    | nil =>
     rw [if_pos (by simp), show ix [v] (0 : Int) = some v from rfl, bS, app_fits (by simp only [List.length_singleton]; omega)]
     exact ⟨.inr (.inl (out ++ [v], true)), rfl, by unfold round; rw [<- hh]⟩
    | cons w t =>
     rw [if_neg (by simp only [List.length_cons]; omega)]
     exact ⟨_, rfl, rfl, hh⟩) (fun s ⟨hs, hh⟩ => by
  subst hs
  simp only [f39_1]
  rw [if_neg (by omega)]
  rw [List.drop_of_length_le (Nat.le_refl _), scan] at hh
  refine ⟨_, rfl, ?_⟩
  unfold round
  rw [<- hh]) 0 ⟨rfl, by simp⟩
 rw [e1, e2]
theorem roundSpec {l : List (List Int)} {out : List Int} (h : l.length <= 1048576) (h' : ∀ c ∈ l, c.length <= 1048576) (hz : out.length <= 1048576) :
  ∃ r, iter (f41_1 l) (out, false, 0) = some r /\ (match r with | .inl (o, m) => round out l = .inl (o, m) | .inr (o, m) => m = true /\ round out l = .inr (o, m)) := by
 refine iter_up (f := f41_1 l) l.length (fun i s => (s = (out, false, (i : Int)) /\ scan out (l.drop i) = scan out l) \/ ∃ v, s = (out ++ [v], true, (i : Int)) /\ scan out l = some (some v)) (fun r => match r with | .inl (o, m) => round out l = .inl (o, m) | .inr (o, m) => m = true /\ round out l = .inr (o, m)) (fun i s hi hs => ?_) (fun s hs => ?_) (out, false, 0) (.inl ⟨rfl, by simp⟩)
 ·rcases hs with ⟨hs, hh⟩ | ⟨v, hs, hh⟩
  ·subst hs
   have hb := h' _ (List.getElem_mem hi)
   obtain ⟨⟨o1, o2⟩, g1, g2, g3⟩ := leftSpec (c := l[i]) (out := out) hb (by omega)
   simp only [f41_1]
   rw [if_pos (by omega), bS, if_pos (by simp), ix_nat hi, bS, g1, bS, w64_succ (by omega)]
   rw [List.drop_eq_getElem_cons hi, scan] at hh
   simp only at g2 g3 ⊢
   by_cases hc : hit out l[i] = true
   ·rw [if_pos hc] at hh
    rw [if_pos (g2.trans hc)]
    exact ⟨_, rfl, .inl ⟨rfl, hh⟩⟩
   ·rw [if_neg hc] at hh
    simp only [Bool.not_eq_true] at hc
    rw [if_neg (by rw [g2, hc]; simp), g3 (g2.trans hc)]
    cases hv : left out l[i] with
    | nil =>
     rw [hv] at hh
     exact ⟨.inr (.inr (out, true)), rfl, rfl, by unfold round; rw [<- hh]⟩
    | cons v t =>
     rw [hv] at hh
     rw [if_neg (by simp only [List.length_cons]; omega)]
     cases t with
     | nil =>
      rw [if_pos (by simp), show ix [v] (0 : Int) = some v from rfl, bS, app_fits (by simp only [List.length_singleton]; omega)]
      exact ⟨.inl (out ++ [v], true, ((i + 1 : Nat) : Int)), rfl, .inr ⟨v, rfl, hh.symm⟩⟩
     | cons w t =>
      rw [if_neg (by simp only [List.length_cons]; omega)]
      exact ⟨_, rfl, .inl ⟨rfl, hh⟩⟩
  ·subst hs
   simp only [f41_1]
   rw [if_pos (by omega), bS, if_neg (by simp)]
   exact ⟨_, rfl, by unfold round; rw [hh]⟩
 ·rcases hs with ⟨hs, hh⟩ | ⟨v, hs, hh⟩
  ·subst hs
   simp only [f41_1]
   rw [if_neg (by omega), bS, if_neg (by simp)]
   rw [List.drop_of_length_le (Nat.le_refl _), scan] at hh
   exact ⟨_, rfl, by unfold round; rw [<- hh]⟩
  ·subst hs
   simp only [f41_1]
   rw [if_neg (by omega), bS, if_neg (by simp)]
   exact ⟨_, rfl, by unfold round; rw [hh]⟩
def Good (n : Int) (c : List Int) : Prop := Lits n c /\ c.Pairwise fun a b => a ≠ b /\ a ≠ -b
theorem pigeon : ∀ (n : Nat) (l : List Nat), l.Nodup -> (∀ x ∈ l, x < n) -> l.length <= n
 | 0, l, _, h => by
  cases l with
  | nil => simp
  | cons a l => exact absurd (h a (by simp)) (by omega)
 | n + 1, l, hd, h => by
  have h1 := pigeon n (l.erase n) (hd.erase n) (fun x hx => by
   have h2 := h x (List.mem_of_mem_erase hx)
   have h3 : x ≠ n := fun e => by subst e; exact hd.not_mem_erase hx
   omega)
  have h4 := List.length_erase (l := l) (a := n)
  split at h4 <;> omega
theorem Good.len {n : Int} {c : List Int} (h : Good n c) : (c.length : Int) <= n \/ c = [] := by
 cases hc : c with
 | nil => exact .inr rfl
 | cons a t =>
  left
  rw [<- hc]
  have h0 := h.1 a (by rw [hc]; simp)
  have := pigeon n.toNat (c.map fun v => v.natAbs - 1) (by
   unfold List.Nodup
   rw [List.pairwise_map]
   refine List.Pairwise.imp_of_mem ?_ h.2
   intro x y hx hy hxy
   have := h.1 x hx
   have := h.1 y hy
   omega) (by
   intro x hx
   rw [List.mem_map] at hx
   obtain ⟨v, hv, rfl⟩ := hx
   have := h.1 v hv
   omega)
  rw [List.length_map] at this
  omega
theorem Good.le14 {n : Int} {c : List Int} (hn : n <= 14) (h : Good n c) : c.length <= 14 := by
 rcases h.len with h | h
 ·omega
 ·subst h; simp
theorem scan_some {out : List Int} : ∀ {l : List (List Int)} {v : Int}, scan out l = some (some v) -> ∃ c ∈ l, hit out c = false /\ left out c = [v]
 | [], v, h => by simp [scan] at h
 | c :: l, v, h => by
  rw [scan] at h
  by_cases hc : hit out c = true
  ·rw [if_pos hc] at h
   obtain ⟨d, hd, g⟩ := scan_some h
   exact ⟨d, by simp [hd], g⟩
  ·rw [if_neg hc] at h
   simp only [Bool.not_eq_true] at hc
   split at h
   ·cases h
   ·rename_i w hw
    simp only [zJ] at h
    subst h
    exact ⟨c, by simp, hc, hw⟩
   ·obtain ⟨d, hd, g⟩ := scan_some h
    exact ⟨d, by simp [hd], g⟩
theorem scan_good {n : Int} {out : List Int} {l : List (List Int)} {v : Int} (hn : n <= 14) (hl : ∀ c ∈ l, Lits n c) (ho : Good n out) (h : scan out l = some (some v)) : Good n (out ++ [v]) := by
 obtain ⟨c, hc, h1, h2⟩ := scan_some h
 have hv : v ∈ left out c := by rw [h2]; simp
 unfold left at hv
 rw [List.mem_filter] at hv
 have hv1 := hl c hc v hv.1
 have hv2 : v ∉ out := fun hm => by
  have : hit out c = true := List.any_eq_true.2 ⟨v, hv.1, by simpa using hm⟩
  rw [this] at h1; cases h1
 have hv3 : -v ∉ out := fun hm => by
  rw [neg_neg hn hv1] at hv
  simp [hm] at hv
 refine ⟨fun x hx => ?_, ?_⟩
 ·rw [List.mem_append, List.mem_singleton] at hx
  rcases hx with hx | hx
  ·exact ho.1 x hx
  ·rw [hx]; exact hv1
 ·rw [List.pairwise_append]
  refine ⟨ho.2, by simp, fun a ha b hb => ?_⟩
  rw [List.mem_singleton] at hb
  subst hb
  exact ⟨fun e => hv2 (e ▸ ha), fun e => hv3 (e ▸ ha)⟩
def prop (l : List (List Int)) : Nat -> List Int -> List Int × Bool
 | 0, out => (out, false)
 | k + 1, out => match round out l with
  | .inl (o, true) => prop l k o
  | .inl (o, false) => (o, false)
  | .inr r => r
theorem round_inl {out o : List Int} {l : List (List Int)} (h : round out l = .inl (o, true)) : ∃ v, o = out ++ [v] /\ scan out l = some (some v) := by
 unfold round at h
 cases hs : scan out l with
 | none => rw [hs] at h; simp at h
 | some x => cases x with
  | none => rw [hs] at h; simp at h
  | some v => rw [hs] at h; simp at h; exact ⟨v, h.symm, rfl⟩
theorem propImp {n : Int} {l : List (List Int)} (hn : n <= 14) (h : l.length <= 1048576) (h' : ∀ c ∈ l, c.length <= 1048576) (hl : ∀ c ∈ l, Lits n c) : ∀ (k : Nat) (out : List Int), Good n out -> 14 < k + out.length ->
  iter (f39_0 l) out = some (prop l k out) := by
 intro k
 induction k with
 | zero => intro out ho hk; exact absurd (ho.le14 hn) (by omega)
 | succ k ih =>
  intro out ho hk
  have hz := ho.le14 hn
  rw [iter_eq]
  simp only [f39_0]
  rw [roundImp hn h h' hl ho.1 (by omega), bS, prop]
  cases hr : round out l with
  | inl o => obtain ⟨o, b⟩ := o; cases b with
   | false => rfl
   | true =>
    obtain ⟨v, hv, hs⟩ := round_inl hr
    have := ih o (by rw [hv]; exact scan_good hn hl ho hs) (by rw [hv]; simp; omega)
    simpa using this
  | inr r => rfl
theorem propSpec {n : Int} {l : List (List Int)} (hn : n <= 14) (h : l.length <= 1048576) (h' : ∀ c ∈ l, c.length <= 1048576) (hl : ∀ c ∈ l, Lits n c) : ∀ (k : Nat) (out : List Int), Good n out -> 14 < k + out.length ->
  ∃ r, iter (f41_0 l) (out, true) = some r /\ (match r with | .inl o => prop l k out = (o, false) | .inr x => prop l k out = x) := by
 intro k
 induction k with
 | zero => intro out ho hk; exact absurd (ho.le14 hn) (by omega)
 | succ k ih =>
  intro out ho hk
  have hz := ho.le14 hn
  rw [iter_eq]
  simp only [f41_0]
  obtain ⟨r, g1, g2⟩ := roundSpec (out := out) h h' (by omega)
  rw [if_pos trivial, g1, bS, prop]
  cases r with
  | inl o => obtain ⟨o, b⟩ := o; cases b with
   | false =>
    simp only at g2
    rw [g2]
    refine ⟨.inl o, ?_, rfl⟩
    simp only
    rw [iter_eq]
    simp only [f41_0]
    rfl
   | true =>
    simp only at g2
    obtain ⟨v, hv, hs⟩ := round_inl g2
    rw [g2]
    obtain ⟨r, e1, e2⟩ := ih o (by rw [hv]; exact scan_good hn hl ho hs) (by rw [hv]; simp; omega)
    exact ⟨r, e1, e2⟩
  | inr r =>
   obtain ⟨o, b⟩ := r
   simp only at g2
   rw [g2.2]
   exact ⟨_, rfl, rfl⟩
theorem slit_ok {n v : Int} (h0 : 0 <= n) (h1 : n <= 14) : slit n v = true ↔ v ≠ 0 /\ -n <= v /\ v <= n := by
 rw [slit_ilit h0 h1]
 unfold ilit
 have e1 : w64 (-n) = -n := w64_of (by omega)
 rw [e1]; simp
theorem clS_good {n : Int} {c : List Int} (h0 : 0 <= n) (h1 : n <= 14) : clS n c = true ↔ Good n c := by
 unfold clS
 have eg : ∀ i (hi : i < c.length), c.getD i 0 = c[i] := fun i hi => by rw [zD, zE hi]; rfl
 have ek : ((!(List.range c.length).any fun i => !slit n (c.getD i 0) || bef c i) = true) ↔ ∀ i (hi : i < c.length), slit n c[i] = true /\ bef c i = false := by
  rw [Bool.not_eq_true', List.any_eq_false]
  constructor
  ·intro h i hi
   have := h i (by simpa using hi)
   rw [eg i hi] at this
   revert this
   cases slit n c[i] <;> cases bef c i <;> simp
  ·intro h i hi
   rw [List.mem_range] at hi
   have := h i hi
   rw [eg i hi, this.1, this.2]; simp
 rw [ek]
 constructor
 ·intro h
  have hl : Lits n c := fun v hv => by
   obtain ⟨i, hi, rfl⟩ := List.getElem_of_mem hv
   exact (slit_ok h0 h1).1 (h i hi).1
  refine ⟨hl, ?_⟩
  rw [List.pairwise_iff_getElem]
  intro i j hi hj hij
  have h2 := (h j hj).2
  unfold bef at h2
  rw [List.any_eq_false] at h2
  have h3 := h2 c[i] (by rw [List.mem_take_iff_getElem]; exact ⟨i, by omega, rfl⟩)
  rw [eg j hj] at h3
  have e2 : w64 (-c[j]) = -c[j] := neg_neg h1 (hl _ (List.getElem_mem hj))
  rw [e2] at h3
  simpa using h3
 ·intro ⟨hl, hp⟩ i hi
  refine ⟨(slit_ok h0 h1).2 (hl _ (List.getElem_mem hi)), ?_⟩
  unfold bef
  rw [List.any_eq_false]
  intro a ha
  rw [List.mem_take_iff_getElem] at ha
  obtain ⟨k, hk, rfl⟩ := ha
  rw [eg i hi]
  have e2 : w64 (-c[i]) = -c[i] := neg_neg h1 (hl _ (List.getElem_mem hi))
  rw [e2]
  have := (List.pairwise_iff_getElem.1 hp) k i (by omega) hi (by omega)
  simpa using this
theorem negs_good {n : Int} {c : List Int} (h1 : n <= 14) (h : Good n c) : Good n (negs c) := by
 have e : negs c = c.map fun v => -v := by
  unfold negs
  apply List.map_congr_left
  intro v hv
  exact neg_neg h1 (h.1 v hv)
 rw [e]
 refine ⟨fun v hv => ?_, ?_⟩
 ·rw [List.mem_map] at hv
  obtain ⟨a, ha, rfl⟩ := hv
  have := h.1 a ha
  omega
 ·rw [List.pairwise_map]
  exact h.2.imp fun {a b} h => ⟨fun e => h.1 (by omega), fun e => h.2 (by omega)⟩
theorem valid_lits {n : Int} {l : List (List Int)} (h : valid n l = true) : 0 <= n /\ n <= 14 /\ l.length <= 400 /\ ∀ c ∈ l, Good n c := by
 unfold valid at h
 simp only [Bool.and_eq_true, decide_eq_true_eq] at h
 refine ⟨h.2.1.1, h.2.1.2, by omega, fun c hc => ?_⟩
 exact (clS_good h.2.1.1 h.2.1.2).1 (List.all_eq_true.1 h.1 c hc)
def rup (n : Int) (l : List (List Int)) (c : List Int) : Bool := if valid n l = true /\ clS n c = true then (prop l 15 (negs c)).2 else false
end
section
theorem prop_good {n : Int} {l : List (List Int)} (hn : n <= 14) (hl : ∀ c ∈ l, Lits n c) : ∀ (k : Nat) (out : List Int), Good n out -> Good n (prop l k out).1 := by
 intro k
 induction k with
 | zero => intro out ho; exact ho
 | succ k ih =>
  intro out ho
  rw [prop]
  cases hr : round out l with
  | inl o =>
   obtain ⟨o, b⟩ := o
   cases b with
   | true =>
    obtain ⟨v, hv, hs⟩ := round_inl hr
    exact ih o (by rw [hv]; exact scan_good hn hl ho hs)
   | false =>
    unfold round at hr
    cases hs : scan out l with
    | none => rw [hs] at hr; simp at hr; exact hr ▸ ho
    | some x => cases x with
     | none => rw [hs] at hr; simp at hr
     | some v => rw [hs] at hr; simp at hr
  | inr r =>
   unfold round at hr
   cases hs : scan out l with
   | none => rw [hs] at hr; simp at hr
   | some x => cases x with
    | none => rw [hs] at hr; simp at hr; rw [<- hr]; exact ho
    | some v => rw [hs] at hr; simp at hr
end
section
def bit (k : Int) (v : Nat) : Bool := decide ((band .i64 (sshr .i64 k (v : Int)) 1) = 1)
def mods (n k : Nat) : List Bool := (List.range n).map (bit (k : Int))
theorem mods_len {n k : Nat} : (mods n k).length = n := by simp [mods]
def count (n : Nat) (l : List (List Int)) : Int := (List.range (2 ^ n)).foldl (fun c k => if sat l (mods n k) = true then w64 (c + 1) else c) 0
end
section
theorem lit_opp {m : List Bool} {v : Int} (h : v ≠ 0 /\ -(m.length : Int) <= v /\ v <= m.length) : lit m (-v) = !lit m v := by
 unfold lit
 by_cases hp : v > 0
 ·rw [if_neg (by omega), if_pos (by omega), if_pos (by omega), if_pos hp, if_pos (by omega), Int.neg_neg]
 ·rw [if_pos (by omega), if_pos (by omega), if_neg hp, if_pos (by omega), if_pos (by omega), Bool.not_not]
def allLit (m : List Bool) (out : List Int) : Bool := out.all (lit m)
theorem left_true {n : Int} {m : List Bool} {out c : List Int} (hm : (m.length : Int) = n) (hn : n <= 14) (hc : Lits n c) (ho : allLit m out = true) (hs : c.any (lit m) = true) : ∃ v ∈ left out c, lit m v = true := by
 obtain ⟨v, hv, hl⟩ := List.any_eq_true.1 hs
 refine ⟨v, ?_, hl⟩
 unfold left
 rw [List.mem_filter]
 refine ⟨hv, ?_⟩
 have h1 := hc v hv
 rw [neg_neg hn h1]
 simp only [Bool.not_eq_true', List.contains_eq_mem, decide_eq_false_iff_not]
 intro hmem
 have := List.all_eq_true.1 ho _ hmem
 rw [lit_opp (by omega), hl] at this
 cases this
theorem scan_true {n : Int} {m : List Bool} {out : List Int} (hm : (m.length : Int) = n) (hn : n <= 14) (ho : allLit m out = true) : ∀ {l : List (List Int)}, (∀ c ∈ l, Lits n c) -> sat l m = true -> scan out l ≠ some none /\ ∀ v, scan out l = some (some v) -> lit m v = true
 | [], _, _ => by simp [scan]
 | c :: l, hl, hs => by
  unfold sat at hs
  rw [List.all_cons, Bool.and_eq_true] at hs
  have ih := scan_true hm hn ho (l := l) (fun d hd => hl d (by simp [hd])) hs.2
  rw [scan]
  by_cases hc : hit out c = true
  ·rw [if_pos hc]; exact ih
  ·rw [if_neg hc]
   obtain ⟨v, hv, hv'⟩ := left_true hm hn (hl c (by simp)) ho hs.1
   cases he : left out c with
   | nil => rw [he] at hv; simp at hv
   | cons w t =>
    cases t with
    | nil =>
     rw [he] at hv
     simp only [List.mem_singleton] at hv
     subst hv
     refine ⟨by simp, fun x hx => ?_⟩
     simp only [zJ] at hx
     rw [<- hx]; exact hv'
    | cons x t => exact ih
theorem prop_true {n : Int} {m : List Bool} {l : List (List Int)} (hm : (m.length : Int) = n) (hn : n <= 14) (hl : ∀ c ∈ l, Lits n c) (hs : sat l m = true) : ∀ (k : Nat) (out : List Int), allLit m out = true -> (prop l k out).2 = false /\ allLit m (prop l k out).1 = true := by
 intro k
 induction k with
 | zero => intro out ho; exact ⟨rfl, ho⟩
 | succ k ih =>
  intro out ho
  have h1 := scan_true hm hn ho hl hs
  rw [prop]
  unfold round
  cases he : scan out l with
  | none => exact ⟨rfl, ho⟩
  | some x => cases x with
   | none => exact absurd he h1.1
   | some v =>
    refine ih (out ++ [v]) ?_
    unfold allLit at ho ⊢
    rw [List.all_append, ho]
    simp [h1.2 v he]
end
section
theorem scan_none {out : List Int} : ∀ {l : List (List Int)}, scan out l = none -> ∀ c ∈ l, hit out c = true \/ 2 <= (left out c).length
 | [], _, c, hc => by cases hc
 | d :: l, h, c, hc => by
  rw [scan] at h
  by_cases g : hit out d = true
  ·rw [if_pos g] at h
   rcases List.mem_cons.1 hc with rfl | hc
   ·exact .inl g
   ·exact scan_none h c hc
  ·rw [if_neg g] at h
   split at h
   ·cases h
   ·cases h
   ·rename_i h1 h2
    rcases List.mem_cons.1 hc with rfl | hc
    ·right
     match he : left out c with
     | [] => exact absurd he h1
     | [v] => exact absurd he (h2 v)
     | _ :: _ :: _ => simp
    ·exact scan_none h c hc
theorem prop_calm {n : Int} {l : List (List Int)} (hn : n <= 14) (hl : ∀ c ∈ l, Lits n c) : ∀ (k : Nat) (out : List Int), Good n out -> 14 < k + out.length -> (prop l k out).2 = false -> scan (prop l k out).1 l = none := by
 intro k
 induction k with
 | zero => intro out ho hk _; have := ho.le14 hn; omega
 | succ k ih =>
  intro out ho hk
  rw [prop]
  unfold round
  cases hs : scan out l with
  | none => exact fun _ => hs
  | some x => cases x with
   | none => intro h; cases h
   | some v =>
    intro h
    exact ih (out ++ [v]) (scan_good hn hl ho hs) (by simp; omega) h
theorem prop_keeps {l : List (List Int)} : ∀ (k : Nat) (out : List Int), ∀ v ∈ out, v ∈ (prop l k out).1 := by
 intro k
 induction k with
 | zero => intro out v hv; exact hv
 | succ k ih =>
  intro out v hv
  rw [prop]
  unfold round
  cases hs : scan out l with
  | none => exact hv
  | some x => cases x with
   | none => exact hv
   | some w => exact ih (out ++ [w]) v (List.mem_append_left _ hv)
theorem pw_no : ∀ {o : List Int} {v : Int}, o.Pairwise (fun a b => a ≠ b /\ a ≠ -b) -> v ∈ o -> -v ∈ o -> v = 0
 | [], v, _, h, _ => by cases h
 | a :: t, v, hp, h1, h2 => by
  rw [List.pairwise_cons] at hp
  rcases List.mem_cons.1 h1 with e1 | h1 <;> rcases List.mem_cons.1 h2 with e2 | h2
  ·omega
  ·have := (hp.1 _ h2).2; omega
  ·have := (hp.1 _ h1).2; omega
  ·exact pw_no hp.2 h1 h2
theorem Good.no {n : Int} {o : List Int} {v : Int} (h : Good n o) (h1 : v ∈ o) (h2 : -v ∈ o) : False := by
 have := pw_no h.2 h1 h2
 have := (h.1 v h1).1
 omega
theorem negs_snoc {s : List Int} {w : Int} : negs (s ++ [w]) = negs s ++ [neg w] := by simp [negs]
theorem dbl1 {n : Int} {l : List (List Int)} {s o : List Int} {w : Int} (hn : n <= 14) (ho : Good n o) (hs : ∀ v ∈ s, v ∈ o) (hc : scan o l = none) (hw : w ≠ 0 /\ -n <= w /\ w <= n) (hm : negs (s ++ [w]) ∈ l) : -w ∈ o := by
 rcases scan_none hc _ hm with h | h
 ·obtain ⟨x, hx, h1⟩ := List.any_eq_true.1 h
  rw [List.contains_iff_mem] at h1
  rw [negs_snoc, List.mem_append, List.mem_singleton] at hx
  rcases hx with hx | hx
  ·obtain ⟨y, hy, rfl⟩ := List.mem_map.1 hx
   have hy' := hs y hy
   rw [neg_neg hn (ho.1 y hy')] at h1
   exact (ho.no hy' h1).elim
  ·rw [hx, neg_neg hn hw] at h1; exact h1
 ·exfalso
  rw [negs_snoc] at h
  unfold left at h
  rw [List.filter_append] at h
  have e : (negs s).filter (fun v => !o.contains (neg v)) = [] := by
   rw [List.filter_eq_nil_iff]
   intro x hx
   obtain ⟨y, hy, rfl⟩ := List.mem_map.1 hx
   have hy' := hs y hy
   have h2 := ho.1 y hy'
   rw [neg_neg hn h2, neg_neg hn (by omega), Int.neg_neg]
   simp [hy']
  rw [e, List.nil_append] at h
  have := List.length_filter_le (fun v => !o.contains (neg v)) [neg w]
  simp only [List.length_singleton] at this
  omega
theorem dbl {n : Int} {l : List (List Int)} {s : List Int} {w : Int} (hn : n <= 14) (hl : ∀ c ∈ l, Lits n c) (hs : Good n s) (hw : w ≠ 0 /\ -n <= w /\ w <= n) (h1 : negs (s ++ [w]) ∈ l) (h2 : negs (s ++ [-w]) ∈ l) : (prop l 15 s).2 = true := by
 cases h : (prop l 15 s).2
 ·have hc := prop_calm hn hl 15 s hs (by omega) h
  have ho := prop_good hn hl 15 s hs
  have a := dbl1 hn ho (prop_keeps 15 s) hc hw h1
  have b := dbl1 hn ho (prop_keeps 15 s) hc (w := -w) (by omega) h2
  exact (ho.no a b).elim
 ·rfl
def shut (o : List Int) (i : Nat) : Bool := o.contains ((i : Int) + 1) || o.contains (-((i : Int) + 1))
def openV (n : Nat) (o : List Int) : Option Nat := (List.range n).find? fun i => !shut o i
def wlk (C : List (List Int)) (n : Nat) : Nat -> List (List Int) -> List Int -> Option (List Int) × List (List Int)
 | 0, L, _ => (none, L)
 | k + 1, L, s =>
  if (prop (C ++ L) 15 s).2 = true then (none, L ++ [negs s]) else
  match openV n (prop (C ++ L) 15 s).1 with
  | none => (some (prop (C ++ L) 15 s).1, L)
  | some v => match wlk C n k L (s ++ [(v : Int) + 1]) with
   | (some m, L1) => (some m, L1)
   | (none, L1) => match wlk C n k L1 (s ++ [-((v : Int) + 1)]) with
    | (some m, L2) => (some m, L2)
    | (none, L2) => (none, L2 ++ [negs s])
def Rup (C : List (List Int)) (n : Int) (T : List (List Int)) : Prop := ∀ A c B, T = A ++ c :: B -> Good n c /\ (prop (C ++ A) 15 (negs c)).2 = true
theorem Rup.good {C T : List (List Int)} {n : Int} (h : Rup C n T) : ∀ c ∈ T, Good n c := fun c hc => by
 obtain ⟨A, B, e⟩ := List.append_of_mem hc
 exact (h A c B e).1
theorem Rup.snoc {C T : List (List Int)} {n : Int} {c : List Int} (h : Rup C n T) (hc : Good n c) (hp : (prop (C ++ T) 15 (negs c)).2 = true) : Rup C n (T ++ [c]) := by
 intro A d B e
 rcases List.eq_nil_or_concat B with rfl | ⟨B', x, rfl⟩
 ·have := List.append_inj' e rfl
  obtain ⟨rfl, h2⟩ := this
  simp only [List.cons.injEq, and_true] at h2
  subst h2
  exact ⟨hc, hp⟩
 ·rw [List.concat_eq_append, <- List.cons_append, <- List.append_assoc] at e
  have := List.append_inj' e rfl
  exact h A d B' this.1
theorem negs_negs {n : Int} {s : List Int} (hn : n <= 14) (h : Lits n s) : negs (negs s) = s := by
 unfold negs
 rw [List.map_map]
 conv => rhs; rw [<- List.map_id s]
 refine List.map_congr_left fun v hv => ?_
 have := h v hv
 simp only [Function.comp, id]
 rw [neg_neg hn this, neg_neg hn (by omega), Int.neg_neg]
theorem openV_some {n : Nat} {o : List Int} {v : Nat} (h : openV n o = some v) : v < n /\ (v : Int) + 1 ∉ o /\ -((v : Int) + 1) ∉ o := by
 have h1 := List.find?_some h
 have h2 := List.mem_of_find?_eq_some h
 rw [List.mem_range] at h2
 simp only [shut, Bool.not_eq_true', Bool.or_eq_false_iff] at h1
 refine ⟨h2, fun hm => ?_, fun hm => ?_⟩
 ·rw [<- List.contains_iff_mem, h1.1] at hm; cases hm
 ·rw [<- List.contains_iff_mem, h1.2] at hm; cases hm
theorem openV_none {n : Nat} {o : List Int} (h : openV n o = none) : ∀ i, i < n -> (i : Int) + 1 ∈ o \/ -((i : Int) + 1) ∈ o := fun i hi => by
 unfold openV at h
 rw [List.find?_eq_none] at h
 have := h i (List.mem_range.2 hi)
 simp only [shut, Bool.not_eq_true', Bool.not_eq_false, Bool.or_eq_true, List.contains_iff_mem] at this
 exact this
theorem Good.more {n : Int} {s : List Int} {w : Int} (h : Good n s) (hw : w ≠ 0 /\ -n <= w /\ w <= n) (h1 : w ∉ s) (h2 : -w ∉ s) : Good n (s ++ [w]) := by
 refine ⟨fun x hx => ?_, ?_⟩
 ·rw [List.mem_append, List.mem_singleton] at hx
  rcases hx with hx | hx
  ·exact h.1 x hx
  ·rw [hx]; exact hw
 ·rw [List.pairwise_append]
  refine ⟨h.2, by simp, fun a ha b hb => ?_⟩
  rw [List.mem_singleton] at hb
  subst hb
  exact ⟨fun e => h1 (e ▸ ha), fun e => h2 (e ▸ ha)⟩
structure Srch (C : List (List Int)) (n k : Nat) (L : List (List Int)) (s : List Int) (o : Option (List Int) × List (List Int)) : Prop where
 rup : Rup C n o.2
 ext : ∃ T, o.2 = L ++ T /\ T.length + 1 <= 2 ^ k
 no : o.1 = none -> ∃ T, o.2 = T ++ [negs s]
 yes : ∀ m, o.1 = some m -> Good n m /\ (∀ i, i < n -> (i : Int) + 1 ∈ m \/ -((i : Int) + 1) ∈ m) /\ ∀ c ∈ C, hit m c = true
theorem all_hit {n : Nat} {l : List (List Int)} {o : List Int} (hn : (n : Int) <= 14) (hl : ∀ c ∈ l, Lits n c) (ho : ∀ i, i < n -> (i : Int) + 1 ∈ o \/ -((i : Int) + 1) ∈ o) (hc : scan o l = none) : ∀ c ∈ l, hit o c = true := fun c hm => by
 rcases scan_none hc c hm with h | h
 ·exact h
 ·obtain ⟨x, hx⟩ := List.exists_mem_of_length_pos (l := left o c) (by omega)
  unfold left at hx
  rw [List.mem_filter] at hx
  have hl' := hl c hm x hx.1
  rw [neg_neg hn hl'] at hx
  refine List.any_eq_true.2 ⟨x, hx.1, ?_⟩
  rw [List.contains_iff_mem]
  have h2 : -x ∉ o := fun h => by
   have := hx.2
   rw [<- List.contains_iff_mem] at h
   rw [h] at this; cases this
  rcases Int.lt_or_gt_of_ne hl'.1 with g | g
  ·have := ho (-x - 1).toNat (by omega)
   rw [show ((-x - 1).toNat : Int) + 1 = -x by omega, Int.neg_neg] at this
   exact this.resolve_left h2
  ·have := ho (x - 1).toNat (by omega)
   rw [show ((x - 1).toNat : Int) + 1 = x by omega] at this
   exact this.resolve_right h2
theorem wlk_ok {C : List (List Int)} {n : Nat} (hn : (n : Int) <= 14) (hC : ∀ c ∈ C, Good n c) : ∀ (k : Nat) (L : List (List Int)) (s : List Int), Good n s -> n < k + s.length -> Rup C n L -> Srch C n k L s (wlk C n k L s)
 | 0, L, s, hs, hk, hL => by
  have := hs.len
  rcases this with h | h
  ·omega
  ·subst h; simp at hk
 | k + 1, L, s, hs, hk, hL => by
  have hl : ∀ c ∈ C ++ L, Lits n c := fun c hc => by
   rcases List.mem_append.1 hc with hc | hc
   ·exact (hC c hc).1
   ·exact (hL.good c hc).1
  have hns := negs_good hn hs
  have hnn := negs_negs hn hs.1
  have h2 : 2 <= 2 ^ (k + 1) := by have := Nat.one_le_two_pow (n := k); omega
  rw [wlk]
  by_cases hc : (prop (C ++ L) 15 s).2 = true
  ·rw [if_pos hc]
   exact ⟨hL.snoc hns (by rw [hnn]; exact hc), ⟨_, rfl, by simp only [List.length_singleton]; omega⟩, fun _ => ⟨L, rfl⟩, fun m h => (by cases h)⟩
  ·rw [if_neg hc]
   simp only [Bool.not_eq_true] at hc
   have calm := prop_calm hn hl 15 s hs (by omega) hc
   have good := prop_good hn hl 15 s hs
   cases hv : openV n (prop (C ++ L) 15 s).1 with
   | none =>
    dsimp only
    have ho := openV_none hv
    exact ⟨hL, ⟨[], by simp, by simp; omega⟩, fun h => by simp at h, fun m h => by
     simp only [zJ] at h
     subst h
     exact ⟨good, ho, fun c hcc => all_hit hn hl ho calm c (List.mem_append_left _ hcc)⟩⟩
   | some v =>
    dsimp only
    obtain ⟨v1, v2, v3⟩ := openV_some hv
    have w2 : (v : Int) + 1 ∉ s := fun h => v2 (prop_keeps 15 s _ h)
    have w3 : -((v : Int) + 1) ∉ s := fun h => v3 (prop_keeps 15 s _ h)
    have hw : (v : Int) + 1 ≠ 0 /\ -(n : Int) <= (v : Int) + 1 /\ (v : Int) + 1 <= n := by omega
    have g1 := wlk_ok hn hC k L _ (hs.more hw w2 w3) (by simp; omega) hL
    cases e1 : wlk C n k L (s ++ [(v : Int) + 1]) with
    | mk o1 L1 =>
    rw [e1] at g1
    obtain ⟨r1, ⟨T1, x1, z1⟩, n1, y1⟩ := g1
    simp only at r1 x1 n1 y1
    cases o1 with
    | some m => exact ⟨r1, ⟨T1, x1, by rw [Nat.pow_succ]; omega⟩, fun h => (by cases h), fun m' h => y1 m' h⟩
    | none =>
     dsimp only
     have g2 := wlk_ok hn hC k L1 _ (hs.more (w := -((v : Int) + 1)) (by omega) w3 (by rw [Int.neg_neg]; exact w2)) (by simp; omega) r1
     cases e2 : wlk C n k L1 (s ++ [-((v : Int) + 1)]) with
     | mk o2 L2 =>
     rw [e2] at g2
     obtain ⟨r2, ⟨T2, x2, z2⟩, n2, y2⟩ := g2
     simp only at r2 x2 n2 y2
     cases o2 with
     | some m => exact ⟨r2, ⟨T1 ++ T2, by rw [x2, x1, List.append_assoc], by rw [Nat.pow_succ]; simp; omega⟩, fun h => (by cases h), fun m' h => y2 m' h⟩
     | none =>
      dsimp only
      obtain ⟨A1, a1⟩ := n1 rfl
      obtain ⟨A2, a2⟩ := n2 rfl
      have hl2 : ∀ c ∈ C ++ L2, Lits n c := fun c hc => by
       rcases List.mem_append.1 hc with hc | hc
       ·exact (hC c hc).1
       ·exact (r2.good c hc).1
      have conf := dbl hn hl2 hs hw (List.mem_append_right _ (by rw [x2, a1]; simp)) (List.mem_append_right _ (by rw [a2]; simp))
      refine ⟨r2.snoc hns (by rw [hnn]; exact conf), ⟨T1 ++ T2 ++ [negs s], ?_, ?_⟩, fun _ => ⟨L2, rfl⟩, fun m h => (by cases h)⟩
      ·show L2 ++ [negs s] = _
       rw [x2, x1]; simp only [List.append_assoc]
      ·rw [Nat.pow_succ]; simp; omega
end
section
def follows : List (List Int) -> List (List Int) -> Bool
 | known, [] => true
 | known, c :: ps => (prop known 15 (negs c)).2 && follows (known ++ [c]) ps
def lastNil (p : List (List Int)) : Bool := decide ((p.getD (p.length - 1) []).length = 0)
def proofOk (n : Int) (l p : List (List Int)) : Bool := valid n l && (decide (p.length ≠ 0) && lastNil p) && (p.all (clS n) && follows l p)
end
section
def mdl (n : Nat) (o : List Int) : List Bool := (List.range n).map fun (i : Nat) => o.contains (((i : Nat) : Int) + 1)
theorem mdl_len {n : Nat} {o : List Int} : (mdl n o).length = n := by simp [mdl]
theorem mdl_get {n : Nat} {o : List Int} {v : Int} (h : 1 <= v /\ v <= n) : (mdl n o)[(v - 1).toNat]?.getD false = o.contains v := by
 have hi : (v - 1).toNat < (mdl n o).length := by rw [mdl_len]; omega
 rw [zE hi]
 simp only [mdl, List.getElem_map, List.getElem_range, Option.getD_some]
 rw [show ((v - 1).toNat : Int) + 1 = v by omega]
theorem mdl_lit {n : Nat} {o : List Int} {v : Int} (ho : Good n o) (hv : v ∈ o) : lit (mdl n o) v = true := by
 have h1 := ho.1 v hv
 unfold lit
 rw [mdl_len]
 by_cases c : v > 0
 ·rw [if_pos c, if_pos (by omega), mdl_get (by omega), List.contains_iff_mem]; exact hv
 ·rw [if_neg c, if_pos (by omega), if_pos (by omega), mdl_get (by omega)]
  cases hc : o.contains (-v)
  ·rfl
  ·rw [List.contains_iff_mem] at hc; exact (ho.no hv hc).elim
theorem mdl_sat {n : Nat} {o : List Int} {l : List (List Int)} (ho : Good n o) (h : ∀ c ∈ l, hit o c = true) : sat l (mdl n o) = true := by
 unfold sat
 rw [List.all_eq_true]
 intro c hc
 obtain ⟨v, hv, hm⟩ := List.any_eq_true.1 (h c hc)
 rw [List.contains_iff_mem] at hm
 exact List.any_eq_true.2 ⟨v, hv, mdl_lit ho hm⟩
theorem bit_eq {k v : Nat} (hk : k <= 16384) (hv : v <= 14) : bit (k : Int) v = decide (k / 2 ^ v % 2 = 1) := by
 unfold bit sshr band
 have e1 : ((k : Int).fdiv (2 ^ (min ((v : Int)).toNat IntKind.i64.bits))) = ((k / 2 ^ v : Nat) : Int) := by
  rw [show min ((v : Int)).toNat IntKind.i64.bits = v by simp [IntKind.bits]; omega, Int.fdiv_eq_ediv_of_nonneg _ (by exact_mod_cast Nat.zero_le _)]
  norm_cast
 rw [e1]
 have e2 : (BitVec.ofInt IntKind.i64.bits ((k / 2 ^ v : Nat) : Int) &&& BitVec.ofInt IntKind.i64.bits 1).toNat = k / 2 ^ v % 2 := by
  have hb : k / 2 ^ v <= k := Nat.div_le_self _ _
  have : ((1 : Int)) = ((1 : Nat) : Int) := rfl
  rw [this, BitVec.ofInt_natCast, BitVec.ofInt_natCast, BitVec.toNat_and, BitVec.toNat_ofNat, BitVec.toNat_ofNat]
  rw [show (1 : Nat) % 2 ^ IntKind.i64.bits = 1 by simp [IntKind.bits], Nat.and_one_is_mod, Nat.mod_eq_of_lt (a := k / 2 ^ v) (by simp [IntKind.bits]; omega)]
 rw [e2]
 have := w64_of (n := ((k / 2 ^ v % 2 : Nat) : Int)) (by omega)
 rw [show IntKind.i64.wrap ((k / 2 ^ v % 2 : Nat) : Int) = ((k / 2 ^ v % 2 : Nat) : Int) from this]
 congr 1
 exact propext (by omega)
theorem num_of : ∀ m : List Bool, ∃ k, k < 2 ^ m.length /\ ∀ v (h : v < m.length), decide (k / 2 ^ v % 2 = 1) = m[v]
 | [] => ⟨0, by simp, fun v h => by simp at h⟩
 | b :: m => by
  obtain ⟨k, h1, h2⟩ := num_of m
  refine ⟨2 * k + b.toNat, ?_, fun v h => ?_⟩
  ·rw [List.length_cons, Nat.pow_succ]; cases b <;> simp <;> omega
  ·cases v with
   | zero => cases b <;> simp <;> omega
   | succ v =>
    rw [List.getElem_cons_succ, <- h2 v (by simpa using h), Nat.pow_succ, Nat.mul_comm (2 ^ v) 2, <- Nat.div_div_eq_div_mul, show (2 * k + b.toNat) / 2 = k by cases b <;> simp <;> omega]
theorem mods_all {n : Nat} {m : List Bool} (hn : n <= 14) (hm : m.length = n) : ∃ k, k < 2 ^ n /\ mods n k = m := by
 obtain ⟨k, h1, h2⟩ := num_of m
 rw [hm] at h1
 have := Nat.pow_le_pow_right (n := 2) (by omega) hn
 refine ⟨k, h1, List.ext_getElem (by rw [mods_len, hm]) fun v g1 g2 => ?_⟩
 simp only [mods, List.getElem_map, List.getElem_range]
 rw [bit_eq (by omega) (by omega), h2 v g2]
theorem count_eq {n : Nat} {l : List (List Int)} (hn : n <= 14) : count n l = ((List.range (2 ^ n)).countP fun k => sat l (mods n k) : Nat) := by
 have g : ∀ (L : List Nat) (c : Nat), c + L.length <= 1048576 -> L.foldl (fun c k => if sat l (mods n k) = true then w64 (c + 1) else c) (c : Int) = ((c + L.countP fun k => sat l (mods n k) : Nat) : Int) := by
  intro L
  induction L with
  | nil => intro c _; simp
  | cons a L ih =>
   intro c hc
   rw [List.length_cons] at hc
   rw [List.foldl_cons, List.countP_cons]
   by_cases h : sat l (mods n a) = true
   ·rw [if_pos h, if_pos h, w64_succ (by omega), ih (c + 1) (by omega)]; congr 1; omega
   ·rw [if_neg h, if_neg h, ih c (by omega)]; rfl
 have := Nat.pow_le_pow_right (n := 2) (by omega) hn
 unfold count
 have := g (List.range (2 ^ n)) 0 (by simp; omega)
 simpa using this
theorem count_pos {n : Nat} {l : List (List Int)} {m : List Bool} (hn : n <= 14) (hm : m.length = n) (hs : sat l m = true) : 0 < count n l := by
 rw [count_eq hn]
 obtain ⟨k, h1, h2⟩ := mods_all hn hm
 have : 0 < (List.range (2 ^ n)).countP fun k => sat l (mods n k) := by
  rw [List.countP_pos_iff]
  exact ⟨k, List.mem_range.2 h1, by rw [h2]; exact hs⟩
 omega
theorem count_zero {n : Nat} {l : List (List Int)} (hn : n <= 14) (hs : ∀ m : List Bool, m.length = n -> sat l m = false) : count n l = 0 := by
 rw [count_eq hn]
 have : ((List.range (2 ^ n)).countP fun k => sat l (mods n k)) = 0 := by
  rw [List.countP_eq_zero]
  intro k _
  rw [hs _ mods_len]; simp
 omega
theorem sat_snoc {l : List (List Int)} {c : List Int} {m : List Bool} : sat (l ++ [c]) m = (sat l m && sat [c] m) := by unfold sat; rw [List.all_append]
theorem rup_sat {C : List (List Int)} {n : Nat} {m : List Bool} (hn : (n : Int) <= 14) (hC : ∀ c ∈ C, Good n c) (hm : m.length = n) (hs : sat C m = true) : ∀ (T A : List (List Int)), Rup C n (A ++ T) -> sat (C ++ A) m = true -> sat (C ++ A ++ T) m = true
 | [], A, _, h => by rwa [List.append_nil]
 | c :: T, A, hR, h => by
  obtain ⟨hg, hp⟩ := hR A c T rfl
  have hl : ∀ d ∈ C ++ A, Lits n d := fun d hd => by
   rcases List.mem_append.1 hd with hd | hd
   ·exact (hC d hd).1
   ·exact (hR.good d (List.mem_append_left _ hd)).1
  have h1 : sat [c] m = true := by
   cases hc : sat [c] m
   ·exfalso
    have hall : allLit m (negs c) = true := by
     unfold allLit negs
     rw [List.all_map, List.all_eq_true]
     intro v hv
     have h4 := hg.1 v hv
     have h5 : lit m v = false := by
      simp only [sat, List.all_cons, List.all_nil, Bool.and_true] at hc
      rw [List.any_eq_false] at hc
      simpa using hc v hv
     simp only [Function.comp]
     rw [neg_neg hn h4, lit_opp (by omega), h5]; rfl
    have := (prop_true (by omega) hn hl h 15 (negs c) hall).1
    rw [this] at hp; cases hp
   ·rfl
  have := rup_sat hn hC hm hs T (A ++ [c]) (by simpa using hR) (by rw [<- List.append_assoc, sat_snoc, h, h1]; rfl)
  simpa using this
theorem follows_rup {C : List (List Int)} {n : Int} : ∀ (T A : List (List Int)), Rup C n (A ++ T) -> follows (C ++ A) T = true
 | [], A, h => rfl
 | c :: T, A, h => by
  rw [follows, (h A c T rfl).2, Bool.true_and, List.append_assoc]
  exact follows_rup T (A ++ [c]) (by simpa using h)
def sol (C : List (List Int)) (n : Nat) : Option (List Int) × List (List Int) := wlk C n (n + 1) [] []
theorem sol_ok {C : List (List Int)} {n : Nat} (hn : (n : Int) <= 14) (hC : ∀ c ∈ C, Good n c) : Srch C n (n + 1) [] [] (sol C n) :=
 wlk_ok hn hC (n + 1) [] [] ⟨fun _ h => by (cases h), List.Pairwise.nil⟩ (by simp) fun A c B e => by
  have := congrArg List.length e
  simp at this
theorem sol_unsat {C : List (List Int)} {n : Nat} (hv : valid n C = true) (h : (sol C n).1 = none) : ∀ m : List Bool, m.length = n -> sat C m = false := fun m hm => by
 obtain ⟨h0, hn, h2, hC⟩ := valid_lits hv
 have S := sol_ok hn hC
 obtain ⟨T, e⟩ := S.no h
 have e' : (sol C n).2 = T ++ [[]] := e
 cases hs : sat C m
 ·rfl
 ·have := rup_sat hn hC hm hs (sol C n).2 [] S.rup (by simpa using hs)
  rw [e', <- List.append_assoc, sat_snoc] at this
  simp [sat] at this
theorem sol_no {C : List (List Int)} {n : Nat} (hv : valid n C = true) (h : (sol C n).1 = none) : proofOk n C (sol C n).2 = true /\ count n C = 0 /\ (sol C n).2.length <= 32767 := by
 obtain ⟨h0, hn, h2, hC⟩ := valid_lits hv
 have S := sol_ok hn hC
 obtain ⟨T, e⟩ := S.no h
 have R := S.rup
 obtain ⟨T', x, z⟩ := S.ext
 have p2 := Nat.pow_le_pow_right (n := 2) (by omega) (show n + 1 <= 15 by omega)
 have len : (sol C n).2.length = T'.length := by rw [x, List.nil_append]
 have e' : (sol C n).2 = T ++ [[]] := e
 refine ⟨?_, ?_, by omega⟩
 ·unfold proofOk lastNil
  rw [hv]
  simp only [Bool.true_and, Bool.and_eq_true, decide_eq_true_eq]
  refine ⟨⟨by rw [e']; simp, by rw [e']; simp⟩, List.all_eq_true.2 fun c hc => (clS_good h0 hn).2 (R.good c hc), ?_⟩
  have := follows_rup (C := C) (sol C n).2 [] R
  rwa [List.append_nil] at this
 ·exact count_zero (by omega) (sol_unsat hv h)
theorem sol_yes {C : List (List Int)} {n : Nat} {o : List Int} (hv : valid n C = true) (h : (sol C n).1 = some o) : sat C (mdl n o) = true /\ 0 < count n C /\ Good n o := by
 obtain ⟨h0, hn, h2, hC⟩ := valid_lits hv
 obtain ⟨g, _, hh⟩ := (sol_ok hn hC).yes o h
 have := mdl_sat g hh
 exact ⟨this, count_pos (by omega) mdl_len this, g⟩
end
section
theorem flatL_take {L : List (List (List Int))} {i : Nat} : (L.take i).flatten.length <= L.flatten.length := by
 conv => rhs; rw [<- List.take_append_drop i L, List.flatten_append, List.length_append]
 omega
theorem concatL {L : List (List (List Int))} (hL : L.length <= 1048576) (h : L.flatten.length <= 1048576) : f50 L = some L.flatten := by
 unfold f50
 have q : ∀ i (hi : i < L.length), (L.take (i + 1)).flatten = (L.take i).flatten ++ L[i] := fun i hi => by rw [take_succ' hi, List.flatten_append]; simp
 have h1 := iter_steps (f := f50_0 L) (fun i => (((L.take i).flatten.length : Int), (i : Int))) L.length (L.flatten.length : Int) (fun i hi => by
  have e := congrArg List.length (q i hi)
  rw [List.length_append] at e
  have b := flatL_take (L := L) (i := i + 1)
  simp only [f50_0]
  rw [if_pos (by omega), ix_nat hi, bS, w64_succ (by omega), w64_of (by omega), if_neg (by omega), bS, e]
  rw [Int.natCast_add (List.take i L).flatten.length]) (by
  simp only [f50_0]
  rw [if_neg (by omega), List.take_of_length_le (Nat.le_refl _)])
 simp only [List.take_zero, List.flatten_nil, List.length_nil, Int.natCast_zero, Int.ofNat_zero] at h1
 erw [h1]
 rw [bS]
 unfold f67 growN
 rw [if_pos ⟨by omega, by unfold room; omega⟩, bS]
 have h2 := iter_steps (f := f50_1 L) (fun i => (L.flatten.length - (L.take i).flatten.length, (L.take i).flatten, (i : Int))) L.length (0, L.flatten) (fun i hi => by
  have e := congrArg List.length (q i hi)
  rw [List.length_append] at e
  have b := flatL_take (L := L) (i := i + 1)
  simp only [f50_1]
  rw [if_pos (by omega), ix_nat hi, bS, w64_succ (by omega)]
  unfold apps
  rw [if_pos ⟨by omega, by unfold room; omega⟩, bS, q i hi]
  simp only [List.length_append]
  rw [Nat.sub_sub]) (by
  simp only [f50_1]
  rw [if_neg (by omega), List.take_of_length_le (Nat.le_refl _), Nat.sub_self])
 simp only [List.take_zero, List.flatten_nil, List.length_nil, Nat.sub_zero, Int.natCast_zero, Int.ofNat_zero] at h2
 rw [Int.toNat_natCast]
 erw [h2]
 simp [nsk]
theorem propS {n : Int} {known : List (List Int)} {s : List Int} (hn : n <= 14) (hk : known.length <= 1048576) (hg : ∀ d ∈ known, Good n d) (hs : Good n s) : f39 known s = some (prop known 15 s) := by
 have hl := hs.le14 hn
 unfold f39
 rw [app_fits (by simp only [List.length_nil]; omega), List.nil_append, bS]
 rw [propImp hn hk (fun d hd => by have := (hg d hd).le14 hn; omega) (fun d hd => (hg d hd).1) 15 s hs (by omega)]
 rfl
theorem unitsS {n : Int} {known : List (List Int)} {s : List Int} (hn : n <= 14) (hk : known.length <= 1048576) (hg : ∀ d ∈ known, Good n d) (hs : Good n s) : f41 known s = some (prop known 15 s) := by
 have hl := hs.le14 hn
 unfold f41
 rw [app_fits (by simp only [List.length_nil]; omega), List.nil_append, bS]
 obtain ⟨r, e1, e2⟩ := propSpec hn hk (fun d hd => by have := (hg d hd).le14 hn; omega) (fun d hd => (hg d hd).1) 15 s hs (by omega)
 rw [e1, bS]
 cases r with
 | inl o => simp only at e2; rw [e2]
 | inr x => simp only at e2; rw [e2]
theorem negN {i : Nat} (h : i <= 14) : w64 (-((i : Int) + 1)) = -((i : Int) + 1) := w64_of (by omega)
theorem up_open {ρ : Type} {n : Nat} {o : List Int} {f : Int -> Option (Int ⊕ (Unit ⊕ ρ))} {R : ρ -> Prop} (hn : n <= 14) (he : f ((n : Int) + 1) = some (.inr (.inl ())))
  (hs : ∀ i, i < n -> shut o i = true -> f ((i : Int) + 1) = some (.inl ((i : Int) + 2))) (ho : ∀ i, i < n -> shut o i = false -> openV n o = some i -> Ens (f ((i : Int) + 1)) fun z => ∃ r, z = .inr (.inr r) /\ R r) :
  Ens (iter f 1) fun z => match openV n o with | none => z = .inl () | some _ => ∃ r, z = .inr r /\ R r := by
 refine iter_up (f := f) n (fun i s => s = (i : Int) + 1 /\ ∀ j, j < i -> shut o j = true) _ (fun i s hi ⟨s1, s2⟩ => ?_) (fun s ⟨s1, s2⟩ => ?_) _ ⟨rfl, fun j hj => by omega⟩
 ·subst s1
  cases h : shut o i
  ·have hv : openV n o = some i := by
    unfold openV
    rw [List.find?_eq_some_iff_getElem]
    refine ⟨by simp [h], i, by simpa using hi, by simp, fun j hj => ?_⟩
    simp [s2 j hj]
   obtain ⟨z, e, r, rfl, hr⟩ := ho i hi h hv
   exact ⟨_, e, by rw [hv]; exact ⟨r, rfl, hr⟩⟩
  ·refine ⟨_, hs i hi h, by omega, fun j hj => ?_⟩
   by_cases e : j = i
   ·subst e; exact h
   ·exact s2 j (by omega)
 ·subst s1
  refine ⟨_, he, ?_⟩
  have : openV n o = none := by
   unfold openV
   rw [List.find?_eq_none]
   intro k hk
   rw [List.mem_range] at hk
   simp [s2 k hk]
  rw [this]
section
variable {C : List (List Int)} {n : Nat}
theorem learnImp {L : List (List Int)} {s : List Int} (hL : L.length <= 1000000) (hs : s.length <= 14) : f51 ⟨n, C, L⟩ s = some ((), ⟨n, C, L ++ [negs s]⟩) := by
 unfold f51
 rw [negImp (by omega), bS, app_fits (by simp; omega)]; rfl
theorem learnSpec {L P : List (List Int)} {M : List Bool} {s : List Int} (hL : L.length <= 1000000) (hP : P.length <= 1000000) (hs : s.length <= 14) : f54 ⟨n, L, P, M⟩ s = some ⟨n, L ++ [negs s], P ++ [negs s], M⟩ := by
 unfold f54
 rw [negSpec (by omega), bS, app_fits (by simp; omega), bS, app_fits (by simp; omega)]; rfl
theorem rup_all (hC : ∀ c ∈ C, Good n c) {L : List (List Int)} (hL : Rup C n L) : ∀ d ∈ C ++ L, Good n d := fun d hd => by
 rcases List.mem_append.1 hd with hd | hd
 ·exact hC d hd
 ·exact hL.good d hd
theorem twoImp {rec : Solver -> List Int -> Option (Option (List Int) × Solver)} {k : Nat} {s : List Int} {v : Int} {L : List (List Int)} (hn : n <= 14) (hC : ∀ c ∈ C, Good n c) (h1 : Good n (s ++ [v])) (h2 : Good n (s ++ [-v])) (hk : n < k + s.length + 1) (hL : Rup C n L) (hz : L.length + 2 ^ k * 2 <= 1000000)
  (ih : ∀ (L : List (List Int)) (s : List Int), Good n s -> n < k + s.length -> Rup C n L -> L.length + 2 ^ k <= 1000000 -> rec ⟨n, C, L⟩ s = some ((wlk C n k L s).1, ⟨n, C, (wlk C n k L s).2⟩)) :
  iter (f27_1 s rec [v, -v]) (⟨n, C, L⟩, 0) = some (match wlk C n k L (s ++ [v]) with
   | (some m, L1) => .inr (m, ⟨n, C, L1⟩)
   | (none, L1) => match wlk C n k L1 (s ++ [-v]) with
    | (some m, L2) => .inr (m, ⟨n, C, L2⟩)
    | (none, L2) => .inl ⟨n, C, L2⟩) := by
 have hn' : (n : Int) <= 14 := by omega
 have z1 := h1.le14 hn'
 rw [List.length_append, List.length_singleton] at z1
 have cl : f53 s = some s := by
  unfold f53
  rw [app_fits (by simp; omega)]; rfl
 have i0 : ix [v, -v] 0 = some v := rfl
 have i1 : ix [v, -v] 1 = some (-v) := rfl
 rw [iter_eq]
 simp only [f27_1]
 rw [if_pos (by simp), i0, bS, cl, bS, app_fits (by simp; omega), bS, ih L _ h1 (by simp; omega) hL (by omega), bS]
 have g1 := wlk_ok hn' hC k L _ h1 (by simp; omega) hL
 cases e1 : wlk C n k L (s ++ [v]) with
 | mk o1 L1 =>
 rw [e1] at g1
 obtain ⟨r1, ⟨T1, x1, y1⟩, _, _⟩ := g1
 simp only at r1 x1
 have l1 := congrArg List.length x1
 rw [List.length_append] at l1
 cases o1 with
 | some m => rfl
 | none =>
  simp only [om]
  rw [show w64 (0 + 1) = 1 from rfl, iter_eq]
  simp only [f27_1]
  rw [if_pos (by simp), i1, bS, cl, bS, app_fits (by simp; omega), bS, ih L1 _ h2 (by simp; omega) r1 (by omega), bS]
  cases e2 : wlk C n k L1 (s ++ [-v]) with
  | mk o2 L2 =>
  cases o2 with
  | some m => rfl
  | none =>
   simp only [om]
   rw [show w64 (1 + 1) = 2 from rfl, iter_eq]
   simp only [f27_1]
   rw [if_neg (by simp)]
theorem srchImp (hn : n <= 14) (hC : ∀ c ∈ C, Good n c) (hc : C.length <= 400) : ∀ (k K : Nat) (L : List (List Int)) (s : List Int), k <= K -> Good n s -> n < k + s.length -> Rup C n L -> L.length + 2 ^ k <= 1000000 -> f27 K ⟨n, C, L⟩ s = some ((wlk C n k L s).1, ⟨n, C, (wlk C n k L s).2⟩)
 | 0, K, L, s, hK, hs, hk, hL, hz => by
  rcases hs.len with h | h
  ·omega
  ·subst h; simp at hk
 | k + 1, 0, L, s, hK, hs, hk, hL, hz => by omega
 | k + 1, K + 1, L, s, hK, hs, hk, hL, hz => by
  have hn' : (n : Int) <= 14 := by omega
  have hz1 := hs.le14 hn'
  rw [Nat.pow_succ] at hz
  have hall := rup_all hC hL
  have hl : ∀ c ∈ C ++ L, Lits n c := fun c hc => (hall c hc).1
  rw [f27, wlk]
  dsimp only
  rw [concatL (by simp) (by simp; omega), bS, show [C, L].flatten = C ++ L by simp, propS hn' (by simp; omega) hall hs, bS, bS]
  by_cases hp : (prop (C ++ L) 15 s).2 = true
  ·rw [if_pos hp, if_pos hp, learnImp (by omega) (by omega)]; rfl
  rw [if_neg hp, if_neg hp]
  have hg := prop_good hn' hl 15 s hs
  have hg14 := hg.le14 hn'
  have hkeep := prop_keeps (l := C ++ L) 15 s
  have two : ∀ v : Nat, openV n (prop (C ++ L) 15 s).1 = some v -> Good n (s ++ [(v : Int) + 1]) /\ Good n (s ++ [-((v : Int) + 1)]) := fun v hv => by
   obtain ⟨v1, v2, v3⟩ := openV_some hv
   have w2 : (v : Int) + 1 ∉ s := fun h => v2 (hkeep _ h)
   have w3 : -((v : Int) + 1) ∉ s := fun h => v3 (hkeep _ h)
   exact ⟨hs.more (w := (v : Int) + 1) (by omega) w2 w3, hs.more (w := -((v : Int) + 1)) (by omega) w3 (by rw [Int.neg_neg]; exact w2)⟩
  obtain ⟨z, ez, hz'⟩ := up_open (n := n) (o := (prop (C ++ L) 15 s).1) (f := f27_0 ⟨n, C, L⟩ s (f27 K) (prop (C ++ L) 15 s))
   (R := fun r => ∀ v, openV n (prop (C ++ L) 15 s).1 = some v -> r = (match wlk C n k L (s ++ [(v : Int) + 1]) with
    | (some m, L1) => (some m, ⟨n, C, L1⟩)
    | (none, L1) => match wlk C n k L1 (s ++ [-((v : Int) + 1)]) with
     | (some m, L2) => (some m, ⟨n, C, L2⟩)
     | (none, L2) => (none, ⟨n, C, L2 ++ [negs s]⟩) : Option (List Int) × Solver)) hn (by
   simp only [f27_0]
   rw [if_neg (by omega)]) (fun i hi h => by
   simp only [f27_0]
   rw [if_pos (by omega), containsI (by omega), bS, negN (by omega), containsI (by omega), w64_of (by omega)]
   unfold shut at h
   cases hh : (prop (C ++ L) 15 s).1.contains ((i : Int) + 1)
   ·rw [hh, Bool.false_or] at h
    rw [h]; simp; omega
   ·simp; omega) (fun i hi h hv => by
   obtain ⟨g1, g2⟩ := two i hv
   have e := twoImp (rec := f27 K) hn hC g1 g2 (by omega) hL (by omega) fun L s a b c d => srchImp hn hC hc k K L s (by omega) a b c d
   simp only [f27_0]
   rw [if_pos (by omega), containsI (by omega), bS, negN (by omega), containsI (by omega)]
   unfold shut at h
   rw [Bool.or_eq_false_iff] at h
   rw [h.1, h.2, if_neg (by simp), bS, bS, if_neg (by simp), e]
   have k1 := wlk_ok hn' hC k L _ g1 (by simp; omega) hL
   cases e1 : wlk C n k L (s ++ [(i : Int) + 1]) with
   | mk o1 L1 =>
   rw [e1] at k1
   obtain ⟨r1, ⟨T1, x1, y1⟩, _, _⟩ := k1
   simp only at r1 x1
   have l1 := congrArg List.length x1
   rw [List.length_append] at l1
   cases o1 with
   | some m => exact ⟨_, rfl, _, rfl, fun v hv' => by rw [hv, zJ] at hv'; subst hv'; rw [e1]⟩
   | none =>
    dsimp only
    have k2 := wlk_ok hn' hC k L1 _ g2 (by simp; omega) r1
    cases e2 : wlk C n k L1 (s ++ [-((i : Int) + 1)]) with
    | mk o2 L2 =>
    rw [e2] at k2
    obtain ⟨r2, ⟨T2, x2, y2⟩, _, _⟩ := k2
    simp only at r2 x2
    have l2 := congrArg List.length x2
    rw [List.length_append] at l2
    cases o2 with
    | some m => exact ⟨_, rfl, _, rfl, fun v hv' => by rw [hv, zJ] at hv'; subst hv'; rw [e1]; simp only [e2]⟩
    | none =>
     simp only [bS]
     rw [learnImp (by omega) (by omega), bS]
     exact ⟨_, rfl, _, rfl, fun v hv' => by rw [hv, zJ] at hv'; subst hv'; rw [e1]; simp only [e2]⟩)
  rw [ez, bS]
  cases hv : openV n (prop (C ++ L) 15 s).1 with
  | none => rw [hv] at hz'; subst hz'; rfl
  | some v =>
   rw [hv] at hz'
   obtain ⟨r, rfl, hr⟩ := hz'
   have := hr v rfl
   dsimp only
   rw [this]
   cases e1 : wlk C n k L (s ++ [(v : Int) + 1]) with
   | mk o1 L1 =>
   cases o1 with
   | some m => rfl
   | none =>
    dsimp only
    cases e2 : wlk C n k L1 (s ++ [-((v : Int) + 1)]) with
    | mk o2 L2 =>
    cases o2 with
    | some m => rfl
    | none => rfl
theorem modelSpec {l p : List (List Int)} {o : List Int} (hn : n <= 14) (ho : o.length <= 14) {b : Bool} : iter (f28_1 (o, b)) ((n : Int), l, p, [], 1) = some ((n : Int), l, p, mdl n o) := by
 have := iter_steps (f := f28_1 (o, b)) (fun i => ((n : Int), l, p, mdl i o, (i : Int) + 1)) n ((n : Int), l, p, mdl n o) (fun i hi => by
  have e : mdl (i + 1) o = mdl i o ++ [o.contains ((i : Int) + 1)] := by
   unfold mdl
   rw [List.range_succ, List.map_append]; rfl
  have hl := mdl_len (n := i) (o := o)
  simp only [f28_1]
  rw [if_pos (by omega), hasI (by omega), bS, app_fits (by simp; omega), bS, w64_of (by omega), e]
  rw [show ((i + 1 : Nat) : Int) + 1 = (i : Int) + 1 + 1 by omega]) (by
  simp only [f28_1]
  rw [if_neg (by omega)])
 exact this
theorem walkSpec (hn : n <= 14) (hC : ∀ c ∈ C, Good n c) (hc : C.length <= 400) : ∀ (k K : Nat) (L : List (List Int)) (s : List Int), k <= K -> Good n s -> n < k + s.length -> Rup C n L -> L.length + 2 ^ k <= 900000 -> f28 K ⟨n, C ++ L, L, []⟩ s = some (match wlk C n k L s with
   | (some m, L1) => (true, ⟨n, C ++ L1, L1, mdl n m⟩)
   | (none, L1) => (false, ⟨n, C ++ L1, L1, []⟩))
 | 0, K, L, s, hK, hs, hk, hL, hz => by
  rcases hs.len with h | h
  ·omega
  ·subst h; simp at hk
 | k + 1, 0, L, s, hK, hs, hk, hL, hz => by omega
 | k + 1, K + 1, L, s, hK, hs, hk, hL, hz => by
  have hn' : (n : Int) <= 14 := by omega
  have hz1 := hs.le14 hn'
  rw [Nat.pow_succ] at hz
  have hall := rup_all hC hL
  have hl : ∀ c ∈ C ++ L, Lits n c := fun c hc => (hall c hc).1
  rw [f28, wlk]
  dsimp only
  rw [unitsS hn' (by simp; omega) hall hs, bS]
  by_cases hp : (prop (C ++ L) 15 s).2 = true
  ·rw [if_pos hp, if_pos hp, learnSpec (by simp; omega) (by omega) (by omega), bS]
   simp
  rw [if_neg hp, if_neg hp]
  have hg := prop_good hn' hl 15 s hs
  have hg14 := hg.le14 hn'
  have hkeep := prop_keeps (l := C ++ L) 15 s
  have two : ∀ v : Nat, openV n (prop (C ++ L) 15 s).1 = some v -> Good n (s ++ [(v : Int) + 1]) /\ Good n (s ++ [-((v : Int) + 1)]) := fun v hv => by
   obtain ⟨v1, v2, v3⟩ := openV_some hv
   have w2 : (v : Int) + 1 ∉ s := fun h => v2 (hkeep _ h)
   have w3 : -((v : Int) + 1) ∉ s := fun h => v3 (hkeep _ h)
   exact ⟨hs.more (w := (v : Int) + 1) (by omega) w2 w3, hs.more (w := -((v : Int) + 1)) (by omega) w3 (by rw [Int.neg_neg]; exact w2)⟩
  obtain ⟨z, ez, hz'⟩ := up_open (n := n) (o := (prop (C ++ L) 15 s).1) (f := f28_0 ⟨n, C ++ L, L, []⟩ s (f28 K) (prop (C ++ L) 15 s))
   (R := fun r => ∀ v, openV n (prop (C ++ L) 15 s).1 = some v -> r = (match wlk C n k L (s ++ [(v : Int) + 1]) with
    | (some m, L1) => ((n : Int), C ++ L1, L1, mdl n m, true)
    | (none, L1) => match wlk C n k L1 (s ++ [-((v : Int) + 1)]) with
     | (some m, L2) => ((n : Int), C ++ L2, L2, mdl n m, true)
     | (none, L2) => ((n : Int), C ++ (L2 ++ [negs s]), L2 ++ [negs s], [], false) : Int × List (List Int) × List (List Int) × List Bool × Bool)) hn (by
   simp only [f28_0]
   rw [if_neg (by omega)]) (fun i hi h => by
   simp only [f28_0]
   rw [if_pos (by omega), hasI (by omega), bS, negN (by omega), hasI (by omega), w64_of (by omega)]
   unfold shut at h
   cases hh : (prop (C ++ L) 15 s).1.contains ((i : Int) + 1)
   ·rw [hh, Bool.false_or] at h
    rw [h]; simp; omega
   ·simp; omega) (fun i hi h hv => by
   obtain ⟨g1, g2⟩ := two i hv
   have z1 := g1.le14 hn'
   rw [List.length_append, List.length_singleton] at z1
   simp only [f28_0]
   rw [if_pos (by omega), hasI (by omega), bS, negN (by omega), hasI (by omega)]
   unfold shut at h
   rw [Bool.or_eq_false_iff] at h
   rw [h.1, h.2, if_neg (by simp), bS, bS, if_neg (by simp), app_fits (by simp; omega), bS, List.nil_append, app_fits (by simp; omega), bS, walkSpec hn hC hc k K L _ (by omega) g1 (by simp; omega) hL (by omega), bS]
   have k1 := wlk_ok hn' hC k L _ g1 (by simp; omega) hL
   cases e1 : wlk C n k L (s ++ [(i : Int) + 1]) with
   | mk o1 L1 =>
   rw [e1] at k1
   obtain ⟨r1, ⟨T1, x1, y1⟩, _, _⟩ := k1
   simp only at r1 x1
   have l1 := congrArg List.length x1
   rw [List.length_append] at l1
   cases o1 with
   | some m => exact ⟨_, rfl, _, rfl, fun v hv' => by rw [hv, zJ] at hv'; subst hv'; rw [e1]⟩
   | none =>
    dsimp only
    have k2 := wlk_ok hn' hC k L1 _ g2 (by simp; omega) r1
    rw [if_neg (by simp), app_fits (by simp; omega), bS, walkSpec hn hC hc k K L1 _ (by omega) g2 (by simp; omega) r1 (by omega), bS]
    cases e2 : wlk C n k L1 (s ++ [-((i : Int) + 1)]) with
    | mk o2 L2 =>
    rw [e2] at k2
    obtain ⟨r2, ⟨T2, x2, y2⟩, _, _⟩ := k2
    simp only at r2 x2
    have l2 := congrArg List.length x2
    rw [List.length_append] at l2
    cases o2 with
    | some m => exact ⟨_, rfl, _, rfl, fun v hv' => by rw [hv, zJ] at hv'; subst hv'; rw [e1]; simp only [e2]⟩
    | none =>
     simp only [bS]
     rw [if_neg (by simp), learnSpec (by simp; omega) (by omega) (by omega), bS]
     exact ⟨_, rfl, _, rfl, fun v hv' => by rw [hv, zJ] at hv'; subst hv'; rw [e1]; simp only [e2, List.append_assoc]⟩)
  rw [ez, bS]
  cases hv : openV n (prop (C ++ L) 15 s).1 with
  | none =>
   rw [hv] at hz'; subst hz'
   dsimp only
   have := modelSpec (l := C ++ L) (p := L) (b := (prop (C ++ L) 15 s).2) hn hg14
   rw [this]; rfl
  | some v =>
   rw [hv] at hz'
   obtain ⟨r, rfl, hr⟩ := hz'
   have := hr v rfl
   dsimp only
   rw [this]
   cases e1 : wlk C n k L (s ++ [(v : Int) + 1]) with
   | mk o1 L1 =>
   cases o1 with
   | some m => rfl
   | none =>
    dsimp only
    cases e2 : wlk C n k L1 (s ++ [-((v : Int) + 1)]) with
    | mk o2 L2 =>
    cases o2 with
    | some m => rfl
    | none => rfl
def slv (n : Int) (C : List (List Int)) : List Bool × List (List Int) × Bool :=
 if valid n C = true then match sol C n.toNat with
  | (some m, _) => (mdl n.toNat m, [], true)
  | (none, L) => ([], L, false)
 else ([], [], false)
theorem solveSpec {m : Int} (h : C.length <= 1048576) (h' : ∀ x ∈ C, x.length <= 1048576) : f8 m C = some (slv m C) := by
 unfold f8 slv
 rw [specValid (by omega) (fun x hx => by have := h' x hx; omega), bS]
 by_cases hv : valid m C = true
 ·obtain ⟨h0, h1, h2, hC⟩ := valid_lits hv
  obtain ⟨n, rfl⟩ : ∃ n : Nat, m = n := ⟨m.toNat, by omega⟩
  have p2 := Nat.pow_le_pow_right (n := 2) (by omega) (show n + 1 <= 15 by omega)
  rw [if_neg (by simp [hv]), if_pos hv, app_fits (by simp; omega), bS]
  have := walkSpec (by omega) hC (by omega) (n + 1) 64 [] [] (by omega) ⟨fun _ h => by (cases h), List.Pairwise.nil⟩ (by simp) (fun A c B e => by
   have := congrArg List.length e
   simp at this) (by simp; omega)
  rw [List.append_nil] at this
  rw [List.nil_append, this, bS, Int.toNat_natCast]
  unfold sol
  cases e : wlk C n (n + 1) [] [] with
  | mk o L => cases o <;> simp
 ·rw [if_pos (by simpa using hv), if_neg hv]
theorem setSpec {o : List Int} {n : Nat} (hn : n <= 14) (ho : Good n o) : iter (f7_0 o) (List.replicate n false, 0) = some (mdl n o) := by
 have h14 := ho.le14 (by omega)
 have := iter_steps (f := f7_0 o) (fun i => (mdl n (o.take i), (i : Int))) o.length (mdl n o) (fun i hi => by
  have hv := ho.1 _ (List.getElem_mem hi)
  have hl := mdl_len (n := n) (o := o.take i)
  have et : o.take (i + 1) = o.take i ++ [o[i]] := take_succ' hi
  simp only [f7_0]
  rw [if_pos (by omega), ix_nat hi, bS, w64_succ (by omega), et]
  by_cases hp : o[i] > 0
  ·rw [if_pos hp, w64_of (by omega)]
   obtain ⟨k, hk⟩ : ∃ k : Nat, o[i] = (k : Int) + 1 := ⟨(o[i] - 1).toNat, by omega⟩
   rw [hk, show (k : Int) + 1 - 1 = k by omega, ix_nat (by rw [hl]; omega), bS, bS, Int.toNat_natCast]
   congr 3
   apply List.ext_getElem (by simp [mdl])
   intro j h1 h2
   rw [List.length_set, hl] at h1
   rw [List.getElem_set]
   simp only [mdl, List.getElem_map, List.getElem_range]
   by_cases e : k = j
   ·subst e; simp
   ·rw [if_neg e]
    rw [Bool.eq_iff_iff, List.contains_iff_mem, List.contains_iff_mem, List.mem_append, List.mem_singleton]
    constructor
    ·exact .inl
    ·rintro (h | h)
     ·exact h
     ·omega
  ·rw [if_neg hp, bS]
   congr 3
   unfold mdl
   refine List.map_congr_left fun j _ => ?_
   rw [Bool.eq_iff_iff, List.contains_iff_mem, List.contains_iff_mem, List.mem_append, List.mem_singleton]
   constructor
   ·exact .inl
   ·rintro (h | h)
    ·exact h
    ·omega) (by
  simp only [f7_0]
  rw [if_neg (by omega), List.take_length])
 have e0 : mdl n (o.take 0) = List.replicate n false := by
  apply List.ext_getElem (by simp [mdl])
  intro j h1 h2
  simp [mdl]
 rw [e0] at this
 exact this
theorem solveImp {m : Int} (h : C.length <= 1048576) (h' : ∀ x ∈ C, x.length <= 1048576) : f7 m C = some (slv m C) := by
 unfold f7 slv
 rw [implValid (by omega) (fun x hx => by have := h' x hx; omega), bS]
 by_cases hv : valid m C = true
 ·obtain ⟨h0, h1, h2, hC⟩ := valid_lits hv
  obtain ⟨n, rfl⟩ : ∃ n : Nat, m = n := ⟨m.toNat, by omega⟩
  have p2 := Nat.pow_le_pow_right (n := 2) (by omega) (show n + 1 <= 15 by omega)
  rw [if_neg (by simp [hv]), if_pos hv]
  have := srchImp (by omega) hC (by omega) (n + 1) 64 [] [] (by omega) ⟨fun _ h => by (cases h), List.Pairwise.nil⟩ (by simp) (fun A c B e => by
   have := congrArg List.length e
   simp at this) (by simp; omega)
  rw [this, bS, Int.toNat_natCast]
  unfold sol
  cases e : wlk C n (n + 1) [] [] with
  | mk o L => cases o with
   | none => rfl
   | some o =>
    have g := (sol_yes (o := o) (C := C) (n := n) hv (by unfold sol; rw [e])).2.2
    simp only [om]
    unfold mkl
    rw [if_pos (by omega), bS, Int.toNat_natCast, setSpec (by omega) g]
    rfl
 ·rw [if_pos (by simpa using hv), if_neg hv]
end
end
section
theorem slv_fits {n : Int} {C : List (List Int)} : (slv n C).1.length <= 14 /\ (slv n C).2.1.length <= 32767 /\ ∀ x ∈ (slv n C).2.1, x.length <= 14 := by
 unfold slv
 by_cases hv : valid n C = true
 ·obtain ⟨h0, h1, h2, hC⟩ := valid_lits hv
  obtain ⟨n, rfl⟩ : ∃ k : Nat, n = k := ⟨n.toNat, by omega⟩
  rw [if_pos hv, Int.toNat_natCast]
  have S := sol_ok h1 hC
  have e := fun h => sol_no (C := C) (n := n) hv h
  cases hs : sol C n with
  | mk o L =>
  rw [hs] at S e
  cases o with
  | some m => refine ⟨by dsimp only; rw [mdl_len]; omega, by simp, by simp⟩
  | none => exact ⟨by simp, (e rfl).2.2, fun x hx => (S.rup.good x hx).le14 h1⟩
 ·rw [if_neg hv]; simp
end
section
def mk (k : Int) (n : Nat) : List Int := (List.range n).map fun i => k + (i : Nat)
theorem mk_len {k : Int} {n : Nat} : (mk k n).length = n := by simp [mk]
theorem mk_get {k : Int} {n i : Nat} (h : i < (mk k n).length) : (mk k n)[i] = k + i := by simp [mk]
theorem markI {a : List Int} {k : Int} (h0 : 0 <= k) (h : k + a.length <= 4611686018427387904) : f46 a k = some (k + a.length, mk k a.length) := by
 unfold f46
 have := iter_steps (f := f46_0) (fun i => ((mk k a.length).take i ++ a.drop i, k + (i : Nat), (i : Int))) a.length (mk k a.length, k + a.length) (fun i hi => by
  have e1 : ((mk k a.length).take i ++ a.drop i).length = a.length := by simp [mk_len]; omega
  have e2 := set_copy (a := mk k a.length) (L := a) (i := i) (by rw [mk_len]; exact hi) (by rw [mk_len])
  rw [mk_get] at e2
  simp only [f46_0]
  rw [if_pos (by rw [e1]; omega), ix_nat (by rw [e1]; exact hi), w64_succ (by omega), w64_of (by omega), bS, Int.toNat_natCast, e2]
  rw [show k + (i : Int) + 1 = k + ((i + 1 : Nat) : Int) by omega]) (by
  have e1 : ((mk k a.length).take a.length ++ a.drop a.length) = mk k a.length := by
   rw [List.take_of_length_le (by rw [mk_len]; omega), List.drop_of_length_le (by omega), List.append_nil]
  simp only [f46_0]
  rw [e1, if_neg (by rw [mk_len]; omega)])
 simp only [Int.natCast_zero, List.take_zero, List.drop_zero, List.nil_append, Int.add_zero, Int.ofNat_zero] at this
 erw [this]
 rfl
theorem heldI {k : Int} {n : Nat} (h0 : 0 <= k) (h : k + n <= 4611686018427387904) : f47 (mk k n) k = some (k + n) := by
 unfold f47
 have := iter_steps (f := f47_0 (mk k n)) (fun i => (k + (i : Nat), (i : Int))) n (.inl (k + n)) (fun i hi => by
  simp only [f47_0]
  rw [if_pos (by rw [mk_len]; omega), ix_nat (by rw [mk_len]; exact hi), w64_succ (by omega), w64_of (by omega), bS, mk_get, if_neg (by simp)]
  rw [show k + (i : Int) + 1 = k + ((i + 1 : Nat) : Int) by omega]) (by
  simp only [f47_0]
  rw [if_neg (by rw [mk_len]; omega)])
 simp only [Int.natCast_zero, Int.add_zero, Int.ofNat_zero] at this
 erw [this]
 rfl
def tot (l : List (List Int)) (i : Nat) : Nat := ((l.take i).map List.length).sum
theorem tot_succ {l : List (List Int)} {i : Nat} (h : i < l.length) : tot l (i + 1) = tot l i + l[i].length := by
 unfold tot; rw [take_succ' h, List.map_append, List.sum_append]; simp
theorem tot_le {l : List (List Int)} {i : Nat} : tot l i <= (l.map List.length).sum := by
 unfold tot
 conv => rhs; rw [<- List.take_append_drop i l, List.map_append, List.sum_append]
 omega
def mkSS (k : Int) (l : List (List Int)) : List (List Int) := (List.range l.length).map fun i => mk (k + tot l i) (l.getD i []).length
theorem mkSS_len {k : Int} {l : List (List Int)} : (mkSS k l).length = l.length := by simp [mkSS]
theorem mkSS_get {k : Int} {l : List (List Int)} {i : Nat} (h : i < (mkSS k l).length) : (mkSS k l)[i] = mk (k + tot l i) (l[i]'(by rw [mkSS_len] at h; exact h)).length := by
 have h' : i < l.length := by rw [mkSS_len] at h; exact h
 simp [mkSS, zE h']
theorem markII {l : List (List Int)} {k : Int} (h0 : 0 <= k) (h : k + (l.map List.length).sum <= 4611686018427387904) (hl : Big l.length) : f21 l k = some (k + tot l l.length, mkSS k l) := by
 unfold f21
 have := iter_steps (f := f21_0) (fun i => ((mkSS k l).take i ++ l.drop i, k + (tot l i : Nat), (i : Int))) l.length (mkSS k l, k + tot l l.length) (fun i hi => by
  have e1 : ((mkSS k l).take i ++ l.drop i).length = l.length := by simp [mkSS_len]; omega
  have e2 := set_copy (a := mkSS k l) (L := l) (i := i) (by rw [mkSS_len]; exact hi) (by rw [mkSS_len])
  rw [mkSS_get] at e2
  have e3 : ((mkSS k l).take i ++ l.drop i)[i]'(by rw [e1]; exact hi) = l[i] := by
   rw [List.getElem_append_right (by rw [List.length_take]; omega), List.getElem_drop]
   congr 1; simp [mkSS_len]; omega
  have e4 := tot_succ hi
  have e5 := tot_le (l := l) (i := i + 1)
  simp only [f21_0]
  rw [if_pos (by rw [e1]; omega), ix_nat (by rw [e1]; exact hi), w64_succ (by omega), bS, e3, markI (by omega) (by omega), bS, Int.toNat_natCast, e2]
  rw [e4, show k + (tot l i : Int) + (l[i].length : Int) = k + ((tot l i + l[i].length : Nat) : Int) by omega]) (by
  have e1 : ((mkSS k l).take l.length ++ l.drop l.length) = mkSS k l := by
   rw [List.take_of_length_le (by rw [mkSS_len]; omega), List.drop_of_length_le (by omega), List.append_nil]
  simp only [f21_0]
  rw [e1, if_neg (by rw [mkSS_len]; omega)])
 have e0 : tot l 0 = 0 := by simp [tot]
 simp only [e0, Int.natCast_zero, List.take_zero, List.drop_zero, List.nil_append, Int.add_zero, Int.ofNat_zero] at this
 erw [this]
 rfl
theorem heldII {l : List (List Int)} {k : Int} (h0 : 0 <= k) (h : k + (l.map List.length).sum <= 4611686018427387904) (hl : Big l.length) : f24 (mkSS k l) k = some (k + tot l l.length) := by
 unfold f24
 have := iter_steps (f := f24_0 (mkSS k l)) (fun i => (k + (tot l i : Nat), (i : Int))) l.length (.inl (k + tot l l.length)) (fun i hi => by
  have e4 := tot_succ hi
  have e5 := tot_le (l := l) (i := i + 1)
  simp only [f24_0]
  rw [if_pos (by rw [mkSS_len]; omega), ix_nat (by rw [mkSS_len]; exact hi), w64_succ (by omega), bS, mkSS_get, heldI (by omega) (by omega), bS, if_neg (by omega)]
  rw [e4, show k + (tot l i : Int) + (l[i].length : Int) = k + ((tot l i + l[i].length : Nat) : Int) by omega]) (by
  simp only [f24_0]
  rw [if_neg (by rw [mkSS_len]; omega)])
 have e0 : tot l 0 = 0 := by simp [tot]
 simp only [e0, Int.natCast_zero, Int.add_zero, Int.ofNat_zero] at this
 erw [this]
 rfl
end
section
def mkBs (k : Int) (n : Nat) : List Bool := (List.range n).map fun (i : Nat) => decide ((k + (i : Nat)).tmod 3 = 0)
theorem mkBs_len {k : Int} {n : Nat} : (mkBs k n).length = n := by simp [mkBs]
theorem mkBs_get {k : Int} {n i : Nat} (h : i < (mkBs k n).length) : (mkBs k n)[i] = decide ((k + (i : Nat)).tmod 3 = 0) := by simp [mkBs]
theorem markBs {a : List Bool} {k : Int} (h0 : 0 <= k) (h : k + a.length <= 4611686018427387904) : f22 a k = some (k + a.length, mkBs k a.length) := by
 unfold f22
 have it := iter_steps (f := f22_0) (fun i => ((mkBs k a.length).take i ++ a.drop i, k + (i : Int), (i : Int))) a.length (mkBs k a.length, k + a.length) (fun i hi => by
  have e1 : ((mkBs k a.length).take i ++ a.drop i).length = a.length := by simp [mkBs_len]; omega
  have e2 := set_copy (a := mkBs k a.length) (L := a) (i := i) (by rw [mkBs_len]; exact hi) (by rw [mkBs_len])
  rw [mkBs_get] at e2
  simp only [f22_0]
  rw [if_pos (by rw [e1]; omega), ix_nat (by rw [e1]; exact hi), bS, Int.toNat_natCast, e2, w64_of (by omega), w64_succ (by omega)]
  rw [show k + (i : Int) + 1 = k + ((i + 1 : Nat) : Int) by omega]) (by
  simp only [f22_0]
  rw [if_neg (by simp [mkBs_len]), List.drop_length, List.append_nil, List.take_of_length_le (by rw [mkBs_len]; exact Nat.le_refl _)])
 simp only [List.take_zero, List.drop_zero, List.nil_append, Int.natCast_zero, Int.ofNat_zero, Int.add_zero] at it
 rw [it]; rfl
theorem heldBs {k : Int} {n : Nat} (h0 : 0 <= k) (h : k + n <= 4611686018427387904) : f23 (mkBs k n) k = some (k + n) := by
 unfold f23
 have it := iter_steps (f := f23_0 (mkBs k n)) (fun i => (k + (i : Int), (i : Int))) n (.inl (k + n)) (fun i hi => by
  simp only [f23_0]
  rw [if_pos (by rw [mkBs_len]; omega), ix_nat (by rw [mkBs_len]; exact hi), bS, mkBs_get, if_neg (by simp), w64_of (by omega), w64_succ (by omega)]
  rw [show k + (i : Int) + 1 = k + ((i + 1 : Nat) : Int) by omega]) (by
  simp only [f23_0]
  rw [if_neg (by rw [mkBs_len]; omega)])
 simp only [Int.natCast_zero, Int.ofNat_zero, Int.add_zero] at it
 rw [it]; rfl
theorem rows_sum {l : List (List Int)} (h : ∀ x ∈ l, x.length <= 14) : (l.map List.length).sum <= 14 * l.length := by
 induction l with
 | nil => simp
 | cons a l ih =>
  have := h a (by simp)
  have := ih fun x hx => h x (by simp [hx])
  simp only [List.map_cons, List.sum_cons, List.length_cons]; omega
theorem lawFnExactSolve (n : Int) (hn : ok n) (a : List (List Int)) (ha : ok a) : f4 n a = some true := by
 unfold f4
 rw [szII ha (by omega) (by omega), bS]
 by_cases h1 : lft 1048576 (a.length + (a.map List.length).sum) < 0
 ·rw [if_pos h1]
 rw [if_neg h1]
 obtain ⟨h2, h3⟩ := szII_ok h1 (by omega)
 have h4 := (lft_pos h1).2
 obtain ⟨f1, f2, f3⟩ := slv_fits (n := n) (C := a)
 simp only [toII h2 h3, bS, solveSpec h2 h3, solveImp h2 h3]
 generalize slv n a = u at f1 f2 f3 ⊢
 have e0 : tot a a.length = (a.map List.length).sum := by unfold tot; rw [List.take_of_length_le (Nat.le_refl _)]
 have e1 : tot u.2.1 u.2.1.length = (u.2.1.map List.length).sum := by unfold tot; rw [List.take_of_length_le (Nat.le_refl _)]
 have sm := rows_sum f3
 simp only [bS, eqII (show a.length <= 9223372036854775807 by omega) (fun x hx => by have := h3 x hx; omega), eqB (a := u.1) (by omega), eqII (show u.2.1.length <= 9223372036854775807 by omega) (fun x hx => by have := f3 x hx; omega),
  markII (l := a) (k := 1) (by omega) (by omega) (by omega), markBs (a := u.1) (k := 1) (by omega) (by omega), heldBs (k := 1) (n := u.1.length) (by omega) (by omega)]
 simp only [markII (l := u.2.1) (k := 1 + (u.1.length : Int)) (by omega) (by omega) (by omega), heldII (l := u.2.1) (k := 1 + (u.1.length : Int)) (by omega) (by omega) (by omega), bS]
 have d1 : ¬ ((1 : Int) + tot a a.length < 0) := by omega
 have d2 : ¬ ((1 : Int) + u.1.length < 0) := by omega
 have d3 : ¬ ((1 : Int) + u.1.length + tot u.2.1 u.2.1.length < 0) := by omega
 simp [d1, d2, d3]
end
end Go.Proofs.YtjfeimhiiomgoaaH
