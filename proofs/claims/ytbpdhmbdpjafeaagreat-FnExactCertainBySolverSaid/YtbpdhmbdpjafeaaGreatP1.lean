import Derived.Test.YtbpdhmbdpjafeaaGreatTd1
import Derived.Test.YtbpdhmbdpjafeaaGreatX3
import Derived.Test.YtbpdhmbdpjafeaaGreatRd1
set_option linter.unusedVariables false
set_option linter.unusedSimpArgs false
set_option linter.defProp false
set_option linter.unusedSectionVars false
namespace Go.Proofs.YtbpdhmbdpjafeaaGreatH
open Go
section
theorem bS {α β : Type} {a : α} {f : α -> Option β} : (some a).bind f = f a := rfl
end
section
theorem toI {a : List Int} (h : a.length <= 1048576) : f32 a = some a := by
 unfold f32
 rw [mkl_ok (by omega) (by omega) (by omega)]
 have : iter (f32_0 a) (List.replicate (a.length : Int).toNat 0, 0) = some a := iter_copy (by simp) (fun i hi out ho => by
  simp only [f32_0]
  rw [if_pos (by omega), ix_nat hi, ix_nat ho, Int.toNat_natCast, w64_succ (by omega)]; rfl) (fun out => by
  simp only [f32_0]
  rw [if_neg (by omega)])
 simp only [bS, this]
theorem eqI {a : List Int} (h : a.length <= 9223372036854775807) : f10 a a = some true := by
 unfold f10
 rw [if_neg (by simp)]
 rw [iter_ex (List.range a.length) (fun _ => false) false (fun i hi => by
  simp only [f10_0]
  simp only [List.length_range] at hi
  rw [if_pos (by omega), ix_nat hi, w64_succ (by omega)]
  simp) (by
  simp only [f10_0]
  rw [if_neg (by simp)])]
 simp
theorem eqII {a : List (List Int)} (h : a.length <= 9223372036854775807) (h' : ∀ x ∈ a, x.length <= 9223372036854775807) : f11 a a = some true := by
 unfold f11
 rw [if_neg (by simp)]
 rw [iter_ex (List.range a.length) (fun _ => false) false (fun i hi => by
  simp only [f11_0]
  simp only [List.length_range] at hi
  rw [if_pos (by omega), ix_nat hi, w64_succ (by omega)]
  simp only [bS, eqI (h' _ (List.getElem_mem hi))]
  simp) (by
  simp only [f11_0]
  rw [if_neg (by simp)])]
 simp
theorem szI {a : List Int} {n : Int} (h : a.length <= 9223372036854775807) (h0 : 0 <= n) (h1 : n <= 1048576) : f23 a n = some (lft n a.length) := by
 unfold f23
 rw [w64_of (by omega)]
 unfold lft
 by_cases hc : n < (a.length : Int)
 ·rw [if_pos (by omega), if_neg (by omega)]
 ·rw [if_neg (by omega), if_pos (by omega)]
end
section
abbrev Big (n : Nat) : Prop := n <= 9223372036854775806
theorem hasI {l : List Int} {x : Int} (h : Big l.length) : f54 l x = some (l.contains x) := by
 unfold f54
 rw [iter_ex l (fun a => x == a) true (fun i hi => by
  simp only [f54_0]
  rw [if_pos (by omega), ix_nat hi, w64_succ (by omega)]
  simp only [bS]
  by_cases hc : l[i] = x
  ·rw [if_pos hc, if_pos (by simp [hc])]
  ·rw [if_neg hc, if_neg (by simp; exact fun h => hc h.symm)]) (by
  simp only [f54_0]
  rw [if_neg (by omega)])]
 rw [show l.contains x = l.any (fun a => x == a) from List.any_beq.symm]
 by_cases hc : l.any (fun a => x == a) = true
 ·rw [if_pos hc, hc]; rfl
 ·rw [if_neg hc]; simp only [Bool.not_eq_true] at hc; rw [hc]; rfl
theorem indexII {s : List (List Int)} {f : List Int -> Option Bool} {p : List Int -> Bool} (h : Big s.length) (hf : ∀ a ∈ s, f a = some (p a)) : f123 s f = some (s.any p) := by
 unfold f123 f150
 obtain ⟨o, h1, h2⟩ := iter_idx (f := f150_0 s f) s p (fun i hi => by
  simp only [f150_0]
  rw [if_pos (by omega), ix_nat hi, w64_succ (by omega)]
  simp only [bS, hf _ (List.getElem_mem hi)]
  split <;> rfl) (by
  simp only [f150_0]
  rw [if_neg (by omega)])
 rw [h1]
 cases o with
 | inl _ => dsimp only at h2; rw [h2]; rfl
 | inr x => dsimp only at h2; rw [h2.2]; simp; omega
theorem indexI {s : List Int} {f : Int -> Option Bool} {p : Int -> Bool} (h : Big s.length) (hf : ∀ a ∈ s, f a = some (p a)) : f126 s f = some (s.any p) := by
 unfold f126 f67
 obtain ⟨o, h1, h2⟩ := iter_idx (f := f67_0 s f) s p (fun i hi => by
  simp only [f67_0]
  rw [if_pos (by omega), ix_nat hi, w64_succ (by omega)]
  simp only [bS, hf _ (List.getElem_mem hi)]
  split <;> rfl) (by
  simp only [f67_0]
  rw [if_neg (by omega)])
 rw [h1]
 cases o with
 | inl _ => dsimp only at h2; rw [h2]; rfl
 | inr x => dsimp only at h2; rw [h2.2]; simp; omega
theorem containsI {s : List Int} {v : Int} (h : Big s.length) : f69 s v = some (s.contains v) := by
 unfold f69 f100
 obtain ⟨o, h1, h2⟩ := iter_idx (f := f100_0 s v) s (fun a => v == a) (fun i hi => by
  simp only [f100_0]
  rw [if_pos (by omega), ix_nat hi, w64_succ (by omega)]
  simp only [bS, beq_iff_eq]
  split <;> rfl) (by
  simp only [f100_0]
  rw [if_neg (by omega)])
 rw [h1]
 rw [show s.contains v = s.any (fun a => v == a) from List.any_beq.symm]
 cases o with
 | inl _ => dsimp only at h2; rw [h2]; rfl
 | inr x => dsimp only at h2; rw [h2.2]; simp; omega
end
section
def lit (m : List Bool) (x : Int) : Bool :=
 if x > 0 then (if x <= (m.length : Int) then m[(x - 1).toNat]?.getD false else false)
 else if x < 0 then (if x >= -(m.length : Int) then !(m[(-x - 1).toNat]?.getD false) else false) else false
def sat (l : List (List Int)) (m : List Bool) : Bool := l.all fun c => c.any (lit m)
def slit (n v : Int) : Bool := let y := if v < 0 /\ v >= w64 (-n) then w64 (-v) else (if 0 > v then 0 else v); decide (1 <= y) && decide (y <= n)
def ilit (n v : Int) : Bool := !(v == 0) && (decide (w64 (-n) <= v) && decide (v <= n))
def bef (c : List Int) (i : Nat) : Bool := (c.take i).any fun a => a == c.getD i 0 || a == w64 (-(c.getD i 0))
def clS (n : Int) (c : List Int) : Bool := !(List.range c.length).any fun i => !slit n (c.getD i 0) || bef c i
def clI (n : Int) (c : List Int) : Bool := !(List.range c.length).any fun i => !ilit n (c.getD i 0) || bef c i
theorem slit_ilit {n v : Int} (h0 : 0 <= n) (h1 : n <= 14) : slit n v = ilit n v := by
 unfold slit ilit
 have e1 : w64 (-n) = -n := w64_of (by omega)
 rw [e1]
 by_cases h2 : v < 0 /\ v >= -n
 ·have e2 : w64 (-v) = -v := w64_of (by omega)
  rw [if_pos h2, e2]
  rw [Bool.eq_iff_iff]
  simp
  omega
 ·rw [if_neg h2]
  rw [Bool.eq_iff_iff]
  by_cases h3 : 0 > v
  ·rw [if_pos h3]; simp; omega
  ·rw [if_neg h3]; simp; omega
theorem clS_clI {n : Int} {c : List Int} (h0 : 0 <= n) (h1 : n <= 14) : clI n c = clS n c := by
 unfold clS clI
 simp only [slit_ilit h0 h1]
theorem specIn3 {x lo hi : Int} : f80 x lo hi = some (decide (lo <= x) && decide (x <= hi)) := by
 unfold f80
 by_cases h : x >= lo
 ·rw [if_pos h]; simp [h]
 ·rw [if_neg h]; simp [show ¬ lo <= x from h]
theorem implIn {x lo hi : Int} : f90 x lo hi = some (decide (lo <= x) && decide (x <= hi)) := by
 unfold f90
 by_cases h : lo <= x
 ·rw [if_pos h]; simp [h]
 ·rw [if_neg h]; simp [h]
theorem specClause {n : Int} {c : List Int} (h : Big c.length) : f81 n c = some (clS n c) := by
 unfold f81
 rw [iter_ex (List.range c.length) (fun i => !slit n (c.getD i 0) || bef c i) false (fun i hi => by
  simp only [f81_0]
  simp only [List.length_range] at hi
  simp only [List.getElem_range]
  have eg : c.getD i 0 = c[i] := by rw [zD, zE hi]; rfl
  rw [if_pos (by omega), ix_nat hi, w64_succ (by omega), bS]
  have es : ((((if c[i] < 0 then some (decide (c[i] >= (w64 (-n)))) else some false) : Option Bool).bind fun x_5 => ((if x_5 = true then some (w64 (-c[i])) else some (if 0 > c[i] then 0 else c[i])) : Option Int).bind fun v_11 => f80 v_11 1 n) : Option Bool) = some (slit n c[i]) := by
   unfold slit
   by_cases h1 : c[i] < 0
   ·by_cases h2 : c[i] >= w64 (-n)
    ·simp only [if_pos h1, h2, decide_true, bS, if_true, specIn3, and_true]
    ·simp only [if_pos h1, h2, decide_false, bS, specIn3, and_false, if_false, Bool.false_eq_true]
   ·rw [if_neg (show ¬ (c[i] < 0 /\ c[i] >= w64 (-n)) from fun h => h1 h.1)]
    simp only [if_neg h1, bS, specIn3, if_false, Bool.false_eq_true]
  rw [<- Option.bind_assoc] at es
  rw [<- Option.bind_assoc, <- Option.bind_assoc, es, bS]
  rw [eg]
  by_cases hc : slit n c[i] = true
  ·rw [hc, if_neg (by simp)]
   rw [iter_ex (c.take i) (fun a => a == c.getD i 0 || a == w64 (-(c.getD i 0))) false (fun k hk => by
    simp only [f81_1]
    simp only [List.length_take] at hk
    rw [if_pos (by omega), ix_nat (l := c) (i := k) (by omega), w64_succ (by omega), ix_nat hi, eg]
    simp only [bS, List.getElem_take]
    by_cases h1 : c[k] = c[i]
    ·rw [if_pos h1]; simp [h1]
    ·rw [if_neg h1]
     by_cases h2 : c[k] = w64 (-c[i]) <;> simp [h1, h2]) (by
    simp only [f81_1]
    rw [if_neg (by simp; omega)])]
   unfold bef
   cases ((c.take i).any fun a => a == c.getD i 0 || a == w64 (-(c.getD i 0))) <;> rfl
  ·simp only [Bool.not_eq_true] at hc
   rw [hc]; rfl) (by
  simp only [f81_0]
  rw [if_neg (by simp)])]
 unfold clS
 cases ((List.range c.length).any fun i => !slit n (c.getD i 0) || bef c i) <;> rfl
theorem implClause {n : Int} {c : List Int} (h : Big c.length) : f125 n c = some (clI n c) := by
 unfold f125
 rw [iter_ex (List.range c.length) (fun i => !ilit n (c.getD i 0) || bef c i) false (fun i hi => by
  simp only [f125_0]
  simp only [List.length_range] at hi
  simp only [List.getElem_range]
  have eg : c.getD i 0 = c[i] := by rw [zD, zE hi]; rfl
  rw [if_pos (by omega), ix_nat hi, w64_succ (by omega), bS, eg]
  unfold ilit
  by_cases h1 : c[i] = 0
  ·rw [if_pos h1]; simp [h1]
  ·rw [if_neg h1, implIn]
   simp only [bS]
   by_cases h2 : (decide (w64 (-n) <= c[i]) && decide (c[i] <= n)) = true
   ·rw [if_neg (by rw [h2]; simp), cutL_ok (by omega) (by omega) (by omega), bS]
    rw [show (List.take (i : Int).toNat c).drop (0 : Int).toNat = c.take i by simp]
    have hb : Big (c.take i).length := by simp; omega
    rw [containsI hb, containsI hb, h2]
    unfold bef
    rw [eg]
    have e3 : ((c.take i).any fun a => a == c[i] || a == w64 (-c[i])) = ((c.take i).contains c[i] || (c.take i).contains (w64 (-c[i]))) := by
     rw [Bool.eq_iff_iff]; simp only [List.any_eq_true, Bool.or_eq_true, List.contains_iff_mem, beq_iff_eq]
     constructor
     ·rintro ⟨a, ha, h | h⟩
      ·exact .inl (h ▸ ha)
      ·exact .inr (h ▸ ha)
     ·rintro (h | h)
      ·exact ⟨_, h, .inl rfl⟩
      ·exact ⟨_, h, .inr rfl⟩
    rw [e3]
    have h1' : (c[i] == 0) = false := by simpa using h1
    rw [h1']
    cases (c.take i).contains c[i] <;> cases (c.take i).contains (w64 (-c[i])) <;> rfl
   ·rw [if_pos h2]
    simp only [Bool.not_eq_true] at h2
    rw [h2]; simp) (by
  simp only [f125_0]
  rw [if_neg (by simp)])]
 unfold clI
 cases ((List.range c.length).any fun i => !ilit n (c.getD i 0) || bef c i) <;> rfl
def valid (n : Int) (l : List (List Int)) : Bool := l.all (clS n) && ((decide (0 <= n) && decide (n <= 14)) && decide ((l.length : Int) <= 400))
theorem specValid {n : Int} {l : List (List Int)} (h : Big l.length) (h' : ∀ x ∈ l, Big x.length) : f51 n l = some (valid n l) := by
 unfold f51
 rw [iter_ex l (fun c => !clS n c) false (fun i hi => by
  simp only [f51_0]
  rw [if_pos (by omega), ix_nat hi, w64_succ (by omega)]
  simp only [bS, specClause (h' _ (List.getElem_mem hi))]
  cases clS n l[i] <;> rfl) (by
  simp only [f51_0]
  rw [if_neg (by omega)])]
 rw [any_not]
 unfold valid
 cases l.all (clS n)
 ·rfl
 ·rw [if_neg (by simp), bS]
  dsimp only
  rw [specIn3, bS]
  cases (decide (0 <= n) && decide (n <= 14)) <;> simp
theorem implValid {n : Int} {l : List (List Int)} (h : Big l.length) (h' : ∀ x ∈ l, Big x.length) : f64 n l = some (valid n l) := by
 unfold f64 f95 valid
 by_cases h0 : (l.length : Int) <= 400
 ·rw [if_pos h0, implIn, bS]
  by_cases h1 : (decide (0 <= n) && decide (n <= 14)) = true
  ·rw [if_pos h1, h1]
   simp only [Bool.and_eq_true, decide_eq_true_eq] at h1
   rw [indexII (p := fun c => !clS n c) h (fun c hc => by
    unfold f124
    rw [implClause (h' _ hc), clS_clI h1.1 h1.2]; simp), any_not]
   simp [h0]
  ·rw [if_neg h1]
   simp only [Bool.not_eq_true] at h1
   rw [h1]; simp
 ·rw [if_neg h0]; simp [h0]
end
section
abbrev neg (v : Int) : Int := w64 (-v)
def negs (c : List Int) : List Int := c.map neg
theorem negSpec {l : List Int} (h : l.length <= 1048576) : f109 l = some (negs l) := by
 unfold f109
 rw [iter_flat l (fun v => [neg v]) id (fun i hi => by
  have hn := take_flat_le (l := l) (i := i) (g := fun v => [neg v]) (m := 1) (fun _ => by simp)
  simp only [f109_0]
  rw [if_pos (by omega), ix_nat hi, bS, app_fits (by simp only [List.length_singleton]; omega), w64_succ (by omega)]; rfl) (by
  simp only [f109_0]
  rw [if_neg (by omega)]; rfl)]
 rw [bS, negs, List.map_eq_flatMap]; rfl
theorem negImp {l : List Int} (h : l.length <= 1048576) : f129 l = some (negs l) := by
 unfold f129
 rw [iter_flat l (fun v => [neg v]) id (fun i hi => by
  have hn := take_flat_le (l := l) (i := i) (g := fun v => [neg v]) (m := 1) (fun _ => by simp)
  simp only [f129_0]
  rw [if_pos (by omega), ix_nat hi, bS, app_fits (by simp only [List.length_singleton]; omega), w64_succ (by omega)]; rfl) (by
  simp only [f129_0]
  rw [if_neg (by omega)]; rfl)]
 rw [bS, negs, List.map_eq_flatMap]; rfl
def left (out c : List Int) : List Int := c.filter fun v => !out.contains (neg v)
def hit (out c : List Int) : Bool := c.any out.contains
theorem filter_flat {α : Type} {l : List α} {p : α -> Bool} : l.flatMap (fun v => if p v = true then [v] else []) = l.filter p := by
 induction l with
 | nil => rfl
 | cons a l ih => rw [List.flatMap_cons, ih, List.filter_cons]; split <;> rfl
theorem leftSpec {c out : List Int} (h : c.length <= 1048576) (ho : Big out.length) : ∃ o, f108 c out = some o /\ o.2 = hit out c /\ (o.2 = false -> o.1 = left out c) := by
 unfold f108
 obtain ⟨r, e1, e2⟩ := iter_up (f := f108_0 c out) c.length (fun i s => s = (left out (c.take i), (i : Int)) /\ hit out (c.take i) = false) (fun r => match r with | .inl o => o = left out c /\ hit out c = false | .inr (o, b) => b = true /\ hit out c = true) (fun i s hi ⟨hs, hh⟩ => by
  subst hs
  have hl : (left out (c.take i)).length <= i := by
   refine Nat.le_trans (List.length_filter_le _ _) ?_
   rw [List.length_take]; omega
  simp only [f108_0]
  rw [if_pos (by omega), ix_nat hi, bS, hasI ho, bS]
  have et := take_succ' hi
  by_cases hc : out.contains c[i] = true
  ·rw [if_pos hc]
   exact ⟨_, rfl, rfl, List.any_eq_true.2 ⟨_, List.getElem_mem hi, hc⟩⟩
  ·rw [if_neg hc, hasI ho, bS, w64_succ (by omega)]
   simp only [Bool.not_eq_true] at hc
   have h2 : hit out (c.take (i + 1)) = false := by
    unfold hit at hh ⊢; rw [et, List.any_append, hh]; simp [hc]; simpa using hc
   have h3 : left out (c.take (i + 1)) = left out (c.take i) ++ (if !out.contains (neg c[i]) then [c[i]] else []) := by
    unfold left; rw [et, List.filter_append, List.filter_cons]; rfl
   by_cases hn : out.contains (neg c[i]) = true
   ·refine ⟨.inl (left out (c.take i), ((i + 1 : Nat) : Int)), ?_, ?_, h2⟩
    ·rw [if_neg (by simpa using hn)]; rfl
    ·rw [h3, hn]; simp
   ·refine ⟨.inl (left out (c.take i) ++ [c[i]], ((i + 1 : Nat) : Int)), ?_, ?_, h2⟩
    ·rw [if_pos (by simpa using hn), app_fits (by simp only [List.length_singleton]; omega)]; rfl
    ·simp only [Bool.not_eq_true] at hn
     rw [h3, hn]; simp) (fun s ⟨hs, hh⟩ => by
  subst hs
  rw [List.take_of_length_le (Nat.le_refl _)] at hh ⊢
  simp only [f108_0]
  rw [if_neg (by omega)]
  exact ⟨_, rfl, rfl, hh⟩) ([], 0) ⟨by simp [left], by simp [hit]⟩
 rw [e1]
 cases r with
 | inl o => exact ⟨_, rfl, e2.2.symm, fun _ => e2.1⟩
 | inr r => obtain ⟨o, b⟩ := r; exact ⟨_, rfl, e2.1.trans e2.2.symm, fun h => by rw [e2.1] at h; cases h⟩
theorem withoutImp {c b : List Int} (h : c.length <= 1048576) (hb : Big b.length) : f128 c b = some (c.filter fun v => !b.contains v) := by
 unfold f128
 rw [iter_flat c (fun v => if (!b.contains v) = true then [v] else []) id (fun i hi => by
  have hn := take_flat_le (l := c) (i := i) (g := fun v => if (!b.contains v) = true then [v] else []) (m := 1) (fun a => by split <;> simp)
  generalize (c.take i).flatMap (fun v => if (!b.contains v) = true then [v] else []) = out at hn ⊢
  simp only [f128_0]
  rw [if_pos (by omega), ix_nat hi, bS, containsI hb, bS, w64_succ (by omega)]
  cases hc : b.contains c[i]
  ·rw [if_pos (by simp), app_fits (by simp only [List.length_singleton]; omega)]; rfl
  ·rw [if_neg (by simp)]; simp) (by
  simp only [f128_0]
  rw [if_neg (by omega)]; rfl)]
 rw [bS, filter_flat]; rfl
def Lits (n : Int) (c : List Int) : Prop := ∀ v ∈ c, v ≠ 0 /\ -n <= v /\ v <= n
theorem neg_neg {n v : Int} (h : n <= 14) (hv : v ≠ 0 /\ -n <= v /\ v <= n) : neg v = -v := w64_of (by omega)
theorem left_eq {n : Int} {c out : List Int} (hn : n <= 14) (hc : Lits n c) (ho : Lits n out) : (c.filter fun v => !(negs out).contains v) = left out c := by
 unfold left
 apply List.filter_congr
 intro v hv
 have : (negs out).contains v = out.contains (neg v) := by
  rw [Bool.eq_iff_iff, List.contains_iff_mem, List.contains_iff_mem]
  unfold negs
  rw [List.mem_map]
  constructor
  ·rintro ⟨a, ha, rfl⟩
   rw [neg_neg hn (ho a ha)]
   have := ho a ha
   rw [neg_neg hn (by omega), Int.neg_neg]; exact ha
  ·intro h
   refine ⟨_, h, ?_⟩
   have h1 := hc v hv
   rw [neg_neg hn h1, neg_neg hn (by omega), Int.neg_neg]
 rw [this]
def scan (out : List Int) : List (List Int) -> Option (Option Int)
 | [] => none
 | c :: l => if hit out c = true then scan out l else match left out c with
  | [] => some none
  | [v] => some (some v)
  | _ => scan out l
def round (out : List Int) (l : List (List Int)) : (List Int × Bool) ⊕ (List Int × Bool) := match scan out l with
 | none => .inl (out, false)
 | some none => .inr (out, true)
 | some (some v) => .inl (out ++ [v], true)
theorem roundImp {n : Int} {l : List (List Int)} {out : List Int} (hn : n <= 14) (h : l.length <= 1048576) (h' : ∀ c ∈ l, c.length <= 1048576) (hl : ∀ c ∈ l, Lits n c) (ho : Lits n out) (hz : out.length <= 1048576) :
  iter (f96_1 l out) 0 = some (round out l) := by
 obtain ⟨r, e1, e2⟩ := iter_up (f := f96_1 l out) l.length (fun i s => s = (i : Int) /\ scan out (l.drop i) = scan out l) (fun r => r = round out l) (fun i s hi ⟨hs, hh⟩ => by
  subst hs
  simp only [f96_1]
  have hb := h' _ (List.getElem_mem hi)
  have hg : Big (negs out).length := by simp only [negs, List.length_map]; omega
  rw [if_pos (by omega), ix_nat hi, bS, indexI (p := out.contains) (by omega) (fun x _ => by
   unfold f127
   rw [containsI (by omega)]; rfl), bS, negImp hz, bS, withoutImp hb hg, left_eq hn (hl _ (List.getElem_mem hi)) ho, w64_succ (by omega)]
  rw [List.drop_eq_getElem_cons hi] at hh
  rw [scan] at hh
  by_cases hc : hit out l[i] = true
  ·rw [if_pos hc] at hh
   rw [if_pos (show l[i].any out.contains = true from hc)]
   exact ⟨_, rfl, rfl, hh⟩
  ·rw [if_neg hc] at hh
   rw [if_neg (show ¬ l[i].any out.contains = true from hc)]
   cases hv : left out l[i] with
   | nil =>
    rw [hv] at hh
    exact ⟨.inr (.inr (out, true)), rfl, by unfold round; rw [<- hh]⟩
   | cons v t =>
    rw [hv] at hh
    rw [bS, if_neg (by simp only [List.length_cons]; omega)]
    cases t with
    | nil =>
     rw [if_pos (by simp), show ix [v] (0 : Int) = some v from rfl, bS, app_fits (by simp only [List.length_singleton]; omega)]
     exact ⟨.inr (.inl (out ++ [v], true)), rfl, by unfold round; rw [<- hh]⟩
    | cons w t =>
     rw [if_neg (by simp only [List.length_cons]; omega)]
     exact ⟨_, rfl, rfl, hh⟩) (fun s ⟨hs, hh⟩ => by
  subst hs
  simp only [f96_1]
  rw [if_neg (by omega)]
  rw [List.drop_of_length_le (Nat.le_refl _), scan] at hh
  refine ⟨_, rfl, ?_⟩
  unfold round
  rw [<- hh]) 0 ⟨rfl, by simp⟩
 rw [e1, e2]
theorem roundSpec {l : List (List Int)} {out : List Int} (h : l.length <= 1048576) (h' : ∀ c ∈ l, c.length <= 1048576) (hz : out.length <= 1048576) :
  ∃ r, iter (f82_1 l) (out, false, 0) = some r /\ (match r with | .inl (o, m) => round out l = .inl (o, m) | .inr (o, m) => m = true /\ round out l = .inr (o, m)) := by
 refine iter_up (f := f82_1 l) l.length (fun i s => (s = (out, false, (i : Int)) /\ scan out (l.drop i) = scan out l) \/ ∃ v, s = (out ++ [v], true, (i : Int)) /\ scan out l = some (some v)) (fun r => match r with | .inl (o, m) => round out l = .inl (o, m) | .inr (o, m) => m = true /\ round out l = .inr (o, m)) (fun i s hi hs => ?_) (fun s hs => ?_) (out, false, 0) (.inl ⟨rfl, by simp⟩)
 ·rcases hs with ⟨hs, hh⟩ | ⟨v, hs, hh⟩
  ·subst hs
   have hb := h' _ (List.getElem_mem hi)
   obtain ⟨⟨o1, o2⟩, g1, g2, g3⟩ := leftSpec (c := l[i]) (out := out) hb (by omega)
   simp only [f82_1]
   rw [if_pos (by omega), bS, if_pos (by simp), ix_nat hi, bS, g1, bS, w64_succ (by omega)]
   rw [List.drop_eq_getElem_cons hi, scan] at hh
   simp only at g2 g3 ⊢
   by_cases hc : hit out l[i] = true
   ·rw [if_pos hc] at hh
    rw [if_pos (g2.trans hc)]
    exact ⟨_, rfl, .inl ⟨rfl, hh⟩⟩
   ·rw [if_neg hc] at hh
    simp only [Bool.not_eq_true] at hc
    rw [if_neg (by rw [g2, hc]; simp), g3 (g2.trans hc)]
    cases hv : left out l[i] with
    | nil =>
     rw [hv] at hh
     exact ⟨.inr (.inr (out, true)), rfl, rfl, by unfold round; rw [<- hh]⟩
    | cons v t =>
     rw [hv] at hh
     rw [if_neg (by simp only [List.length_cons]; omega)]
     cases t with
     | nil =>
      rw [if_pos (by simp), show ix [v] (0 : Int) = some v from rfl, bS, app_fits (by simp only [List.length_singleton]; omega)]
      exact ⟨.inl (out ++ [v], true, ((i + 1 : Nat) : Int)), rfl, .inr ⟨v, rfl, hh.symm⟩⟩
     | cons w t =>
      rw [if_neg (by simp only [List.length_cons]; omega)]
      exact ⟨_, rfl, .inl ⟨rfl, hh⟩⟩
  ·subst hs
   simp only [f82_1]
   rw [if_pos (by omega), bS, if_neg (by simp)]
   exact ⟨_, rfl, by unfold round; rw [hh]⟩
 ·rcases hs with ⟨hs, hh⟩ | ⟨v, hs, hh⟩
  ·subst hs
   simp only [f82_1]
   rw [if_neg (by omega), bS, if_neg (by simp)]
   rw [List.drop_of_length_le (Nat.le_refl _), scan] at hh
   exact ⟨_, rfl, by unfold round; rw [<- hh]⟩
  ·subst hs
   simp only [f82_1]
   rw [if_neg (by omega), bS, if_neg (by simp)]
   exact ⟨_, rfl, by unfold round; rw [hh]⟩
def Good (n : Int) (c : List Int) : Prop := Lits n c /\ c.Pairwise fun a b => a ≠ b /\ a ≠ -b
theorem pigeon : ∀ (n : Nat) (l : List Nat), l.Nodup -> (∀ x ∈ l, x < n) -> l.length <= n
 | 0, l, _, h => by
  cases l with
  | nil => simp
  | cons a l => exact absurd (h a (by simp)) (by omega)
 | n + 1, l, hd, h => by
  have h1 := pigeon n (l.erase n) (hd.erase n) (fun x hx => by
   have h2 := h x (List.mem_of_mem_erase hx)
   have h3 : x ≠ n := fun e => by subst e; exact hd.not_mem_erase hx
   omega)
  have h4 := List.length_erase (l := l) (a := n)
  split at h4 <;> omega
theorem Good.len {n : Int} {c : List Int} (h : Good n c) : (c.length : Int) <= n \/ c = [] := by
 cases hc : c with
 | nil => exact .inr rfl
 | cons a t =>
  left
  rw [<- hc]
  have h0 := h.1 a (by rw [hc]; simp)
  have := pigeon n.toNat (c.map fun v => v.natAbs - 1) (by
   unfold List.Nodup
   rw [List.pairwise_map]
   refine List.Pairwise.imp_of_mem ?_ h.2
   intro x y hx hy hxy
   have := h.1 x hx
   have := h.1 y hy
   omega) (by
   intro x hx
   rw [List.mem_map] at hx
   obtain ⟨v, hv, rfl⟩ := hx
   have := h.1 v hv
   omega)
  rw [List.length_map] at this
  omega
theorem Good.le14 {n : Int} {c : List Int} (hn : n <= 14) (h : Good n c) : c.length <= 14 := by
 rcases h.len with h | h
 ·omega
 ·subst h; simp
theorem scan_some {out : List Int} : ∀ {l : List (List Int)} {v : Int}, scan out l = some (some v) -> ∃ c ∈ l, hit out c = false /\ left out c = [v]
 | [], v, h => by simp [scan] at h
 | c :: l, v, h => by
  rw [scan] at h
  by_cases hc : hit out c = true
  ·rw [if_pos hc] at h
   obtain ⟨d, hd, g⟩ := scan_some h
   exact ⟨d, by simp [hd], g⟩
  ·rw [if_neg hc] at h
   simp only [Bool.not_eq_true] at hc
   split at h
   ·cases h
   ·rename_i w hw
    simp only [zJ] at h
    subst h
    exact ⟨c, by simp, hc, hw⟩
   ·obtain ⟨d, hd, g⟩ := scan_some h
    exact ⟨d, by simp [hd], g⟩
theorem scan_good {n : Int} {out : List Int} {l : List (List Int)} {v : Int} (hn : n <= 14) (hl : ∀ c ∈ l, Lits n c) (ho : Good n out) (h : scan out l = some (some v)) : Good n (out ++ [v]) := by
 obtain ⟨c, hc, h1, h2⟩ := scan_some h
 have hv : v ∈ left out c := by rw [h2]; simp
 unfold left at hv
 rw [List.mem_filter] at hv
 have hv1 := hl c hc v hv.1
 have hv2 : v ∉ out := fun hm => by
  have : hit out c = true := List.any_eq_true.2 ⟨v, hv.1, by simpa using hm⟩
  rw [this] at h1; cases h1
 have hv3 : -v ∉ out := fun hm => by
  rw [neg_neg hn hv1] at hv
  simp [hm] at hv
 refine ⟨fun x hx => ?_, ?_⟩
 ·rw [List.mem_append, List.mem_singleton] at hx
  rcases hx with hx | hx
  ·exact ho.1 x hx
  ·rw [hx]; exact hv1
 ·rw [List.pairwise_append]
  refine ⟨ho.2, by simp, fun a ha b hb => ?_⟩
  rw [List.mem_singleton] at hb
  subst hb
  exact ⟨fun e => hv2 (e ▸ ha), fun e => hv3 (e ▸ ha)⟩
def prop (l : List (List Int)) : Nat -> List Int -> List Int × Bool
 | 0, out => (out, false)
 | k + 1, out => match round out l with
  | .inl (o, true) => prop l k o
  | .inl (o, false) => (o, false)
  | .inr r => r
theorem round_inl {out o : List Int} {l : List (List Int)} (h : round out l = .inl (o, true)) : ∃ v, o = out ++ [v] /\ scan out l = some (some v) := by
 unfold round at h
 cases hs : scan out l with
 | none => rw [hs] at h; simp at h
 | some x => cases x with
  | none => rw [hs] at h; simp at h
  | some v => rw [hs] at h; simp at h; exact ⟨v, h.symm, rfl⟩
theorem propImp {n : Int} {l : List (List Int)} (hn : n <= 14) (h : l.length <= 1048576) (h' : ∀ c ∈ l, c.length <= 1048576) (hl : ∀ c ∈ l, Lits n c) : ∀ (k : Nat) (out : List Int), Good n out -> 14 < k + out.length ->
  iter (f96_0 l) out = some (prop l k out) := by
 intro k
 induction k with
 | zero => intro out ho hk; exact absurd (ho.le14 hn) (by omega)
 | succ k ih =>
  intro out ho hk
  have hz := ho.le14 hn
  rw [iter_eq]
  simp only [f96_0]
  rw [roundImp hn h h' hl ho.1 (by omega), bS, prop]
  cases hr : round out l with
  | inl o => obtain ⟨o, b⟩ := o; cases b with
   | false => rfl
   | true =>
    obtain ⟨v, hv, hs⟩ := round_inl hr
    have := ih o (by rw [hv]; exact scan_good hn hl ho hs) (by rw [hv]; simp; omega)
    simpa using this
  | inr r => rfl
theorem propSpec {n : Int} {l : List (List Int)} (hn : n <= 14) (h : l.length <= 1048576) (h' : ∀ c ∈ l, c.length <= 1048576) (hl : ∀ c ∈ l, Lits n c) : ∀ (k : Nat) (out : List Int), Good n out -> 14 < k + out.length ->
  ∃ r, iter (f82_0 l) (out, true) = some r /\ (match r with | .inl o => prop l k out = (o, false) | .inr x => prop l k out = x) := by
 intro k
 induction k with
 | zero => intro out ho hk; exact absurd (ho.le14 hn) (by omega)
 | succ k ih =>
  intro out ho hk
  have hz := ho.le14 hn
  rw [iter_eq]
  simp only [f82_0]
  obtain ⟨r, g1, g2⟩ := roundSpec (out := out) h h' (by omega)
  rw [if_pos trivial, g1, bS, prop]
  cases r with
  | inl o => obtain ⟨o, b⟩ := o; cases b with
   | false =>
    simp only at g2
    rw [g2]
    refine ⟨.inl o, ?_, rfl⟩
    simp only
    rw [iter_eq]
    simp only [f82_0]
    rfl
   | true =>
    simp only at g2
    obtain ⟨v, hv, hs⟩ := round_inl g2
    rw [g2]
    obtain ⟨r, e1, e2⟩ := ih o (by rw [hv]; exact scan_good hn hl ho hs) (by rw [hv]; simp; omega)
    exact ⟨r, e1, e2⟩
  | inr r =>
   obtain ⟨o, b⟩ := r
   simp only at g2
   rw [g2.2]
   exact ⟨_, rfl, rfl⟩
theorem slit_ok {n v : Int} (h0 : 0 <= n) (h1 : n <= 14) : slit n v = true ↔ v ≠ 0 /\ -n <= v /\ v <= n := by
 rw [slit_ilit h0 h1]
 unfold ilit
 have e1 : w64 (-n) = -n := w64_of (by omega)
 rw [e1]; simp
theorem clS_good {n : Int} {c : List Int} (h0 : 0 <= n) (h1 : n <= 14) : clS n c = true ↔ Good n c := by
 unfold clS
 have eg : ∀ i (hi : i < c.length), c.getD i 0 = c[i] := fun i hi => by rw [zD, zE hi]; rfl
 have ek : ((!(List.range c.length).any fun i => !slit n (c.getD i 0) || bef c i) = true) ↔ ∀ i (hi : i < c.length), slit n c[i] = true /\ bef c i = false := by
  rw [Bool.not_eq_true', List.any_eq_false]
  constructor
  ·intro h i hi
   have := h i (by simpa using hi)
   rw [eg i hi] at this
   revert this
   cases slit n c[i] <;> cases bef c i <;> simp
  ·intro h i hi
   rw [List.mem_range] at hi
   have := h i hi
   rw [eg i hi, this.1, this.2]; simp
 rw [ek]
 constructor
 ·intro h
  have hl : Lits n c := fun v hv => by
   obtain ⟨i, hi, rfl⟩ := List.getElem_of_mem hv
   exact (slit_ok h0 h1).1 (h i hi).1
  refine ⟨hl, ?_⟩
  rw [List.pairwise_iff_getElem]
  intro i j hi hj hij
  have h2 := (h j hj).2
  unfold bef at h2
  rw [List.any_eq_false] at h2
  have h3 := h2 c[i] (by rw [List.mem_take_iff_getElem]; exact ⟨i, by omega, rfl⟩)
  rw [eg j hj] at h3
  have e2 : w64 (-c[j]) = -c[j] := neg_neg h1 (hl _ (List.getElem_mem hj))
  rw [e2] at h3
  simpa using h3
 ·intro ⟨hl, hp⟩ i hi
  refine ⟨(slit_ok h0 h1).2 (hl _ (List.getElem_mem hi)), ?_⟩
  unfold bef
  rw [List.any_eq_false]
  intro a ha
  rw [List.mem_take_iff_getElem] at ha
  obtain ⟨k, hk, rfl⟩ := ha
  rw [eg i hi]
  have e2 : w64 (-c[i]) = -c[i] := neg_neg h1 (hl _ (List.getElem_mem hi))
  rw [e2]
  have := (List.pairwise_iff_getElem.1 hp) k i (by omega) hi (by omega)
  simpa using this
theorem negs_good {n : Int} {c : List Int} (h1 : n <= 14) (h : Good n c) : Good n (negs c) := by
 have e : negs c = c.map fun v => -v := by
  unfold negs
  apply List.map_congr_left
  intro v hv
  exact neg_neg h1 (h.1 v hv)
 rw [e]
 refine ⟨fun v hv => ?_, ?_⟩
 ·rw [List.mem_map] at hv
  obtain ⟨a, ha, rfl⟩ := hv
  have := h.1 a ha
  omega
 ·rw [List.pairwise_map]
  exact h.2.imp fun {a b} h => ⟨fun e => h.1 (by omega), fun e => h.2 (by omega)⟩
theorem valid_lits {n : Int} {l : List (List Int)} (h : valid n l = true) : 0 <= n /\ n <= 14 /\ l.length <= 400 /\ ∀ c ∈ l, Good n c := by
 unfold valid at h
 simp only [Bool.and_eq_true, decide_eq_true_eq] at h
 refine ⟨h.2.1.1, h.2.1.2, by omega, fun c hc => ?_⟩
 exact (clS_good h.2.1.1 h.2.1.2).1 (List.all_eq_true.1 h.1 c hc)
def up (n : Int) (l : List (List Int)) (s : List Int) : List Int × Bool := if valid n l = true /\ clS n s = true then prop l 15 s else (s, false)
def rup (n : Int) (l : List (List Int)) (c : List Int) : Bool := if valid n l = true /\ clS n c = true then (prop l 15 (negs c)).2 else false
end
section
theorem prop_good {n : Int} {l : List (List Int)} (hn : n <= 14) (hl : ∀ c ∈ l, Lits n c) : ∀ (k : Nat) (out : List Int), Good n out -> Good n (prop l k out).1 := by
 intro k
 induction k with
 | zero => intro out ho; exact ho
 | succ k ih =>
  intro out ho
  rw [prop]
  cases hr : round out l with
  | inl o =>
   obtain ⟨o, b⟩ := o
   cases b with
   | true =>
    obtain ⟨v, hv, hs⟩ := round_inl hr
    exact ih o (by rw [hv]; exact scan_good hn hl ho hs)
   | false =>
    unfold round at hr
    cases hs : scan out l with
    | none => rw [hs] at hr; simp at hr; exact hr ▸ ho
    | some x => cases x with
     | none => rw [hs] at hr; simp at hr
     | some v => rw [hs] at hr; simp at hr
  | inr r =>
   unfold round at hr
   cases hs : scan out l with
   | none => rw [hs] at hr; simp at hr
   | some x => cases x with
    | none => rw [hs] at hr; simp at hr; rw [<- hr]; exact ho
    | some v => rw [hs] at hr; simp at hr
end
section
def bit (k : Int) (v : Nat) : Bool := decide ((band .i64 (sshr .i64 k (v : Int)) 1) = 1)
def mods (n k : Nat) : List Bool := (List.range n).map (bit (k : Int))
theorem mods_len {n k : Nat} : (mods n k).length = n := by simp [mods]
def count (n : Nat) (l : List (List Int)) : Int := (List.range (2 ^ n)).foldl (fun c k => if sat l (mods n k) = true then w64 (c + 1) else c) 0
end
section
theorem lit_opp {m : List Bool} {v : Int} (h : v ≠ 0 /\ -(m.length : Int) <= v /\ v <= m.length) : lit m (-v) = !lit m v := by
 unfold lit
 by_cases hp : v > 0
 ·rw [if_neg (by omega), if_pos (by omega), if_pos (by omega), if_pos hp, if_pos (by omega), Int.neg_neg]
 ·rw [if_pos (by omega), if_pos (by omega), if_neg hp, if_pos (by omega), if_pos (by omega), Bool.not_not]
def allLit (m : List Bool) (out : List Int) : Bool := out.all (lit m)
theorem left_true {n : Int} {m : List Bool} {out c : List Int} (hm : (m.length : Int) = n) (hn : n <= 14) (hc : Lits n c) (ho : allLit m out = true) (hs : c.any (lit m) = true) : ∃ v ∈ left out c, lit m v = true := by
 obtain ⟨v, hv, hl⟩ := List.any_eq_true.1 hs
 refine ⟨v, ?_, hl⟩
 unfold left
 rw [List.mem_filter]
 refine ⟨hv, ?_⟩
 have h1 := hc v hv
 rw [neg_neg hn h1]
 simp only [Bool.not_eq_true', List.contains_eq_mem, decide_eq_false_iff_not]
 intro hmem
 have := List.all_eq_true.1 ho _ hmem
 rw [lit_opp (by omega), hl] at this
 cases this
theorem scan_true {n : Int} {m : List Bool} {out : List Int} (hm : (m.length : Int) = n) (hn : n <= 14) (ho : allLit m out = true) : ∀ {l : List (List Int)}, (∀ c ∈ l, Lits n c) -> sat l m = true -> scan out l ≠ some none /\ ∀ v, scan out l = some (some v) -> lit m v = true
 | [], _, _ => by simp [scan]
 | c :: l, hl, hs => by
  unfold sat at hs
  rw [List.all_cons, Bool.and_eq_true] at hs
  have ih := scan_true hm hn ho (l := l) (fun d hd => hl d (by simp [hd])) hs.2
  rw [scan]
  by_cases hc : hit out c = true
  ·rw [if_pos hc]; exact ih
  ·rw [if_neg hc]
   obtain ⟨v, hv, hv'⟩ := left_true hm hn (hl c (by simp)) ho hs.1
   cases he : left out c with
   | nil => rw [he] at hv; simp at hv
   | cons w t =>
    cases t with
    | nil =>
     rw [he] at hv
     simp only [List.mem_singleton] at hv
     subst hv
     refine ⟨by simp, fun x hx => ?_⟩
     simp only [zJ] at hx
     rw [<- hx]; exact hv'
    | cons x t => exact ih
theorem prop_true {n : Int} {m : List Bool} {l : List (List Int)} (hm : (m.length : Int) = n) (hn : n <= 14) (hl : ∀ c ∈ l, Lits n c) (hs : sat l m = true) : ∀ (k : Nat) (out : List Int), allLit m out = true -> (prop l k out).2 = false /\ allLit m (prop l k out).1 = true := by
 intro k
 induction k with
 | zero => intro out ho; exact ⟨rfl, ho⟩
 | succ k ih =>
  intro out ho
  have h1 := scan_true hm hn ho hl hs
  rw [prop]
  unfold round
  cases he : scan out l with
  | none => exact ⟨rfl, ho⟩
  | some x => cases x with
   | none => exact absurd he h1.1
   | some v =>
    refine ih (out ++ [v]) ?_
    unfold allLit at ho ⊢
    rw [List.all_append, ho]
    simp [h1.2 v he]
def ones (s : List Int) : List (List Int) := s.map fun v => [v]
end
section
theorem scan_none {out : List Int} : ∀ {l : List (List Int)}, scan out l = none -> ∀ c ∈ l, hit out c = true \/ 2 <= (left out c).length
 | [], _, c, hc => by cases hc
 | d :: l, h, c, hc => by
  rw [scan] at h
  by_cases g : hit out d = true
  ·rw [if_pos g] at h
   rcases List.mem_cons.1 hc with rfl | hc
   ·exact .inl g
   ·exact scan_none h c hc
  ·rw [if_neg g] at h
   split at h
   ·cases h
   ·cases h
   ·rename_i h1 h2
    rcases List.mem_cons.1 hc with rfl | hc
    ·right
     match he : left out c with
     | [] => exact absurd he h1
     | [v] => exact absurd he (h2 v)
     | _ :: _ :: _ => simp
    ·exact scan_none h c hc
theorem prop_calm {n : Int} {l : List (List Int)} (hn : n <= 14) (hl : ∀ c ∈ l, Lits n c) : ∀ (k : Nat) (out : List Int), Good n out -> 14 < k + out.length -> (prop l k out).2 = false -> scan (prop l k out).1 l = none := by
 intro k
 induction k with
 | zero => intro out ho hk _; have := ho.le14 hn; omega
 | succ k ih =>
  intro out ho hk
  rw [prop]
  unfold round
  cases hs : scan out l with
  | none => exact fun _ => hs
  | some x => cases x with
   | none => intro h; cases h
   | some v =>
    intro h
    exact ih (out ++ [v]) (scan_good hn hl ho hs) (by simp; omega) h
theorem prop_keeps {l : List (List Int)} : ∀ (k : Nat) (out : List Int), ∀ v ∈ out, v ∈ (prop l k out).1 := by
 intro k
 induction k with
 | zero => intro out v hv; exact hv
 | succ k ih =>
  intro out v hv
  rw [prop]
  unfold round
  cases hs : scan out l with
  | none => exact hv
  | some x => cases x with
   | none => exact hv
   | some w => exact ih (out ++ [w]) v (List.mem_append_left _ hv)
theorem pw_no : ∀ {o : List Int} {v : Int}, o.Pairwise (fun a b => a ≠ b /\ a ≠ -b) -> v ∈ o -> -v ∈ o -> v = 0
 | [], v, _, h, _ => by cases h
 | a :: t, v, hp, h1, h2 => by
  rw [List.pairwise_cons] at hp
  rcases List.mem_cons.1 h1 with e1 | h1 <;> rcases List.mem_cons.1 h2 with e2 | h2
  ·omega
  ·have := (hp.1 _ h2).2; omega
  ·have := (hp.1 _ h1).2; omega
  ·exact pw_no hp.2 h1 h2
theorem Good.no {n : Int} {o : List Int} {v : Int} (h : Good n o) (h1 : v ∈ o) (h2 : -v ∈ o) : False := by
 have := pw_no h.2 h1 h2
 have := (h.1 v h1).1
 omega
theorem negs_snoc {s : List Int} {w : Int} : negs (s ++ [w]) = negs s ++ [neg w] := by simp [negs]
theorem dbl1 {n : Int} {l : List (List Int)} {s o : List Int} {w : Int} (hn : n <= 14) (ho : Good n o) (hs : ∀ v ∈ s, v ∈ o) (hc : scan o l = none) (hw : w ≠ 0 /\ -n <= w /\ w <= n) (hm : negs (s ++ [w]) ∈ l) : -w ∈ o := by
 rcases scan_none hc _ hm with h | h
 ·obtain ⟨x, hx, h1⟩ := List.any_eq_true.1 h
  rw [List.contains_iff_mem] at h1
  rw [negs_snoc, List.mem_append, List.mem_singleton] at hx
  rcases hx with hx | hx
  ·obtain ⟨y, hy, rfl⟩ := List.mem_map.1 hx
   have hy' := hs y hy
   rw [neg_neg hn (ho.1 y hy')] at h1
   exact (ho.no hy' h1).elim
  ·rw [hx, neg_neg hn hw] at h1; exact h1
 ·exfalso
  rw [negs_snoc] at h
  unfold left at h
  rw [List.filter_append] at h
  have e : (negs s).filter (fun v => !o.contains (neg v)) = [] := by
   rw [List.filter_eq_nil_iff]
   intro x hx
   obtain ⟨y, hy, rfl⟩ := List.mem_map.1 hx
   have hy' := hs y hy
   have h2 := ho.1 y hy'
   rw [neg_neg hn h2, neg_neg hn (by omega), Int.neg_neg]
   simp [hy']
  rw [e, List.nil_append] at h
  have := List.length_filter_le (fun v => !o.contains (neg v)) [neg w]
  simp only [List.length_singleton] at this
  omega
theorem dbl {n : Int} {l : List (List Int)} {s : List Int} {w : Int} (hn : n <= 14) (hl : ∀ c ∈ l, Lits n c) (hs : Good n s) (hw : w ≠ 0 /\ -n <= w /\ w <= n) (h1 : negs (s ++ [w]) ∈ l) (h2 : negs (s ++ [-w]) ∈ l) : (prop l 15 s).2 = true := by
 cases h : (prop l 15 s).2
 ·have hc := prop_calm hn hl 15 s hs (by omega) h
  have ho := prop_good hn hl 15 s hs
  have a := dbl1 hn ho (prop_keeps 15 s) hc hw h1
  have b := dbl1 hn ho (prop_keeps 15 s) hc (w := -w) (by omega) h2
  exact (ho.no a b).elim
 ·rfl
def shut (o : List Int) (i : Nat) : Bool := o.contains ((i : Int) + 1) || o.contains (-((i : Int) + 1))
def openV (n : Nat) (o : List Int) : Option Nat := (List.range n).find? fun i => !shut o i
def wlk (C : List (List Int)) (n : Nat) : Nat -> List (List Int) -> List Int -> Option (List Int) × List (List Int)
 | 0, L, _ => (none, L)
 | k + 1, L, s =>
  if (prop (C ++ L) 15 s).2 = true then (none, L ++ [negs s]) else
  match openV n (prop (C ++ L) 15 s).1 with
  | none => (some (prop (C ++ L) 15 s).1, L)
  | some v => match wlk C n k L (s ++ [(v : Int) + 1]) with
   | (some m, L1) => (some m, L1)
   | (none, L1) => match wlk C n k L1 (s ++ [-((v : Int) + 1)]) with
    | (some m, L2) => (some m, L2)
    | (none, L2) => (none, L2 ++ [negs s])
def Rup (C : List (List Int)) (n : Int) (T : List (List Int)) : Prop := ∀ A c B, T = A ++ c :: B -> Good n c /\ (prop (C ++ A) 15 (negs c)).2 = true
theorem Rup.good {C T : List (List Int)} {n : Int} (h : Rup C n T) : ∀ c ∈ T, Good n c := fun c hc => by
 obtain ⟨A, B, e⟩ := List.append_of_mem hc
 exact (h A c B e).1
theorem Rup.snoc {C T : List (List Int)} {n : Int} {c : List Int} (h : Rup C n T) (hc : Good n c) (hp : (prop (C ++ T) 15 (negs c)).2 = true) : Rup C n (T ++ [c]) := by
 intro A d B e
 rcases List.eq_nil_or_concat B with rfl | ⟨B', x, rfl⟩
 ·have := List.append_inj' e rfl
  obtain ⟨rfl, h2⟩ := this
  simp only [List.cons.injEq, and_true] at h2
  subst h2
  exact ⟨hc, hp⟩
 ·rw [List.concat_eq_append, <- List.cons_append, <- List.append_assoc] at e
  have := List.append_inj' e rfl
  exact h A d B' this.1
theorem negs_negs {n : Int} {s : List Int} (hn : n <= 14) (h : Lits n s) : negs (negs s) = s := by
 unfold negs
 rw [List.map_map]
 conv => rhs; rw [<- List.map_id s]
 refine List.map_congr_left fun v hv => ?_
 have := h v hv
 simp only [Function.comp, id]
 rw [neg_neg hn this, neg_neg hn (by omega), Int.neg_neg]
theorem openV_some {n : Nat} {o : List Int} {v : Nat} (h : openV n o = some v) : v < n /\ (v : Int) + 1 ∉ o /\ -((v : Int) + 1) ∉ o := by
 have h1 := List.find?_some h
 have h2 := List.mem_of_find?_eq_some h
 rw [List.mem_range] at h2
 simp only [shut, Bool.not_eq_true', Bool.or_eq_false_iff] at h1
 refine ⟨h2, fun hm => ?_, fun hm => ?_⟩
 ·rw [<- List.contains_iff_mem, h1.1] at hm; cases hm
 ·rw [<- List.contains_iff_mem, h1.2] at hm; cases hm
theorem openV_none {n : Nat} {o : List Int} (h : openV n o = none) : ∀ i, i < n -> (i : Int) + 1 ∈ o \/ -((i : Int) + 1) ∈ o := fun i hi => by
 unfold openV at h
 rw [List.find?_eq_none] at h
 have := h i (List.mem_range.2 hi)
 simp only [shut, Bool.not_eq_true', Bool.not_eq_false, Bool.or_eq_true, List.contains_iff_mem] at this
 exact this
theorem Good.more {n : Int} {s : List Int} {w : Int} (h : Good n s) (hw : w ≠ 0 /\ -n <= w /\ w <= n) (h1 : w ∉ s) (h2 : -w ∉ s) : Good n (s ++ [w]) := by
 refine ⟨fun x hx => ?_, ?_⟩
 ·rw [List.mem_append, List.mem_singleton] at hx
  rcases hx with hx | hx
  ·exact h.1 x hx
  ·rw [hx]; exact hw
 ·rw [List.pairwise_append]
  refine ⟨h.2, by simp, fun a ha b hb => ?_⟩
  rw [List.mem_singleton] at hb
  subst hb
  exact ⟨fun e => h1 (e ▸ ha), fun e => h2 (e ▸ ha)⟩
structure Srch (C : List (List Int)) (n k : Nat) (L : List (List Int)) (s : List Int) (o : Option (List Int) × List (List Int)) : Prop where
 rup : Rup C n o.2
 ext : ∃ T, o.2 = L ++ T /\ T.length + 1 <= 2 ^ k
 no : o.1 = none -> ∃ T, o.2 = T ++ [negs s]
 yes : ∀ m, o.1 = some m -> Good n m /\ (∀ i, i < n -> (i : Int) + 1 ∈ m \/ -((i : Int) + 1) ∈ m) /\ ∀ c ∈ C, hit m c = true
theorem all_hit {n : Nat} {l : List (List Int)} {o : List Int} (hn : (n : Int) <= 14) (hl : ∀ c ∈ l, Lits n c) (ho : ∀ i, i < n -> (i : Int) + 1 ∈ o \/ -((i : Int) + 1) ∈ o) (hc : scan o l = none) : ∀ c ∈ l, hit o c = true := fun c hm => by
 rcases scan_none hc c hm with h | h
 ·exact h
 ·obtain ⟨x, hx⟩ := List.exists_mem_of_length_pos (l := left o c) (by omega)
  unfold left at hx
  rw [List.mem_filter] at hx
  have hl' := hl c hm x hx.1
  rw [neg_neg hn hl'] at hx
  refine List.any_eq_true.2 ⟨x, hx.1, ?_⟩
  rw [List.contains_iff_mem]
  have h2 : -x ∉ o := fun h => by
   have := hx.2
   rw [<- List.contains_iff_mem] at h
   rw [h] at this; cases this
  rcases Int.lt_or_gt_of_ne hl'.1 with g | g
  ·have := ho (-x - 1).toNat (by omega)
   rw [show ((-x - 1).toNat : Int) + 1 = -x by omega, Int.neg_neg] at this
   exact this.resolve_left h2
  ·have := ho (x - 1).toNat (by omega)
   rw [show ((x - 1).toNat : Int) + 1 = x by omega] at this
   exact this.resolve_right h2
theorem wlk_ok {C : List (List Int)} {n : Nat} (hn : (n : Int) <= 14) (hC : ∀ c ∈ C, Good n c) : ∀ (k : Nat) (L : List (List Int)) (s : List Int), Good n s -> n < k + s.length -> Rup C n L -> Srch C n k L s (wlk C n k L s)
 | 0, L, s, hs, hk, hL => by
  have := hs.len
  rcases this with h | h
  ·omega
  ·subst h; simp at hk
 | k + 1, L, s, hs, hk, hL => by
  have hl : ∀ c ∈ C ++ L, Lits n c := fun c hc => by
   rcases List.mem_append.1 hc with hc | hc
   ·exact (hC c hc).1
   ·exact (hL.good c hc).1
  have hns := negs_good hn hs
  have hnn := negs_negs hn hs.1
  have h2 : 2 <= 2 ^ (k + 1) := by have := Nat.one_le_two_pow (n := k); omega
  rw [wlk]
  by_cases hc : (prop (C ++ L) 15 s).2 = true
  ·rw [if_pos hc]
   exact ⟨hL.snoc hns (by rw [hnn]; exact hc), ⟨_, rfl, by simp only [List.length_singleton]; omega⟩, fun _ => ⟨L, rfl⟩, fun m h => (by cases h)⟩
  ·rw [if_neg hc]
   simp only [Bool.not_eq_true] at hc
   have calm := prop_calm hn hl 15 s hs (by omega) hc
   have good := prop_good hn hl 15 s hs
   cases hv : openV n (prop (C ++ L) 15 s).1 with
   | none =>
    dsimp only
    have ho := openV_none hv
    exact ⟨hL, ⟨[], by simp, by simp; omega⟩, fun h => by simp at h, fun m h => by
     simp only [zJ] at h
     subst h
     exact ⟨good, ho, fun c hcc => all_hit hn hl ho calm c (List.mem_append_left _ hcc)⟩⟩
   | some v =>
    dsimp only
    obtain ⟨v1, v2, v3⟩ := openV_some hv
    have w2 : (v : Int) + 1 ∉ s := fun h => v2 (prop_keeps 15 s _ h)
    have w3 : -((v : Int) + 1) ∉ s := fun h => v3 (prop_keeps 15 s _ h)
    have hw : (v : Int) + 1 ≠ 0 /\ -(n : Int) <= (v : Int) + 1 /\ (v : Int) + 1 <= n := by omega
    have g1 := wlk_ok hn hC k L _ (hs.more hw w2 w3) (by simp; omega) hL
    cases e1 : wlk C n k L (s ++ [(v : Int) + 1]) with
    | mk o1 L1 =>
    rw [e1] at g1
    obtain ⟨r1, ⟨T1, x1, z1⟩, n1, y1⟩ := g1
    simp only at r1 x1 n1 y1
    cases o1 with
    | some m => exact ⟨r1, ⟨T1, x1, by rw [Nat.pow_succ]; omega⟩, fun h => (by cases h), fun m' h => y1 m' h⟩
    | none =>
     dsimp only
     have g2 := wlk_ok hn hC k L1 _ (hs.more (w := -((v : Int) + 1)) (by omega) w3 (by rw [Int.neg_neg]; exact w2)) (by simp; omega) r1
     cases e2 : wlk C n k L1 (s ++ [-((v : Int) + 1)]) with
     | mk o2 L2 =>
     rw [e2] at g2
     obtain ⟨r2, ⟨T2, x2, z2⟩, n2, y2⟩ := g2
     simp only at r2 x2 n2 y2
     cases o2 with
     | some m => exact ⟨r2, ⟨T1 ++ T2, by rw [x2, x1, List.append_assoc], by rw [Nat.pow_succ]; simp; omega⟩, fun h => (by cases h), fun m' h => y2 m' h⟩
     | none =>
      dsimp only
      obtain ⟨A1, a1⟩ := n1 rfl
      obtain ⟨A2, a2⟩ := n2 rfl
      have hl2 : ∀ c ∈ C ++ L2, Lits n c := fun c hc => by
       rcases List.mem_append.1 hc with hc | hc
       ·exact (hC c hc).1
       ·exact (r2.good c hc).1
      have conf := dbl hn hl2 hs hw (List.mem_append_right _ (by rw [x2, a1]; simp)) (List.mem_append_right _ (by rw [a2]; simp))
      refine ⟨r2.snoc hns (by rw [hnn]; exact conf), ⟨T1 ++ T2 ++ [negs s], ?_, ?_⟩, fun _ => ⟨L2, rfl⟩, fun m h => (by cases h)⟩
      ·show L2 ++ [negs s] = _
       rw [x2, x1]; simp only [List.append_assoc]
      ·rw [Nat.pow_succ]; simp; omega
end
section
def follows : List (List Int) -> List (List Int) -> Bool
 | known, [] => true
 | known, c :: ps => (prop known 15 (negs c)).2 && follows (known ++ [c]) ps
def lastNil (p : List (List Int)) : Bool := decide ((p.getD (p.length - 1) []).length = 0)
def proofOk (n : Int) (l p : List (List Int)) : Bool := valid n l && (decide (p.length ≠ 0) && lastNil p) && (p.all (clS n) && follows l p)
end
section
def mdl (n : Nat) (o : List Int) : List Bool := (List.range n).map fun (i : Nat) => o.contains (((i : Nat) : Int) + 1)
theorem mdl_len {n : Nat} {o : List Int} : (mdl n o).length = n := by simp [mdl]
theorem mdl_get {n : Nat} {o : List Int} {v : Int} (h : 1 <= v /\ v <= n) : (mdl n o)[(v - 1).toNat]?.getD false = o.contains v := by
 have hi : (v - 1).toNat < (mdl n o).length := by rw [mdl_len]; omega
 rw [zE hi]
 simp only [mdl, List.getElem_map, List.getElem_range, Option.getD_some]
 rw [show ((v - 1).toNat : Int) + 1 = v by omega]
theorem mdl_lit {n : Nat} {o : List Int} {v : Int} (ho : Good n o) (hv : v ∈ o) : lit (mdl n o) v = true := by
 have h1 := ho.1 v hv
 unfold lit
 rw [mdl_len]
 by_cases c : v > 0
 ·rw [if_pos c, if_pos (by omega), mdl_get (by omega), List.contains_iff_mem]; exact hv
 ·rw [if_neg c, if_pos (by omega), if_pos (by omega), mdl_get (by omega)]
  cases hc : o.contains (-v)
  ·rfl
  ·rw [List.contains_iff_mem] at hc; exact (ho.no hv hc).elim
theorem mdl_sat {n : Nat} {o : List Int} {l : List (List Int)} (ho : Good n o) (h : ∀ c ∈ l, hit o c = true) : sat l (mdl n o) = true := by
 unfold sat
 rw [List.all_eq_true]
 intro c hc
 obtain ⟨v, hv, hm⟩ := List.any_eq_true.1 (h c hc)
 rw [List.contains_iff_mem] at hm
 exact List.any_eq_true.2 ⟨v, hv, mdl_lit ho hm⟩
theorem bit_eq {k v : Nat} (hk : k <= 16384) (hv : v <= 14) : bit (k : Int) v = decide (k / 2 ^ v % 2 = 1) := by
 unfold bit sshr band
 have e1 : ((k : Int).fdiv (2 ^ (min ((v : Int)).toNat IntKind.i64.bits))) = ((k / 2 ^ v : Nat) : Int) := by
  rw [show min ((v : Int)).toNat IntKind.i64.bits = v by simp [IntKind.bits]; omega, Int.fdiv_eq_ediv_of_nonneg _ (by exact_mod_cast Nat.zero_le _)]
  norm_cast
 rw [e1]
 have e2 : (BitVec.ofInt IntKind.i64.bits ((k / 2 ^ v : Nat) : Int) &&& BitVec.ofInt IntKind.i64.bits 1).toNat = k / 2 ^ v % 2 := by
  have hb : k / 2 ^ v <= k := Nat.div_le_self _ _
  have : ((1 : Int)) = ((1 : Nat) : Int) := rfl
  rw [this, BitVec.ofInt_natCast, BitVec.ofInt_natCast, BitVec.toNat_and, BitVec.toNat_ofNat, BitVec.toNat_ofNat]
  rw [show (1 : Nat) % 2 ^ IntKind.i64.bits = 1 by simp [IntKind.bits], Nat.and_one_is_mod, Nat.mod_eq_of_lt (a := k / 2 ^ v) (by simp [IntKind.bits]; omega)]
 rw [e2]
 have := w64_of (n := ((k / 2 ^ v % 2 : Nat) : Int)) (by omega)
 rw [show IntKind.i64.wrap ((k / 2 ^ v % 2 : Nat) : Int) = ((k / 2 ^ v % 2 : Nat) : Int) from this]
 congr 1
 exact propext (by omega)
theorem num_of : ∀ m : List Bool, ∃ k, k < 2 ^ m.length /\ ∀ v (h : v < m.length), decide (k / 2 ^ v % 2 = 1) = m[v]
 | [] => ⟨0, by simp, fun v h => by simp at h⟩
 | b :: m => by
  obtain ⟨k, h1, h2⟩ := num_of m
  refine ⟨2 * k + b.toNat, ?_, fun v h => ?_⟩
  ·rw [List.length_cons, Nat.pow_succ]; cases b <;> simp <;> omega
  ·cases v with
   | zero => cases b <;> simp <;> omega
   | succ v =>
    rw [List.getElem_cons_succ, <- h2 v (by simpa using h), Nat.pow_succ, Nat.mul_comm (2 ^ v) 2, <- Nat.div_div_eq_div_mul, show (2 * k + b.toNat) / 2 = k by cases b <;> simp <;> omega]
theorem mods_all {n : Nat} {m : List Bool} (hn : n <= 14) (hm : m.length = n) : ∃ k, k < 2 ^ n /\ mods n k = m := by
 obtain ⟨k, h1, h2⟩ := num_of m
 rw [hm] at h1
 have := Nat.pow_le_pow_right (n := 2) (by omega) hn
 refine ⟨k, h1, List.ext_getElem (by rw [mods_len, hm]) fun v g1 g2 => ?_⟩
 simp only [mods, List.getElem_map, List.getElem_range]
 rw [bit_eq (by omega) (by omega), h2 v g2]
theorem count_eq {n : Nat} {l : List (List Int)} (hn : n <= 14) : count n l = ((List.range (2 ^ n)).countP fun k => sat l (mods n k) : Nat) := by
 have g : ∀ (L : List Nat) (c : Nat), c + L.length <= 1048576 -> L.foldl (fun c k => if sat l (mods n k) = true then w64 (c + 1) else c) (c : Int) = ((c + L.countP fun k => sat l (mods n k) : Nat) : Int) := by
  intro L
  induction L with
  | nil => intro c _; simp
  | cons a L ih =>
   intro c hc
   rw [List.length_cons] at hc
   rw [List.foldl_cons, List.countP_cons]
   by_cases h : sat l (mods n a) = true
   ·rw [if_pos h, if_pos h, w64_succ (by omega), ih (c + 1) (by omega)]; congr 1; omega
   ·rw [if_neg h, if_neg h, ih c (by omega)]; rfl
 have := Nat.pow_le_pow_right (n := 2) (by omega) hn
 unfold count
 have := g (List.range (2 ^ n)) 0 (by simp; omega)
 simpa using this
theorem count_pos {n : Nat} {l : List (List Int)} {m : List Bool} (hn : n <= 14) (hm : m.length = n) (hs : sat l m = true) : 0 < count n l := by
 rw [count_eq hn]
 obtain ⟨k, h1, h2⟩ := mods_all hn hm
 have : 0 < (List.range (2 ^ n)).countP fun k => sat l (mods n k) := by
  rw [List.countP_pos_iff]
  exact ⟨k, List.mem_range.2 h1, by rw [h2]; exact hs⟩
 omega
theorem count_zero {n : Nat} {l : List (List Int)} (hn : n <= 14) (hs : ∀ m : List Bool, m.length = n -> sat l m = false) : count n l = 0 := by
 rw [count_eq hn]
 have : ((List.range (2 ^ n)).countP fun k => sat l (mods n k)) = 0 := by
  rw [List.countP_eq_zero]
  intro k _
  rw [hs _ mods_len]; simp
 omega
theorem sat_snoc {l : List (List Int)} {c : List Int} {m : List Bool} : sat (l ++ [c]) m = (sat l m && sat [c] m) := by unfold sat; rw [List.all_append]
theorem rup_sat {C : List (List Int)} {n : Nat} {m : List Bool} (hn : (n : Int) <= 14) (hC : ∀ c ∈ C, Good n c) (hm : m.length = n) (hs : sat C m = true) : ∀ (T A : List (List Int)), Rup C n (A ++ T) -> sat (C ++ A) m = true -> sat (C ++ A ++ T) m = true
 | [], A, _, h => by rwa [List.append_nil]
 | c :: T, A, hR, h => by
  obtain ⟨hg, hp⟩ := hR A c T rfl
  have hl : ∀ d ∈ C ++ A, Lits n d := fun d hd => by
   rcases List.mem_append.1 hd with hd | hd
   ·exact (hC d hd).1
   ·exact (hR.good d (List.mem_append_left _ hd)).1
  have h1 : sat [c] m = true := by
   cases hc : sat [c] m
   ·exfalso
    have hall : allLit m (negs c) = true := by
     unfold allLit negs
     rw [List.all_map, List.all_eq_true]
     intro v hv
     have h4 := hg.1 v hv
     have h5 : lit m v = false := by
      simp only [sat, List.all_cons, List.all_nil, Bool.and_true] at hc
      rw [List.any_eq_false] at hc
      simpa using hc v hv
     simp only [Function.comp]
     rw [neg_neg hn h4, lit_opp (by omega), h5]; rfl
    have := (prop_true (by omega) hn hl h 15 (negs c) hall).1
    rw [this] at hp; cases hp
   ·rfl
  have := rup_sat hn hC hm hs T (A ++ [c]) (by simpa using hR) (by rw [<- List.append_assoc, sat_snoc, h, h1]; rfl)
  simpa using this
theorem follows_rup {C : List (List Int)} {n : Int} : ∀ (T A : List (List Int)), Rup C n (A ++ T) -> follows (C ++ A) T = true
 | [], A, h => rfl
 | c :: T, A, h => by
  rw [follows, (h A c T rfl).2, Bool.true_and, List.append_assoc]
  exact follows_rup T (A ++ [c]) (by simpa using h)
def sol (C : List (List Int)) (n : Nat) : Option (List Int) × List (List Int) := wlk C n (n + 1) [] []
theorem sol_ok {C : List (List Int)} {n : Nat} (hn : (n : Int) <= 14) (hC : ∀ c ∈ C, Good n c) : Srch C n (n + 1) [] [] (sol C n) :=
 wlk_ok hn hC (n + 1) [] [] ⟨fun _ h => by (cases h), List.Pairwise.nil⟩ (by simp) fun A c B e => by
  have := congrArg List.length e
  simp at this
theorem sol_unsat {C : List (List Int)} {n : Nat} (hv : valid n C = true) (h : (sol C n).1 = none) : ∀ m : List Bool, m.length = n -> sat C m = false := fun m hm => by
 obtain ⟨h0, hn, h2, hC⟩ := valid_lits hv
 have S := sol_ok hn hC
 obtain ⟨T, e⟩ := S.no h
 have e' : (sol C n).2 = T ++ [[]] := e
 cases hs : sat C m
 ·rfl
 ·have := rup_sat hn hC hm hs (sol C n).2 [] S.rup (by simpa using hs)
  rw [e', <- List.append_assoc, sat_snoc] at this
  simp [sat] at this
theorem sol_no {C : List (List Int)} {n : Nat} (hv : valid n C = true) (h : (sol C n).1 = none) : proofOk n C (sol C n).2 = true /\ count n C = 0 /\ (sol C n).2.length <= 32767 := by
 obtain ⟨h0, hn, h2, hC⟩ := valid_lits hv
 have S := sol_ok hn hC
 obtain ⟨T, e⟩ := S.no h
 have R := S.rup
 obtain ⟨T', x, z⟩ := S.ext
 have p2 := Nat.pow_le_pow_right (n := 2) (by omega) (show n + 1 <= 15 by omega)
 have len : (sol C n).2.length = T'.length := by rw [x, List.nil_append]
 have e' : (sol C n).2 = T ++ [[]] := e
 refine ⟨?_, ?_, by omega⟩
 ·unfold proofOk lastNil
  rw [hv]
  simp only [Bool.true_and, Bool.and_eq_true, decide_eq_true_eq]
  refine ⟨⟨by rw [e']; simp, by rw [e']; simp⟩, List.all_eq_true.2 fun c hc => (clS_good h0 hn).2 (R.good c hc), ?_⟩
  have := follows_rup (C := C) (sol C n).2 [] R
  rwa [List.append_nil] at this
 ·exact count_zero (by omega) (sol_unsat hv h)
theorem sol_yes {C : List (List Int)} {n : Nat} {o : List Int} (hv : valid n C = true) (h : (sol C n).1 = some o) : sat C (mdl n o) = true /\ 0 < count n C /\ Good n o := by
 obtain ⟨h0, hn, h2, hC⟩ := valid_lits hv
 obtain ⟨g, _, hh⟩ := (sol_ok hn hC).yes o h
 have := mdl_sat g hh
 exact ⟨this, count_pos (by omega) mdl_len this, g⟩
end
section
theorem flatL_take {L : List (List (List Int))} {i : Nat} : (L.take i).flatten.length <= L.flatten.length := by
 conv => rhs; rw [<- List.take_append_drop i L, List.flatten_append, List.length_append]
 omega
theorem concatL {L : List (List (List Int))} (hL : L.length <= 1048576) (h : L.flatten.length <= 1048576) : f97 L = some L.flatten := by
 unfold f97
 have q : ∀ i (hi : i < L.length), (L.take (i + 1)).flatten = (L.take i).flatten ++ L[i] := fun i hi => by rw [take_succ' hi, List.flatten_append]; simp
 have h1 := iter_steps (f := f97_0 L) (fun i => (((L.take i).flatten.length : Int), (i : Int))) L.length (L.flatten.length : Int) (fun i hi => by
  have e := congrArg List.length (q i hi)
  rw [List.length_append] at e
  have b := flatL_take (L := L) (i := i + 1)
  simp only [f97_0]
  rw [if_pos (by omega), ix_nat hi, bS, w64_succ (by omega), w64_of (by omega), if_neg (by omega), bS, e]
  rw [Int.natCast_add (List.take i L).flatten.length]) (by
  simp only [f97_0]
  rw [if_neg (by omega), List.take_of_length_le (Nat.le_refl _)])
 simp only [List.take_zero, List.flatten_nil, List.length_nil, Int.natCast_zero, Int.ofNat_zero] at h1
 erw [h1]
 rw [bS]
 unfold f130 growN
 rw [if_pos ⟨by omega, by unfold room; omega⟩, bS]
 have h2 := iter_steps (f := f97_1 L) (fun i => (L.flatten.length - (L.take i).flatten.length, (L.take i).flatten, (i : Int))) L.length (0, L.flatten) (fun i hi => by
  have e := congrArg List.length (q i hi)
  rw [List.length_append] at e
  have b := flatL_take (L := L) (i := i + 1)
  simp only [f97_1]
  rw [if_pos (by omega), ix_nat hi, bS, w64_succ (by omega)]
  unfold apps
  rw [if_pos ⟨by omega, by unfold room; omega⟩, bS, q i hi]
  simp only [List.length_append]
  rw [Nat.sub_sub]) (by
  simp only [f97_1]
  rw [if_neg (by omega), List.take_of_length_le (Nat.le_refl _), Nat.sub_self])
 simp only [List.take_zero, List.flatten_nil, List.length_nil, Nat.sub_zero, Int.natCast_zero, Int.ofNat_zero] at h2
 rw [Int.toNat_natCast]
 erw [h2]
 simp [nsk]
theorem propS {n : Int} {known : List (List Int)} {s : List Int} (hn : n <= 14) (hk : known.length <= 1048576) (hg : ∀ d ∈ known, Good n d) (hs : Good n s) : f96 known s = some (prop known 15 s) := by
 have hl := hs.le14 hn
 unfold f96
 rw [app_fits (by simp only [List.length_nil]; omega), List.nil_append, bS]
 rw [propImp hn hk (fun d hd => by have := (hg d hd).le14 hn; omega) (fun d hd => (hg d hd).1) 15 s hs (by omega)]
 rfl
theorem unitsS {n : Int} {known : List (List Int)} {s : List Int} (hn : n <= 14) (hk : known.length <= 1048576) (hg : ∀ d ∈ known, Good n d) (hs : Good n s) : f82 known s = some (prop known 15 s) := by
 have hl := hs.le14 hn
 unfold f82
 rw [app_fits (by simp only [List.length_nil]; omega), List.nil_append, bS]
 obtain ⟨r, e1, e2⟩ := propSpec hn hk (fun d hd => by have := (hg d hd).le14 hn; omega) (fun d hd => (hg d hd).1) 15 s hs (by omega)
 rw [e1, bS]
 cases r with
 | inl o => simp only at e2; rw [e2]
 | inr x => simp only at e2; rw [e2]
theorem negN {i : Nat} (h : i <= 14) : w64 (-((i : Int) + 1)) = -((i : Int) + 1) := w64_of (by omega)
theorem up_open {ρ : Type} {n : Nat} {o : List Int} {f : Int -> Option (Int ⊕ (Unit ⊕ ρ))} {R : ρ -> Prop} (hn : n <= 14) (he : f ((n : Int) + 1) = some (.inr (.inl ())))
  (hs : ∀ i, i < n -> shut o i = true -> f ((i : Int) + 1) = some (.inl ((i : Int) + 2))) (ho : ∀ i, i < n -> shut o i = false -> openV n o = some i -> Ens (f ((i : Int) + 1)) fun z => ∃ r, z = .inr (.inr r) /\ R r) :
  Ens (iter f 1) fun z => match openV n o with | none => z = .inl () | some _ => ∃ r, z = .inr r /\ R r := by
 refine iter_up (f := f) n (fun i s => s = (i : Int) + 1 /\ ∀ j, j < i -> shut o j = true) _ (fun i s hi ⟨s1, s2⟩ => ?_) (fun s ⟨s1, s2⟩ => ?_) _ ⟨rfl, fun j hj => by omega⟩
 ·subst s1
  cases h : shut o i
  ·have hv : openV n o = some i := by
    unfold openV
    rw [List.find?_eq_some_iff_getElem]
    refine ⟨by simp [h], i, by simpa using hi, by simp, fun j hj => ?_⟩
    simp [s2 j hj]
   obtain ⟨z, e, r, rfl, hr⟩ := ho i hi h hv
   exact ⟨_, e, by rw [hv]; exact ⟨r, rfl, hr⟩⟩
  ·refine ⟨_, hs i hi h, by omega, fun j hj => ?_⟩
   by_cases e : j = i
   ·subst e; exact h
   ·exact s2 j (by omega)
 ·subst s1
  refine ⟨_, he, ?_⟩
  have : openV n o = none := by
   unfold openV
   rw [List.find?_eq_none]
   intro k hk
   rw [List.mem_range] at hk
   simp [s2 k hk]
  rw [this]
section
variable {C : List (List Int)} {n : Nat}
theorem learnImp {L : List (List Int)} {s : List Int} (hL : L.length <= 1000000) (hs : s.length <= 14) : f98 ⟨n, C, L⟩ s = some ((), ⟨n, C, L ++ [negs s]⟩) := by
 unfold f98
 rw [negImp (by omega), bS, app_fits (by simp; omega)]; rfl
theorem learnSpec {L P : List (List Int)} {M : List Bool} {s : List Int} (hL : L.length <= 1000000) (hP : P.length <= 1000000) (hs : s.length <= 14) : f83 ⟨n, L, P, M⟩ s = some ⟨n, L ++ [negs s], P ++ [negs s], M⟩ := by
 unfold f83
 rw [negSpec (by omega), bS, app_fits (by simp; omega), bS, app_fits (by simp; omega)]; rfl
theorem rup_all (hC : ∀ c ∈ C, Good n c) {L : List (List Int)} (hL : Rup C n L) : ∀ d ∈ C ++ L, Good n d := fun d hd => by
 rcases List.mem_append.1 hd with hd | hd
 ·exact hC d hd
 ·exact hL.good d hd
theorem twoImp {rec : Solver -> List Int -> Option (Option (List Int) × Solver)} {k : Nat} {s : List Int} {v : Int} {L : List (List Int)} (hn : n <= 14) (hC : ∀ c ∈ C, Good n c) (h1 : Good n (s ++ [v])) (h2 : Good n (s ++ [-v])) (hk : n < k + s.length + 1) (hL : Rup C n L) (hz : L.length + 2 ^ k * 2 <= 1000000)
  (ih : ∀ (L : List (List Int)) (s : List Int), Good n s -> n < k + s.length -> Rup C n L -> L.length + 2 ^ k <= 1000000 -> rec ⟨n, C, L⟩ s = some ((wlk C n k L s).1, ⟨n, C, (wlk C n k L s).2⟩)) :
  iter (f65_1 s rec [v, -v]) (⟨n, C, L⟩, 0) = some (match wlk C n k L (s ++ [v]) with
   | (some m, L1) => .inr (m, ⟨n, C, L1⟩)
   | (none, L1) => match wlk C n k L1 (s ++ [-v]) with
    | (some m, L2) => .inr (m, ⟨n, C, L2⟩)
    | (none, L2) => .inl ⟨n, C, L2⟩) := by
 have hn' : (n : Int) <= 14 := by omega
 have z1 := h1.le14 hn'
 rw [List.length_append, List.length_singleton] at z1
 have cl : f99 s = some s := by
  unfold f99
  rw [app_fits (by simp; omega)]; rfl
 have i0 : ix [v, -v] 0 = some v := rfl
 have i1 : ix [v, -v] 1 = some (-v) := rfl
 rw [iter_eq]
 simp only [f65_1]
 rw [if_pos (by simp), i0, bS, cl, bS, app_fits (by simp; omega), bS, ih L _ h1 (by simp; omega) hL (by omega), bS]
 have g1 := wlk_ok hn' hC k L _ h1 (by simp; omega) hL
 cases e1 : wlk C n k L (s ++ [v]) with
 | mk o1 L1 =>
 rw [e1] at g1
 obtain ⟨r1, ⟨T1, x1, y1⟩, _, _⟩ := g1
 simp only at r1 x1
 have l1 := congrArg List.length x1
 rw [List.length_append] at l1
 cases o1 with
 | some m => rfl
 | none =>
  simp only [om]
  rw [show w64 (0 + 1) = 1 from rfl, iter_eq]
  simp only [f65_1]
  rw [if_pos (by simp), i1, bS, cl, bS, app_fits (by simp; omega), bS, ih L1 _ h2 (by simp; omega) r1 (by omega), bS]
  cases e2 : wlk C n k L1 (s ++ [-v]) with
  | mk o2 L2 =>
  cases o2 with
  | some m => rfl
  | none =>
   simp only [om]
   rw [show w64 (1 + 1) = 2 from rfl, iter_eq]
   simp only [f65_1]
   rw [if_neg (by simp)]
theorem srchImp (hn : n <= 14) (hC : ∀ c ∈ C, Good n c) (hc : C.length <= 400) : ∀ (k K : Nat) (L : List (List Int)) (s : List Int), k <= K -> Good n s -> n < k + s.length -> Rup C n L -> L.length + 2 ^ k <= 1000000 -> f65 K ⟨n, C, L⟩ s = some ((wlk C n k L s).1, ⟨n, C, (wlk C n k L s).2⟩)
 | 0, K, L, s, hK, hs, hk, hL, hz => by
  rcases hs.len with h | h
  ·omega
  ·subst h; simp at hk
 | k + 1, 0, L, s, hK, hs, hk, hL, hz => by omega
 | k + 1, K + 1, L, s, hK, hs, hk, hL, hz => by
  have hn' : (n : Int) <= 14 := by omega
  have hz1 := hs.le14 hn'
  rw [Nat.pow_succ] at hz
  have hall := rup_all hC hL
  have hl : ∀ c ∈ C ++ L, Lits n c := fun c hc => (hall c hc).1
  rw [f65, wlk]
  dsimp only
  rw [concatL (by simp) (by simp; omega), bS, show [C, L].flatten = C ++ L by simp, propS hn' (by simp; omega) hall hs, bS, bS]
  by_cases hp : (prop (C ++ L) 15 s).2 = true
  ·rw [if_pos hp, if_pos hp, learnImp (by omega) (by omega)]; rfl
  rw [if_neg hp, if_neg hp]
  have hg := prop_good hn' hl 15 s hs
  have hg14 := hg.le14 hn'
  have hkeep := prop_keeps (l := C ++ L) 15 s
  have two : ∀ v : Nat, openV n (prop (C ++ L) 15 s).1 = some v -> Good n (s ++ [(v : Int) + 1]) /\ Good n (s ++ [-((v : Int) + 1)]) := fun v hv => by
   obtain ⟨v1, v2, v3⟩ := openV_some hv
   have w2 : (v : Int) + 1 ∉ s := fun h => v2 (hkeep _ h)
   have w3 : -((v : Int) + 1) ∉ s := fun h => v3 (hkeep _ h)
   exact ⟨hs.more (w := (v : Int) + 1) (by omega) w2 w3, hs.more (w := -((v : Int) + 1)) (by omega) w3 (by rw [Int.neg_neg]; exact w2)⟩
  obtain ⟨z, ez, hz'⟩ := up_open (n := n) (o := (prop (C ++ L) 15 s).1) (f := f65_0 ⟨n, C, L⟩ s (f65 K) (prop (C ++ L) 15 s))
   (R := fun r => ∀ v, openV n (prop (C ++ L) 15 s).1 = some v -> r = (match wlk C n k L (s ++ [(v : Int) + 1]) with
    | (some m, L1) => (some m, ⟨n, C, L1⟩)
    | (none, L1) => match wlk C n k L1 (s ++ [-((v : Int) + 1)]) with
     | (some m, L2) => (some m, ⟨n, C, L2⟩)
     | (none, L2) => (none, ⟨n, C, L2 ++ [negs s]⟩) : Option (List Int) × Solver)) hn (by
   simp only [f65_0]
   rw [if_neg (by omega)]) (fun i hi h => by
   simp only [f65_0]
   rw [if_pos (by omega), containsI (by omega), bS, negN (by omega), containsI (by omega), w64_of (by omega)]
   unfold shut at h
   cases hh : (prop (C ++ L) 15 s).1.contains ((i : Int) + 1)
   ·rw [hh, Bool.false_or] at h
    rw [h]; simp; omega
   ·simp; omega) (fun i hi h hv => by
   obtain ⟨g1, g2⟩ := two i hv
   have e := twoImp (rec := f65 K) hn hC g1 g2 (by omega) hL (by omega) fun L s a b c d => srchImp hn hC hc k K L s (by omega) a b c d
   simp only [f65_0]
   rw [if_pos (by omega), containsI (by omega), bS, negN (by omega), containsI (by omega)]
   unfold shut at h
   rw [Bool.or_eq_false_iff] at h
   rw [h.1, h.2, if_neg (by simp), bS, bS, if_neg (by simp), e]
   have k1 := wlk_ok hn' hC k L _ g1 (by simp; omega) hL
   cases e1 : wlk C n k L (s ++ [(i : Int) + 1]) with
   | mk o1 L1 =>
   rw [e1] at k1
   obtain ⟨r1, ⟨T1, x1, y1⟩, _, _⟩ := k1
   simp only at r1 x1
   have l1 := congrArg List.length x1
   rw [List.length_append] at l1
   cases o1 with
   | some m => exact ⟨_, rfl, _, rfl, fun v hv' => by rw [hv, zJ] at hv'; subst hv'; rw [e1]⟩
   | none =>
    dsimp only
    have k2 := wlk_ok hn' hC k L1 _ g2 (by simp; omega) r1
    cases e2 : wlk C n k L1 (s ++ [-((i : Int) + 1)]) with
    | mk o2 L2 =>
    rw [e2] at k2
    obtain ⟨r2, ⟨T2, x2, y2⟩, _, _⟩ := k2
    simp only at r2 x2
    have l2 := congrArg List.length x2
    rw [List.length_append] at l2
    cases o2 with
    | some m => exact ⟨_, rfl, _, rfl, fun v hv' => by rw [hv, zJ] at hv'; subst hv'; rw [e1]; simp only [e2]⟩
    | none =>
     simp only [bS]
     rw [learnImp (by omega) (by omega), bS]
     exact ⟨_, rfl, _, rfl, fun v hv' => by rw [hv, zJ] at hv'; subst hv'; rw [e1]; simp only [e2]⟩)
  rw [ez, bS]
  cases hv : openV n (prop (C ++ L) 15 s).1 with
  | none => rw [hv] at hz'; subst hz'; rfl
  | some v =>
   rw [hv] at hz'
   obtain ⟨r, rfl, hr⟩ := hz'
   have := hr v rfl
   dsimp only
   rw [this]
   cases e1 : wlk C n k L (s ++ [(v : Int) + 1]) with
   | mk o1 L1 =>
   cases o1 with
   | some m => rfl
   | none =>
    dsimp only
    cases e2 : wlk C n k L1 (s ++ [-((v : Int) + 1)]) with
    | mk o2 L2 =>
    cases o2 with
    | some m => rfl
    | none => rfl
theorem modelSpec {l p : List (List Int)} {o : List Int} (hn : n <= 14) (ho : o.length <= 14) {b : Bool} : iter (f52_1 (o, b)) ((n : Int), l, p, [], 1) = some ((n : Int), l, p, mdl n o) := by
 have := iter_steps (f := f52_1 (o, b)) (fun i => ((n : Int), l, p, mdl i o, (i : Int) + 1)) n ((n : Int), l, p, mdl n o) (fun i hi => by
  have e : mdl (i + 1) o = mdl i o ++ [o.contains ((i : Int) + 1)] := by
   unfold mdl
   rw [List.range_succ, List.map_append]; rfl
  have hl := mdl_len (n := i) (o := o)
  simp only [f52_1]
  rw [if_pos (by omega), hasI (by omega), bS, app_fits (by simp; omega), bS, w64_of (by omega), e]
  rw [show ((i + 1 : Nat) : Int) + 1 = (i : Int) + 1 + 1 by omega]) (by
  simp only [f52_1]
  rw [if_neg (by omega)])
 exact this
theorem walkSpec (hn : n <= 14) (hC : ∀ c ∈ C, Good n c) (hc : C.length <= 400) : ∀ (k K : Nat) (L : List (List Int)) (s : List Int), k <= K -> Good n s -> n < k + s.length -> Rup C n L -> L.length + 2 ^ k <= 900000 -> f52 K ⟨n, C ++ L, L, []⟩ s = some (match wlk C n k L s with
   | (some m, L1) => (true, ⟨n, C ++ L1, L1, mdl n m⟩)
   | (none, L1) => (false, ⟨n, C ++ L1, L1, []⟩))
 | 0, K, L, s, hK, hs, hk, hL, hz => by
  rcases hs.len with h | h
  ·omega
  ·subst h; simp at hk
 | k + 1, 0, L, s, hK, hs, hk, hL, hz => by omega
 | k + 1, K + 1, L, s, hK, hs, hk, hL, hz => by
  have hn' : (n : Int) <= 14 := by omega
  have hz1 := hs.le14 hn'
  rw [Nat.pow_succ] at hz
  have hall := rup_all hC hL
  have hl : ∀ c ∈ C ++ L, Lits n c := fun c hc => (hall c hc).1
  rw [f52, wlk]
  dsimp only
  rw [unitsS hn' (by simp; omega) hall hs, bS]
  by_cases hp : (prop (C ++ L) 15 s).2 = true
  ·rw [if_pos hp, if_pos hp, learnSpec (by simp; omega) (by omega) (by omega), bS]
   simp
  rw [if_neg hp, if_neg hp]
  have hg := prop_good hn' hl 15 s hs
  have hg14 := hg.le14 hn'
  have hkeep := prop_keeps (l := C ++ L) 15 s
  have two : ∀ v : Nat, openV n (prop (C ++ L) 15 s).1 = some v -> Good n (s ++ [(v : Int) + 1]) /\ Good n (s ++ [-((v : Int) + 1)]) := fun v hv => by
   obtain ⟨v1, v2, v3⟩ := openV_some hv
   have w2 : (v : Int) + 1 ∉ s := fun h => v2 (hkeep _ h)
   have w3 : -((v : Int) + 1) ∉ s := fun h => v3 (hkeep _ h)
   exact ⟨hs.more (w := (v : Int) + 1) (by omega) w2 w3, hs.more (w := -((v : Int) + 1)) (by omega) w3 (by rw [Int.neg_neg]; exact w2)⟩
  obtain ⟨z, ez, hz'⟩ := up_open (n := n) (o := (prop (C ++ L) 15 s).1) (f := f52_0 ⟨n, C ++ L, L, []⟩ s (f52 K) (prop (C ++ L) 15 s))
   (R := fun r => ∀ v, openV n (prop (C ++ L) 15 s).1 = some v -> r = (match wlk C n k L (s ++ [(v : Int) + 1]) with
    | (some m, L1) => ((n : Int), C ++ L1, L1, mdl n m, true)
    | (none, L1) => match wlk C n k L1 (s ++ [-((v : Int) + 1)]) with
     | (some m, L2) => ((n : Int), C ++ L2, L2, mdl n m, true)
     | (none, L2) => ((n : Int), C ++ (L2 ++ [negs s]), L2 ++ [negs s], [], false) : Int × List (List Int) × List (List Int) × List Bool × Bool)) hn (by
   simp only [f52_0]
   rw [if_neg (by omega)]) (fun i hi h => by
   simp only [f52_0]
   rw [if_pos (by omega), hasI (by omega), bS, negN (by omega), hasI (by omega), w64_of (by omega)]
   unfold shut at h
   cases hh : (prop (C ++ L) 15 s).1.contains ((i : Int) + 1)
   ·rw [hh, Bool.false_or] at h
    rw [h]; simp; omega
   ·simp; omega) (fun i hi h hv => by
   obtain ⟨g1, g2⟩ := two i hv
   have z1 := g1.le14 hn'
   rw [List.length_append, List.length_singleton] at z1
   simp only [f52_0]
   rw [if_pos (by omega), hasI (by omega), bS, negN (by omega), hasI (by omega)]
   unfold shut at h
   rw [Bool.or_eq_false_iff] at h
   rw [h.1, h.2, if_neg (by simp), bS, bS, if_neg (by simp), app_fits (by simp; omega), bS, List.nil_append, app_fits (by simp; omega), bS, walkSpec hn hC hc k K L _ (by omega) g1 (by simp; omega) hL (by omega), bS]
   have k1 := wlk_ok hn' hC k L _ g1 (by simp; omega) hL
   cases e1 : wlk C n k L (s ++ [(i : Int) + 1]) with
   | mk o1 L1 =>
   rw [e1] at k1
   obtain ⟨r1, ⟨T1, x1, y1⟩, _, _⟩ := k1
   simp only at r1 x1
   have l1 := congrArg List.length x1
   rw [List.length_append] at l1
   cases o1 with
   | some m => exact ⟨_, rfl, _, rfl, fun v hv' => by rw [hv, zJ] at hv'; subst hv'; rw [e1]⟩
   | none =>
    dsimp only
    have k2 := wlk_ok hn' hC k L1 _ g2 (by simp; omega) r1
    rw [if_neg (by simp), app_fits (by simp; omega), bS, walkSpec hn hC hc k K L1 _ (by omega) g2 (by simp; omega) r1 (by omega), bS]
    cases e2 : wlk C n k L1 (s ++ [-((i : Int) + 1)]) with
    | mk o2 L2 =>
    rw [e2] at k2
    obtain ⟨r2, ⟨T2, x2, y2⟩, _, _⟩ := k2
    simp only at r2 x2
    have l2 := congrArg List.length x2
    rw [List.length_append] at l2
    cases o2 with
    | some m => exact ⟨_, rfl, _, rfl, fun v hv' => by rw [hv, zJ] at hv'; subst hv'; rw [e1]; simp only [e2]⟩
    | none =>
     simp only [bS]
     rw [if_neg (by simp), learnSpec (by simp; omega) (by omega) (by omega), bS]
     exact ⟨_, rfl, _, rfl, fun v hv' => by rw [hv, zJ] at hv'; subst hv'; rw [e1]; simp only [e2, List.append_assoc]⟩)
  rw [ez, bS]
  cases hv : openV n (prop (C ++ L) 15 s).1 with
  | none =>
   rw [hv] at hz'; subst hz'
   dsimp only
   have := modelSpec (l := C ++ L) (p := L) (b := (prop (C ++ L) 15 s).2) hn hg14
   rw [this]; rfl
  | some v =>
   rw [hv] at hz'
   obtain ⟨r, rfl, hr⟩ := hz'
   have := hr v rfl
   dsimp only
   rw [this]
   cases e1 : wlk C n k L (s ++ [(v : Int) + 1]) with
   | mk o1 L1 =>
   cases o1 with
   | some m => rfl
   | none =>
    dsimp only
    cases e2 : wlk C n k L1 (s ++ [-((v : Int) + 1)]) with
    | mk o2 L2 =>
    cases o2 with
    | some m => rfl
    | none => rfl
def slv (n : Int) (C : List (List Int)) : List Bool × List (List Int) × Bool :=
 if valid n C = true then match sol C n.toNat with
  | (some m, _) => (mdl n.toNat m, [], true)
  | (none, L) => ([], L, false)
 else ([], [], false)
theorem solveSpec {m : Int} (h : C.length <= 1048576) (h' : ∀ x ∈ C, x.length <= 1048576) : f26 m C = some (slv m C) := by
 unfold f26 slv
 rw [specValid (by omega) (fun x hx => by have := h' x hx; omega), bS]
 by_cases hv : valid m C = true
 ·obtain ⟨h0, h1, h2, hC⟩ := valid_lits hv
  obtain ⟨n, rfl⟩ : ∃ n : Nat, m = n := ⟨m.toNat, by omega⟩
  have p2 := Nat.pow_le_pow_right (n := 2) (by omega) (show n + 1 <= 15 by omega)
  rw [if_neg (by simp [hv]), if_pos hv, app_fits (by simp; omega), bS]
  have := walkSpec (by omega) hC (by omega) (n + 1) 64 [] [] (by omega) ⟨fun _ h => by (cases h), List.Pairwise.nil⟩ (by simp) (fun A c B e => by
   have := congrArg List.length e
   simp at this) (by simp; omega)
  rw [List.append_nil] at this
  rw [List.nil_append, this, bS, Int.toNat_natCast]
  unfold sol
  cases e : wlk C n (n + 1) [] [] with
  | mk o L => cases o <;> simp
 ·rw [if_pos (by simpa using hv), if_neg hv]
theorem setSpec {o : List Int} {n : Nat} (hn : n <= 14) (ho : Good n o) : iter (f35_0 o) (List.replicate n false, 0) = some (mdl n o) := by
 have h14 := ho.le14 (by omega)
 have := iter_steps (f := f35_0 o) (fun i => (mdl n (o.take i), (i : Int))) o.length (mdl n o) (fun i hi => by
  have hv := ho.1 _ (List.getElem_mem hi)
  have hl := mdl_len (n := n) (o := o.take i)
  have et : o.take (i + 1) = o.take i ++ [o[i]] := take_succ' hi
  simp only [f35_0]
  rw [if_pos (by omega), ix_nat hi, bS, w64_succ (by omega), et]
  by_cases hp : o[i] > 0
  ·rw [if_pos hp, w64_of (by omega)]
   obtain ⟨k, hk⟩ : ∃ k : Nat, o[i] = (k : Int) + 1 := ⟨(o[i] - 1).toNat, by omega⟩
   rw [hk, show (k : Int) + 1 - 1 = k by omega, ix_nat (by rw [hl]; omega), bS, bS, Int.toNat_natCast]
   congr 3
   apply List.ext_getElem (by simp [mdl])
   intro j h1 h2
   rw [List.length_set, hl] at h1
   rw [List.getElem_set]
   simp only [mdl, List.getElem_map, List.getElem_range]
   by_cases e : k = j
   ·subst e; simp
   ·rw [if_neg e]
    rw [Bool.eq_iff_iff, List.contains_iff_mem, List.contains_iff_mem, List.mem_append, List.mem_singleton]
    constructor
    ·exact .inl
    ·rintro (h | h)
     ·exact h
     ·omega
  ·rw [if_neg hp, bS]
   congr 3
   unfold mdl
   refine List.map_congr_left fun j _ => ?_
   rw [Bool.eq_iff_iff, List.contains_iff_mem, List.contains_iff_mem, List.mem_append, List.mem_singleton]
   constructor
   ·exact .inl
   ·rintro (h | h)
    ·exact h
    ·omega) (by
  simp only [f35_0]
  rw [if_neg (by omega), List.take_length])
 have e0 : mdl n (o.take 0) = List.replicate n false := by
  apply List.ext_getElem (by simp [mdl])
  intro j h1 h2
  simp [mdl]
 rw [e0] at this
 exact this
theorem solveImp {m : Int} (h : C.length <= 1048576) (h' : ∀ x ∈ C, x.length <= 1048576) : f35 m C = some (slv m C) := by
 unfold f35 slv
 rw [implValid (by omega) (fun x hx => by have := h' x hx; omega), bS]
 by_cases hv : valid m C = true
 ·obtain ⟨h0, h1, h2, hC⟩ := valid_lits hv
  obtain ⟨n, rfl⟩ : ∃ n : Nat, m = n := ⟨m.toNat, by omega⟩
  have p2 := Nat.pow_le_pow_right (n := 2) (by omega) (show n + 1 <= 15 by omega)
  rw [if_neg (by simp [hv]), if_pos hv]
  have := srchImp (by omega) hC (by omega) (n + 1) 64 [] [] (by omega) ⟨fun _ h => by (cases h), List.Pairwise.nil⟩ (by simp) (fun A c B e => by
   have := congrArg List.length e
   simp at this) (by simp; omega)
  rw [this, bS, Int.toNat_natCast]
  unfold sol
  cases e : wlk C n (n + 1) [] [] with
  | mk o L => cases o with
   | none => rfl
   | some o =>
    have g := (sol_yes (o := o) (C := C) (n := n) hv (by unfold sol; rw [e])).2.2
    simp only [om]
    unfold mkl
    rw [if_pos (by omega), bS, Int.toNat_natCast, setSpec (by omega) g]
    rfl
 ·rw [if_pos (by simpa using hv), if_neg hv]
end
end
section
theorem slv_fits {n : Int} {C : List (List Int)} : (slv n C).1.length <= 14 /\ (slv n C).2.1.length <= 32767 /\ ∀ x ∈ (slv n C).2.1, x.length <= 14 := by
 unfold slv
 by_cases hv : valid n C = true
 ·obtain ⟨h0, h1, h2, hC⟩ := valid_lits hv
  obtain ⟨n, rfl⟩ : ∃ k : Nat, n = k := ⟨n.toNat, by omega⟩
  rw [if_pos hv, Int.toNat_natCast]
  have S := sol_ok h1 hC
  have e := fun h => sol_no (C := C) (n := n) hv h
  cases hs : sol C n with
  | mk o L =>
  rw [hs] at S e
  cases o with
  | some m => refine ⟨by dsimp only; rw [mdl_len]; omega, by simp, by simp⟩
  | none => exact ⟨by simp, (e rfl).2.2, fun x hx => (S.rup.good x hx).le14 h1⟩
 ·rw [if_neg hv]; simp
end
section
def mk (k : Int) (n : Nat) : List Int := (List.range n).map fun i => k + (i : Nat)
theorem mk_len {k : Int} {n : Nat} : (mk k n).length = n := by simp [mk]
theorem mk_get {k : Int} {n i : Nat} (h : i < (mk k n).length) : (mk k n)[i] = k + i := by simp [mk]
theorem markI {a : List Int} {k : Int} (h0 : 0 <= k) (h : k + a.length <= 4611686018427387904) : f16 a k = some (k + a.length, mk k a.length) := by
 unfold f16
 have := iter_steps (f := f16_0) (fun i => ((mk k a.length).take i ++ a.drop i, k + (i : Nat), (i : Int))) a.length (mk k a.length, k + a.length) (fun i hi => by
  have e1 : ((mk k a.length).take i ++ a.drop i).length = a.length := by simp [mk_len]; omega
  have e2 := set_copy (a := mk k a.length) (L := a) (i := i) (by rw [mk_len]; exact hi) (by rw [mk_len])
  rw [mk_get] at e2
  simp only [f16_0]
  rw [if_pos (by rw [e1]; omega), ix_nat (by rw [e1]; exact hi), w64_succ (by omega), w64_of (by omega), bS, Int.toNat_natCast, e2]
  rw [show k + (i : Int) + 1 = k + ((i + 1 : Nat) : Int) by omega]) (by
  have e1 : ((mk k a.length).take a.length ++ a.drop a.length) = mk k a.length := by
   rw [List.take_of_length_le (by rw [mk_len]; omega), List.drop_of_length_le (by omega), List.append_nil]
  simp only [f16_0]
  rw [e1, if_neg (by rw [mk_len]; omega)])
 simp only [Int.natCast_zero, List.take_zero, List.drop_zero, List.nil_append, Int.add_zero, Int.ofNat_zero] at this
 erw [this]
 rfl
theorem heldI {k : Int} {n : Nat} (h0 : 0 <= k) (h : k + n <= 4611686018427387904) : f18 (mk k n) k = some (k + n) := by
 unfold f18
 have := iter_steps (f := f18_0 (mk k n)) (fun i => (k + (i : Nat), (i : Int))) n (.inl (k + n)) (fun i hi => by
  simp only [f18_0]
  rw [if_pos (by rw [mk_len]; omega), ix_nat (by rw [mk_len]; exact hi), w64_succ (by omega), w64_of (by omega), bS, mk_get, if_neg (by simp)]
  rw [show k + (i : Int) + 1 = k + ((i + 1 : Nat) : Int) by omega]) (by
  simp only [f18_0]
  rw [if_neg (by rw [mk_len]; omega)])
 simp only [Int.natCast_zero, Int.add_zero, Int.ofNat_zero] at this
 erw [this]
 rfl
def tot (l : List (List Int)) (i : Nat) : Nat := ((l.take i).map List.length).sum
theorem tot_succ {l : List (List Int)} {i : Nat} (h : i < l.length) : tot l (i + 1) = tot l i + l[i].length := by
 unfold tot; rw [take_succ' h, List.map_append, List.sum_append]; simp
theorem tot_le {l : List (List Int)} {i : Nat} : tot l i <= (l.map List.length).sum := by
 unfold tot
 conv => rhs; rw [<- List.take_append_drop i l, List.map_append, List.sum_append]
 omega
def mkSS (k : Int) (l : List (List Int)) : List (List Int) := (List.range l.length).map fun i => mk (k + tot l i) (l.getD i []).length
theorem mkSS_len {k : Int} {l : List (List Int)} : (mkSS k l).length = l.length := by simp [mkSS]
theorem mkSS_get {k : Int} {l : List (List Int)} {i : Nat} (h : i < (mkSS k l).length) : (mkSS k l)[i] = mk (k + tot l i) (l[i]'(by rw [mkSS_len] at h; exact h)).length := by
 have h' : i < l.length := by rw [mkSS_len] at h; exact h
 simp [mkSS, zE h']
theorem markII {l : List (List Int)} {k : Int} (h0 : 0 <= k) (h : k + (l.map List.length).sum <= 4611686018427387904) (hl : Big l.length) : f17 l k = some (k + tot l l.length, mkSS k l) := by
 unfold f17
 have := iter_steps (f := f17_0) (fun i => ((mkSS k l).take i ++ l.drop i, k + (tot l i : Nat), (i : Int))) l.length (mkSS k l, k + tot l l.length) (fun i hi => by
  have e1 : ((mkSS k l).take i ++ l.drop i).length = l.length := by simp [mkSS_len]; omega
  have e2 := set_copy (a := mkSS k l) (L := l) (i := i) (by rw [mkSS_len]; exact hi) (by rw [mkSS_len])
  rw [mkSS_get] at e2
  have e3 : ((mkSS k l).take i ++ l.drop i)[i]'(by rw [e1]; exact hi) = l[i] := by
   rw [List.getElem_append_right (by rw [List.length_take]; omega), List.getElem_drop]
   congr 1; simp [mkSS_len]; omega
  have e4 := tot_succ hi
  have e5 := tot_le (l := l) (i := i + 1)
  simp only [f17_0]
  rw [if_pos (by rw [e1]; omega), ix_nat (by rw [e1]; exact hi), w64_succ (by omega), bS, e3, markI (by omega) (by omega), bS, Int.toNat_natCast, e2]
  rw [e4, show k + (tot l i : Int) + (l[i].length : Int) = k + ((tot l i + l[i].length : Nat) : Int) by omega]) (by
  have e1 : ((mkSS k l).take l.length ++ l.drop l.length) = mkSS k l := by
   rw [List.take_of_length_le (by rw [mkSS_len]; omega), List.drop_of_length_le (by omega), List.append_nil]
  simp only [f17_0]
  rw [e1, if_neg (by rw [mkSS_len]; omega)])
 have e0 : tot l 0 = 0 := by simp [tot]
 simp only [e0, Int.natCast_zero, List.take_zero, List.drop_zero, List.nil_append, Int.add_zero, Int.ofNat_zero] at this
 erw [this]
 rfl
theorem heldII {l : List (List Int)} {k : Int} (h0 : 0 <= k) (h : k + (l.map List.length).sum <= 4611686018427387904) (hl : Big l.length) : f19 (mkSS k l) k = some (k + tot l l.length) := by
 unfold f19
 have := iter_steps (f := f19_0 (mkSS k l)) (fun i => (k + (tot l i : Nat), (i : Int))) l.length (.inl (k + tot l l.length)) (fun i hi => by
  have e4 := tot_succ hi
  have e5 := tot_le (l := l) (i := i + 1)
  simp only [f19_0]
  rw [if_pos (by rw [mkSS_len]; omega), ix_nat (by rw [mkSS_len]; exact hi), w64_succ (by omega), bS, mkSS_get, heldI (by omega) (by omega), bS, if_neg (by omega)]
  rw [e4, show k + (tot l i : Int) + (l[i].length : Int) = k + ((tot l i + l[i].length : Nat) : Int) by omega]) (by
  simp only [f19_0]
  rw [if_neg (by rw [mkSS_len]; omega)])
 have e0 : tot l 0 = 0 := by simp [tot]
 simp only [e0, Int.natCast_zero, Int.add_zero, Int.ofNat_zero] at this
 erw [this]
 rfl
def smaller (l : List (List Int)) (k i : Nat) : Bool := decide ((l.getD k []).length < (l.getD i []).length) || (decide (k < i) && decide ((l.getD k []).length = (l.getD i []).length))
def least (l : List (List Int)) (i : Nat) : Bool := (List.range l.length).all fun k => !(smaller l k i && (l.getD k []).all (l.getD i []).contains)
end
section
theorem toRs {a : List Relation} (h : a.length <= 1048576) : f29 a = some a := by
 unfold f29
 rw [mkl_ok (by omega) (by omega) (by omega)]
 have : iter (f29_0 a) (List.replicate (a.length : Int).toNat ({ Name := [], Arity := 0, KeyLength := 0 } : Relation), 0) = some a := iter_copy (by simp) (fun i hi out ho => by
  simp only [f29_0]
  rw [if_pos (by omega), ix_nat hi, ix_nat ho, Int.toNat_natCast, w64_succ (by omega)]; rfl) (fun out => by
  simp only [f29_0]
  rw [if_neg (by omega)])
 simp only [bS, this]
theorem toFt {a : Fact} (h : a.Values.length <= 1048576) : f57 a = some a := by
 unfold f57
 rw [toI h]; rfl
theorem toFs {a : List Fact} (h : a.length <= 1048576) (h' : ∀ x ∈ a, x.Values.length <= 1048576) : f30 a = some a := by
 unfold f30
 rw [mkl_ok (by omega) (by omega) (by omega)]
 have : iter (f30_0 a) (List.replicate (a.length : Int).toNat ({ Relation := 0, Values := [] } : Fact), 0) = some a := iter_copy (by simp) (fun i hi out ho => by
  simp only [f30_0]
  rw [if_pos (by omega), ix_nat hi, ix_nat ho, Int.toNat_natCast, w64_succ (by omega)]
  simp only [bS, toFt (h' _ (List.getElem_mem hi))]) (fun out => by
  simp only [f30_0]
  rw [if_neg (by omega)])
 simp only [bS, this]
def Fits (d : Database) : Prop := d.Relations.length <= 1048576 /\ d.Facts.length <= 1048576 /\ ∀ x ∈ d.Facts, x.Values.length <= 1048576
theorem toDb {a : Database} (h : Fits a) : f7 a = some a := by
 unfold f7
 rw [toRs h.1, bS, toFs h.2.1 h.2.2]; rfl
theorem eqRl {a : Relation} : f70 a a = some true := by unfold f70; simp
theorem eqRs {a : List Relation} (h : a.length <= 9223372036854775807) : f38 a a = some true := by
 unfold f38
 rw [if_neg (by simp)]
 rw [iter_ex (List.range a.length) (fun _ => false) false (fun i hi => by
  simp only [f38_0]
  simp only [List.length_range] at hi
  rw [if_pos (by omega), ix_nat hi, w64_succ (by omega)]
  simp only [bS, eqRl]
  simp) (by
  simp only [f38_0]
  rw [if_neg (by simp)])]
 simp
theorem eqFt {a : Fact} (h : a.Values.length <= 9223372036854775807) : f71 a a = some true := by
 unfold f71
 rw [if_neg (by simp), eqI h]; simp
theorem eqFs {a : List Fact} (h : a.length <= 9223372036854775807) (h' : ∀ x ∈ a, x.Values.length <= 9223372036854775807) : f39 a a = some true := by
 unfold f39
 rw [if_neg (by simp)]
 rw [iter_ex (List.range a.length) (fun _ => false) false (fun i hi => by
  simp only [f39_0]
  simp only [List.length_range] at hi
  rw [if_pos (by omega), ix_nat hi, w64_succ (by omega)]
  simp only [bS, eqFt (h' _ (List.getElem_mem hi))]
  simp) (by
  simp only [f39_0]
  rw [if_neg (by simp)])]
 simp
theorem eqDb {a : Database} (h : Fits a) : f12 a a = some true := by
 unfold f12
 rw [eqRs (by have := h.1; omega), bS, if_neg (by simp), eqFs (by have := h.2.1; omega) (fun x hx => by have := h.2.2 x hx; omega)]
 simp
theorem szRl {a : Relation} {n : Int} (h : ok a) (h0 : 0 <= n) (h1 : n <= 1048576) : f44 a n = some (lft n a.Name.length) := by
 have h := h.1.1
 unfold f44
 rw [w64_of (by omega)]
 unfold lft
 by_cases hc : n < (a.Name.length : Int)
 ·rw [if_pos (by omega), if_neg (by omega)]
 ·rw [if_neg (by omega), if_pos (by omega)]
theorem szFt {a : Fact} {n : Int} (h : ok a) (h0 : 0 <= n) (h1 : n <= 1048576) : f45 a n = some (lft n a.Values.length) := by
 unfold f45
 rw [szI h.2.1 h0 h1, bS]
 split
 ·rename_i hlt; rw [lft_bad hlt]
 ·rfl
theorem lft_sub {n : Int} {a b : Nat} (h : ¬ n < a) : lft (n - a) b = lft n (a + b) := by
 unfold lft
 by_cases hc2 : ((b : Nat) : Int) <= n - a
 ·rw [if_pos hc2, if_pos (by omega)]; omega
 ·rw [if_neg hc2, if_neg (by omega)]
theorem szRs {a : List Relation} {n : Int} (h : ok a) (h0 : 0 <= n) (h1 : n <= 1048576) : f20 a n = some (lft n (a.length + (a.map (·.Name.length)).sum)) := by
 obtain ⟨h, h'⟩ := h
 unfold f20
 rw [w64_of (by omega)]
 by_cases hc : n < (a.length : Int)
 ·rw [if_pos (by omega)]
  unfold lft
  rw [if_neg (by omega)]
 ·rw [if_neg (by omega)]
  rw [iter_sz (fun x : Relation => x.Name.length) a _ (by omega) (fun i hi b hb hb' => by
   simp only [f20_0]
   rw [if_pos (by omega), ix_nat hi, w64_succ (by omega)]
   simp only [bS, szRl (h' _ (List.getElem_mem hi)) hb (by omega)]
   split <;> rfl) (fun b => by
   simp only [f20_0]
   rw [if_neg (by omega)]), lft_sub hc]
  split
  ·rename_i hlt
   rw [lft_bad hlt]; rfl
  ·rfl
theorem szFs {a : List Fact} {n : Int} (h : ok a) (h0 : 0 <= n) (h1 : n <= 1048576) : f21 a n = some (lft n (a.length + (a.map (·.Values.length)).sum)) := by
 obtain ⟨h, h'⟩ := h
 unfold f21
 rw [w64_of (by omega)]
 by_cases hc : n < (a.length : Int)
 ·rw [if_pos (by omega)]
  unfold lft
  rw [if_neg (by omega)]
 ·rw [if_neg (by omega)]
  rw [iter_sz (fun x : Fact => x.Values.length) a _ (by omega) (fun i hi b hb hb' => by
   simp only [f21_0]
   rw [if_pos (by omega), ix_nat hi, w64_succ (by omega)]
   simp only [bS, szFt (h' _ (List.getElem_mem hi)) hb (by omega)]
   split <;> rfl) (fun b => by
   simp only [f21_0]
   rw [if_neg (by omega)]), lft_sub hc]
  split
  ·rename_i hlt
   rw [lft_bad hlt]; rfl
  ·rfl
def relSize (l : List Relation) : Nat := l.length + (l.map (·.Name.length)).sum
def factSize (l : List Fact) : Nat := l.length + (l.map (·.Values.length)).sum
def dbSize (d : Database) : Nat := relSize d.Relations + factSize d.Facts
theorem szDb {a : Database} {n : Int} (h : ok a) (h0 : 0 <= n) (h1 : n <= 1048576) : f4 a n = some (lft n (dbSize a)) := by
 unfold f4
 rw [szRs h.1 h0 h1, bS]
 change (if lft n (relSize a.Relations) < 0 then _ else _) = _
 by_cases hc : lft n (relSize a.Relations) < 0
 ·rw [if_pos hc]
  have := lft_neg.1 hc
  unfold lft dbSize; rw [if_neg (by omega)]
 ·rw [if_neg hc]
  obtain ⟨e1, e2⟩ := lft_pos hc
  change (f21 a.Facts (lft n (relSize a.Relations))).bind _ = _
  rw [e1, szFs h.2 (by omega) (by omega), bS]
  change (if lft (n - relSize a.Relations) (factSize a.Facts) < 0 then _ else _) = _
  change (if lft (n - relSize a.Relations) (factSize a.Facts) < 0 then _ else some (lft (n - relSize a.Relations) (factSize a.Facts))) = _
  rw [lft_sub (by omega)]
  split
  ·rename_i hlt; unfold dbSize; rw [lft_bad hlt]
  ·rfl
theorem db_fits {a : Database} (h : dbSize a <= 1048576) : Fits a := by
 unfold dbSize relSize factSize at h
 refine ⟨by omega, by omega, fun x hx => ?_⟩
 have := mem_le_sum (s := fun x : Fact => x.Values.length) hx
 omega
theorem markText {k : Int} (h0 : 0 <= k) (h : k <= 4611686018427387904) : Ens (f73 k) fun t => t.length <= 64 := by
 unfold f73
 refine Ens.ite (fun _ => Ens.of (by simp)) fun hk => ?_
 refine Ens.bind (Q := fun t => t.length <= 20) ?_ fun t ht => ?_
 ·refine iter_up (f := f73_0) 20 (fun j s => (0 <= s.1 /\ s.1 <= 4611686018427387904) /\ s.1 < 10 ^ (20 - j) /\ s.2.length <= j) (fun t => t.length <= 20) (fun j s hj hI => ?_) (fun s hI => ?_) (k, []) ⟨⟨h0, h⟩, by simp; omega, by simp⟩
  ·obtain ⟨k, out⟩ := s
   obtain ⟨i0, i1, i2⟩ := hI
   simp only at i0 i1 i2
   simp only [f73_0]
   by_cases hp : k > 0
   ·rw [if_pos hp, cat_ok (by simp; omega), bS]
    refine ⟨_, rfl, ?_⟩
    have e : (10 : Int) ^ (20 - j) = 10 ^ (20 - (j + 1)) * 10 := by rw [<- Int.pow_succ]; congr 1; omega
    have q : k.tdiv 10 = k / 10 := Int.tdiv_eq_ediv_of_nonneg i0.1
    have r : w64 (k.tdiv 10) = k / 10 := by
     rw [q, w64_of (by omega)]
    refine ⟨?_, ?_, by simp; omega⟩
    ·simp only [r]; omega
    ·simp only [r]; rw [e] at i1; omega
   ·rw [if_neg hp]
    exact ⟨_, rfl, by simp only; omega⟩
  ·obtain ⟨k, out⟩ := s
   obtain ⟨i0, i1, i2⟩ := hI
   simp only at i0 i1 i2
   simp only [f73_0]
   rw [if_neg (by simp at i1; omega)]
   exact ⟨_, rfl, i2⟩
 ·rw [cat_ok (by simp; omega)]
  exact Ens.of (by simp; omega)
theorem markRs {a : List Relation} {k : Int} (h0 : 0 <= k) (h : k + 3 * a.length <= 4611686018427387904) (ha : Big a.length) : Ens (f41 a k) fun o => o.1 = k + 3 * a.length := by
 unfold f41
 refine Ens.bind (Q := fun o => o.2 = k + 3 * a.length) ?_ fun o ho => Ens.of ho
 refine iter_up (f := f41_0) a.length (fun i s => s.1.length = a.length /\ s.2.1 = k + 3 * i /\ s.2.2 = i) _ (fun i s hi hI => ?_) (fun s hI => ?_) (a, k, 0) ⟨rfl, by simp, rfl⟩
 ·obtain ⟨b, m, x⟩ := s
  obtain ⟨e1, e2, e3⟩ := hI
  simp only at e1 e2 e3
  subst e2; subst e3
  simp only [f41_0]
  rw [if_pos (by omega)]
  obtain ⟨t, ht, _⟩ := markText (k := k + 3 * i) (by omega) (by omega)
  rw [ht, bS, ix_nat (by omega), bS, ix_nat (by simp; omega), bS, ix_nat (by simp; omega), bS]
  refine ⟨_, rfl, ?_⟩
  have w1 : w64 (k + 3 * (i : Int) + 1) = k + 3 * (i : Int) + 1 := w64_of (by omega)
  have w2 : w64 (k + 3 * (i : Int) + 1 + 1) = k + 3 * (i : Int) + 1 + 1 := w64_of (by omega)
  have w3 : w64 (k + 3 * (i : Int) + 1 + 1 + 1) = k + 3 * (i : Int) + 1 + 1 + 1 := w64_of (by omega)
  refine ⟨by simp only [List.length_set]; exact e1, ?_, w64_succ (by omega)⟩
  dsimp only
  rw [w1, w2, w3]; omega
 ·obtain ⟨b, m, x⟩ := s
  obtain ⟨e1, e2, e3⟩ := hI
  simp only at e1 e2 e3
  subst e2; subst e3
  simp only [f41_0]
  rw [if_neg (by omega)]
  exact ⟨_, rfl, rfl⟩
theorem factSize_take {a : List Fact} {i : Nat} (h : i < a.length) : factSize (a.take (i + 1)) = factSize (a.take i) + 1 + a[i].Values.length := by
 unfold factSize
 rw [take_succ' h, List.map_append, List.sum_append, List.length_append]; simp; omega
theorem factSize_le {a : List Fact} {i : Nat} : factSize (a.take i) <= factSize a := by
 unfold factSize
 conv => rhs; rw [<- List.take_append_drop i a, List.map_append, List.sum_append, List.length_append]
 omega
theorem markFs {a : List Fact} {k : Int} (h0 : 0 <= k) (h : k + factSize a <= 4611686018427387904) (ha : Big a.length) : Ens (f42 a k) fun o => o.1 = k + factSize a := by
 unfold f42
 refine Ens.bind (Q := fun o => o.2 = k + factSize a) ?_ fun o ho => Ens.of ho
 refine iter_up (f := f42_0) a.length (fun i s => s.1.length = a.length /\ s.1.drop i = a.drop i /\ s.2.1 = k + factSize (a.take i) /\ s.2.2 = i) _ (fun i s hi hI => ?_) (fun s hI => ?_) (a, k, 0) ⟨rfl, rfl, by simp [factSize], rfl⟩
 ·obtain ⟨b, m, x⟩ := s
  obtain ⟨e1, e4, e2, e3⟩ := hI
  dsimp only at e1 e2 e3 e4
  subst e2; subst e3
  have hb : b[i]'(by omega) = a[i] := by
   have := congrArg (fun l => l[0]?) e4
   simp only [List.getElem?_drop, Nat.add_zero] at this
   rw [zE (by omega), zE hi] at this
   exact Option.some.inj this
  have s1 := factSize_take hi
  have s2 := factSize_le (a := a) (i := i + 1)
  simp only [f42_0]
  rw [if_pos (by omega), ix_nat (by omega), bS, hb, ix_nat (by simp; omega), bS]
  simp only [Int.toNat_natCast, List.getElem_set_self]
  rw [w64_of (by omega), markI (by omega) (by omega), bS]
  refine ⟨_, rfl, ?_⟩
  rw [w64_succ (by omega)]
  refine ⟨by simp; omega, ?_, by simp only; omega, rfl⟩
  rw [List.drop_set_of_lt (by omega), List.drop_set_of_lt (by omega)]
  rw [<- List.drop_drop, e4, List.drop_drop]
 ·obtain ⟨b, m, x⟩ := s
  obtain ⟨e1, e4, e2, e3⟩ := hI
  dsimp only at e1 e2 e3
  subst e2; subst e3
  simp only [f42_0]
  rw [if_neg (by omega)]
  exact ⟨_, rfl, by simp⟩
theorem markDb {a : Database} (h : dbSize a <= 1048576) : Ens (f14 a 1) fun k => 1 <= k /\ k <= 4194304 := by
 unfold f14
 unfold dbSize at h
 have h1 : a.Relations.length <= relSize a.Relations := by unfold relSize; omega
 have h2 : a.Facts.length <= factSize a.Facts := by unfold factSize; omega
 refine Ens.bind (markRs (by omega) (by omega) (by omega)) fun o ho => ?_
 refine Ens.bind (markFs (by omega) (by omega) (by omega)) fun o' ho' => Ens.of ?_
 omega
end
section
variable {α ρ : Type}
def good (q : α -> Bool) (r : α -> α -> Bool) (l : List α) : Bool := decide (∀ i (h : i < l.length), (q l[i] && (decide (i = 0) || r (l[i - 1]'(by omega)) l[i])) = true)
theorem good_of {q : α -> Bool} {r : α -> α -> Bool} {l : List α} (h : good q r l = true) {i : Nat} (hi : i < l.length) : q l[i] = true /\ (0 < i -> r (l[i - 1]'(by omega)) l[i] = true) := by
 have := of_decide_eq_true h i hi
 simp only [Bool.and_eq_true, Bool.or_eq_true, decide_eq_true_eq] at this
 exact ⟨this.1, fun hp => this.2.resolve_left (by omega)⟩
theorem iter_adj {f : Int -> Option (Int ⊕ (Unit ⊕ ρ))} (q : α -> Bool) (r : α -> α -> Bool) (L : List α) (c : ρ)
  (hs : ∀ (i : Nat) (h : i < L.length), f (i : Int) = some (if (q L[i] && (decide (i = 0) || r (L[i - 1]'(by omega)) L[i])) = true then .inl ((i + 1 : Nat) : Int) else .inr (.inr c)))
  (he : f (L.length : Int) = some (.inr (.inl ()))) : iter f 0 = some (if good q r L = true then .inl () else .inr c) := by
 obtain ⟨o, h1, h2⟩ := iter_up (f := f) L.length (fun i s => s = (i : Int) /\ ∀ j (h : j < L.length), j < i -> (q L[j] && (decide (j = 0) || r (L[j - 1]'(by omega)) L[j])) = true)
  (fun o => o = if good q r L = true then .inl () else .inr c) (fun i s hi ⟨h, hp⟩ => by
   subst h
   refine ⟨_, hs i hi, ?_⟩
   by_cases hc : (q L[i] && (decide (i = 0) || r (L[i - 1]'(by omega)) L[i])) = true
   ·rw [if_pos hc]
    refine ⟨rfl, fun j hj hlt => ?_⟩
    by_cases e : j = i
    ·subst e; exact hc
    ·exact hp j hj (by omega)
   ·rw [if_neg hc]
    dsimp only
    rw [if_neg]
    intro hg
    exact hc (of_decide_eq_true hg i hi)) (fun s ⟨h, hp⟩ => by
   subst h
   refine ⟨_, he, ?_⟩
   rw [if_pos]
   exact decide_eq_true fun i hi => hp i hi hi) 0 ⟨rfl, fun j _ h => by omega⟩
 rw [h1, h2]
def btw (x low high : Int) : Bool := decide (low <= x) && decide (x <= high)
theorem specIn {x a b : Int} : f80 x a b = some (btw x a b) := by
 unfold f80 btw
 by_cases h : a <= x
 ·rw [if_pos (show x >= a from h)]; simp [h]
 ·rw [if_neg (show ¬ x >= a from h)]; simp [h]
theorem impIn {x a b : Int} : f90 x a b = some (btw x a b) := by
 unfold f90 btw
 by_cases h : a <= x
 ·rw [if_pos h]; simp [h]
 ·rw [if_neg h]; simp [h]
def vRel (r : Relation) : Bool := decide (r.Name.length = 1) && (decide (97 <= (r.Name.getD 0 0).toNat) && (decide ((r.Name.getD 0 0).toNat <= 122) && (btw r.Arity 1 3 && btw r.KeyLength 0 r.Arity)))
theorem specRel {r : Relation} : f107 r = some (vRel r) := by
 unfold f107 vRel
 by_cases h1 : r.Name.length = 1
 ·rw [if_pos (by omega)]
  have e : ix r.Name 0 = some (r.Name.getD 0 0) := by rw [ix_of (by omega)]; simp [zE (show 0 < r.Name.length by omega)]
  rw [e, bS]
  generalize r.Name.getD 0 0 = c
  by_cases h2 : 97 <= c.toNat
  ·rw [if_pos (by omega)]
   by_cases h3 : c.toNat <= 122
   ·rw [if_pos (by omega), specIn, bS]
    cases hb : btw r.Arity 1 3
    ·simp
    ·simp [specIn, h1, h2, h3]
   ·rw [if_neg (by omega)]; simp [h3]
  ·rw [if_neg (by omega)]; simp [h2]
 ·rw [if_neg (by omega)]; simp [h1]
theorem impRel {r : Relation} : f116 r = some (vRel r) := by
 unfold f116 vRel
 by_cases h1 : r.Name.length = 1
 ·rw [if_pos (by omega)]
  have e : ix r.Name 0 = some (r.Name.getD 0 0) := by rw [ix_of (by omega)]; simp [zE (show 0 < r.Name.length by omega)]
  rw [e, bS]
  generalize r.Name.getD 0 0 = c
  by_cases h2 : 97 <= c.toNat
  ·rw [if_pos (by omega)]
   by_cases h3 : c.toNat <= 122
   ·rw [if_pos (by omega), impIn, bS]
    cases hb : btw r.Arity 1 3
    ·simp
    ·simp [impIn, h1, h2, h3]
   ·rw [if_neg (by omega)]; simp [h3]
  ·rw [if_neg (by omega)]; simp [h2]
 ·rw [if_neg (by omega)]; simp [h1]
def vRels (l : List Relation) : Bool := good vRel (fun a b => Op.bytesLess a.Name b.Name) l && decide (l.length <= 4)
theorem specRels {l : List Relation} (h : Big l.length) : f79 l = some (vRels l) := by
 unfold f79 vRels
 rw [iter_adj vRel (fun a b => Op.bytesLess a.Name b.Name) l false (fun i hi => by
  simp only [f79_0]
  rw [if_pos (by omega), ix_nat hi, w64_succ (by omega)]
  simp only [bS, specRel]
  cases vRel l[i]
  ·simp
  ·by_cases h0 : i = 0
   ·subst h0; simp
   ·have e : ix l (w64 ((i : Int) - 1)) = some (l[i - 1]'(by omega)) := by rw [w64_of (by omega), show (i : Int) - 1 = ((i - 1 : Nat) : Int) by omega, ix_nat (by omega)]
    simp only [e]
    have : 0 < i := by omega
    cases hb : Op.bytesLess (l[i - 1]'(by omega)).Name l[i].Name <;> simp [h0, this, hb]) (by
  simp only [f79_0]
  rw [if_neg (by omega)])]
 cases good vRel (fun a b => Op.bytesLess a.Name b.Name) l
 ·simp
 ·simp; omega
theorem impRels {l : List Relation} (h : Big l.length) : f87 l = some (vRels l) := by
 unfold f87 vRels
 rw [iter_adj vRel (fun a b => Op.bytesLess a.Name b.Name) l false (fun i hi => by
  simp only [f87_0]
  rw [if_pos (by omega), ix_nat hi, w64_succ (by omega)]
  simp only [bS, impRel]
  cases vRel l[i]
  ·simp
  ·by_cases h0 : i = 0
   ·subst h0; simp
   ·have e : ix l (w64 ((i : Int) - 1)) = some (l[i - 1]'(by omega)) := by rw [w64_of (by omega), show (i : Int) - 1 = ((i - 1 : Nat) : Int) by omega, ix_nat (by omega)]
    simp only [e]
    have : 0 < i := by omega
    cases hb : Op.bytesLess (l[i - 1]'(by omega)).Name l[i].Name <;> simp [h0, this, hb]) (by
  simp only [f87_0]
  rw [if_neg (by omega)])]
 cases good vRel (fun a b => Op.bytesLess a.Name b.Name) l
 ·simp
 ·simp; omega
theorem vRels_len {l : List Relation} (h : vRels l = true) : l.length <= 4 := by
 unfold vRels at h; simp only [Bool.and_eq_true, decide_eq_true_eq] at h; exact h.2
def arity (l : List Relation) (r : Int) : Int := (l[r.toNat]?.map (·.Arity)).getD 0
def keyLen (l : List Relation) (r : Int) : Int := (l[r.toNat]?.map (·.KeyLength)).getD 0
def vVals (l : List Int) : Bool := l.all fun v => btw v 0 9
def vFact (l : List Relation) (f : Fact) : Bool := btw f.Relation 0 (l.length - 1) && (decide ((f.Values.length : Int) = arity l f.Relation) && vVals f.Values)
theorem ix_rel {l : List Relation} {r : Int} (h : btw r 0 (l.length - 1) = true) : ∃ x, ix l r = some x /\ x ∈ l /\ x.Arity = arity l r /\ x.KeyLength = keyLen l r := by
 unfold btw at h; simp only [Bool.and_eq_true, decide_eq_true_eq] at h
 have e : l[r.toNat]? = some (l[r.toNat]'(by omega)) := zE _
 refine ⟨l[r.toNat]'(by omega), ?_, List.getElem_mem _, ?_, ?_⟩
 ·rw [ix_of h.1, e]
 ·unfold arity; rw [e]; rfl
 ·unfold keyLen; rw [e]; rfl
theorem specFact {l : List Relation} {f : Fact} (h : Big l.length) (hf : Big f.Values.length) : f77 l f = some (vRels l && vFact l f) := by
 unfold f77 vFact
 rw [specRels h, bS]
 cases vRels l
 ·simp
 ·rw [w64_of (by omega), specIn]
  cases hb : btw f.Relation 0 (l.length - 1)
  ·simp
  ·obtain ⟨x, h1, _, h2, _⟩ := ix_rel hb
   rw [h1]
   by_cases ha : (f.Values.length : Int) = arity l f.Relation
   ·rw [iter_ex f.Values (fun v => !btw v 0 9) false (fun i hi => by
     simp only [f77_0]
     rw [if_pos (by omega), ix_nat hi, w64_succ (by omega)]
     simp only [bS, specIn]
     cases btw f.Values[i] 0 9 <;> simp) (by
     simp only [f77_0]
     rw [if_neg (by omega)])]
    unfold vVals
    rw [any_not]
    cases f.Values.all (fun v => btw v 0 9) <;> simp [h2, ha]
   ·simp [h2, ha]
theorem impVals {l : List Int} (h : Big l.length) : f117 l = some (vVals l) := by
 unfold f117
 rw [indexI (p := fun v => !btw v 0 9) h (fun v _ => by
  unfold f147
  rw [impIn]; cases btw v 0 9 <;> simp)]
 unfold vVals
 rw [any_not]
 cases l.all (fun v => btw v 0 9) <;> simp
theorem impFact {l : List Relation} {f : Fact} (h : Big l.length) (hf : Big f.Values.length) : f88 l f = some (vFact l f) := by
 unfold f88 vFact
 rw [w64_of (by omega), impIn]
 cases hb : btw f.Relation 0 (l.length - 1)
 ·simp
 ·obtain ⟨x, h1, _, h2, _⟩ := ix_rel hb
  rw [h1]
  by_cases ha : (f.Values.length : Int) = arity l f.Relation
  ·simp [h2, ha, impVals hf]
  ·simp [h2, ha]
def cmpL : List Int -> List Int -> Int
 | [], [] => 0
 | [], _ :: _ => -1
 | _ :: _, [] => 1
 | a :: s, b :: t => if a < b then -1 else if a > b then 1 else cmpL s t
theorem cmpL_step {a b : List Int} {i : Nat} (ha : i < a.length) (hb : i < b.length) : cmpL (a.drop i) (b.drop i) = if a[i] < b[i] then -1 else if a[i] > b[i] then 1 else cmpL (a.drop (i + 1)) (b.drop (i + 1)) := by
 rw [List.drop_eq_getElem_cons ha, List.drop_eq_getElem_cons hb, cmpL]
theorem cmpL_end {a b : List Int} {i : Nat} (h : a.length <= i \/ b.length <= i) (hi : i <= a.length /\ i <= b.length) : cmpL (a.drop i) (b.drop i) = if a.length < b.length then -1 else if a.length > b.length then 1 else 0 := by
 rcases h with h | h
 ·rw [List.drop_of_length_le h]
  by_cases e : b.length <= i
  ·rw [List.drop_of_length_le e, cmpL, if_neg (by omega), if_neg (by omega)]
  ·rw [List.drop_eq_getElem_cons (by omega : i < b.length), cmpL, if_pos (by omega)]
 ·rw [List.drop_of_length_le h]
  by_cases e : a.length <= i
  ·rw [List.drop_of_length_le e, cmpL, if_neg (by omega), if_neg (by omega)]
  ·rw [List.drop_eq_getElem_cons (by omega : i < a.length), cmpL, if_neg (by omega), if_pos (by omega)]
theorem specInts {a b : List Int} (ha : Big a.length) (hb : Big b.length) : f106 a b = some (cmpL a b) := by
 unfold f106
 refine Ens.eq (Q := fun r => r = cmpL a b) (Ens.bind (Q := fun o => match o with | .inl _ => (if a.length < b.length then -1 else if a.length > b.length then 1 else 0) = cmpL a b | .inr x => x = cmpL a b) ?_ fun o ho => ?_) _ (fun _ h => h)
 ·refine iter_up (f := f106_0 a b) (min a.length b.length) (fun i s => s = (i : Int) /\ cmpL (a.drop i) (b.drop i) = cmpL a b) _ (fun i s hi ⟨h, hp⟩ => ?_) (fun s ⟨h, hp⟩ => ?_) 0 ⟨rfl, rfl⟩
  ·subst h
   have h1 : i < a.length := by omega
   have h2 : i < b.length := by omega
   simp only [f106_0]
   rw [if_pos (by omega), ix_nat h1, ix_nat h2, w64_succ (by omega)]
   rw [cmpL_step h1 h2] at hp
   simp only [bS, show (i : Int) < b.length by omega, decide_true, if_true]
   by_cases c1 : a[i] < b[i]
   ·rw [if_pos c1] at hp ⊢
    exact ⟨_, rfl, hp⟩
   ·rw [if_neg c1] at hp ⊢
    by_cases c2 : a[i] > b[i]
    ·rw [if_pos c2] at hp ⊢; exact ⟨_, rfl, hp⟩
    ·rw [if_neg c2] at hp ⊢; exact ⟨_, rfl, rfl, hp⟩
  ·subst h
   rw [cmpL_end (by omega) (by omega)] at hp
   simp only [f106_0]
   by_cases c : ((min a.length b.length : Nat) : Int) < a.length
   ·rw [if_pos c]
    simp only [bS, show ¬ ((min a.length b.length : Nat) : Int) < b.length by omega, decide_false]
    exact ⟨_, rfl, hp⟩
   ·rw [if_neg c]; exact ⟨_, rfl, hp⟩
 ·cases o with
  | inl _ =>
   dsimp only at ho ⊢
   by_cases c1 : a.length < b.length
   ·rw [if_pos c1] at ho; rw [if_pos (by omega)]; exact Ens.of ho
   ·rw [if_neg c1] at ho; rw [if_neg (by omega)]
    by_cases c2 : a.length > b.length
    ·rw [if_pos c2] at ho; rw [if_pos (by omega)]; exact Ens.of ho
    ·rw [if_neg c2] at ho; rw [if_neg (by omega)]; exact Ens.of ho
  | inr x => exact Ens.of ho
theorem cmpInt {a b : Int} : f148 a b = some (if a < b then -1 else if a > b then 1 else 0) := by
 unfold f148 f157
 simp only [ne_eq, not_true_eq_false, decide_false, bS, Bool.false_eq_true, if_false]
 split
 ·rfl
 ·split <;> rfl
theorem impInts {a b : List Int} (ha : Big a.length) (hb : Big b.length) : f119 a b = some (cmpL a b) := by
 unfold f119
 refine Ens.eq (Q := fun r => r = cmpL a b) (Ens.bind (Q := fun o => match o with | .inl _ => (if a.length < b.length then -1 else 0) = cmpL a b | .inr x => x = cmpL a b) ?_ fun o ho => ?_) _ (fun _ h => h)
 ·refine iter_up (f := f119_0 a b) a.length (fun i s => s = (i : Int) /\ i <= b.length /\ cmpL (a.drop i) (b.drop i) = cmpL a b) _ (fun i s hi ⟨h, hl, hp⟩ => ?_) (fun s ⟨h, hl, hp⟩ => ?_) 0 ⟨rfl, by omega, rfl⟩
  ·subst h
   simp only [f119_0]
   rw [if_pos (by omega), ix_nat hi, w64_succ (by omega)]
   by_cases h2 : i < b.length
   ·rw [bS, if_neg (by omega), ix_nat h2]
    rw [cmpL_step hi h2] at hp
    simp only [bS, cmpInt]
    by_cases c1 : a[i] < b[i]
    ·rw [if_pos c1] at hp ⊢
     rw [if_pos (by omega)]; exact ⟨_, rfl, hp⟩
    ·rw [if_neg c1] at hp ⊢
     by_cases c2 : a[i] > b[i]
     ·rw [if_pos c2] at hp ⊢; rw [if_pos (by omega)]; exact ⟨_, rfl, hp⟩
     ·rw [if_neg c2] at hp ⊢; rw [if_neg (by omega)]; exact ⟨_, rfl, rfl, by omega, hp⟩
   ·rw [bS, if_pos (by omega)]
    rw [cmpL_end (by omega) (by omega), if_neg (by omega), if_pos (by omega)] at hp
    exact ⟨_, rfl, hp⟩
  ·subst h
   simp only [f119_0]
   rw [if_neg (by omega)]
   rw [cmpL_end (by omega) (by omega)] at hp
   refine ⟨_, rfl, ?_⟩
   dsimp only
   rw [<- hp]
   by_cases c1 : a.length < b.length
   ·rw [if_pos c1, if_pos c1]
   ·rw [if_neg c1, if_neg c1, if_neg (by omega)]
 ·cases o with
  | inl _ =>
   dsimp only at ho ⊢
   by_cases c1 : a.length < b.length
   ·rw [if_pos c1] at ho; rw [if_pos (by omega)]; exact Ens.of ho
   ·rw [if_neg c1] at ho; rw [if_neg (by omega)]; exact Ens.of ho
  | inr x => exact Ens.of ho
def cmpF (a b : Fact) : Int := if a.Relation < b.Relation then -1 else if a.Relation > b.Relation then 1 else cmpL a.Values b.Values
theorem specCmp {a b : Fact} (ha : Big a.Values.length) (hb : Big b.Values.length) : f78 a b = some (cmpF a b) := by
 unfold f78 cmpF
 rw [specInts ha hb]
 split
 ·rfl
 ·split <;> rfl
theorem impCmp {a b : Fact} (ha : Big a.Values.length) (hb : Big b.Values.length) : f89 a b = some (cmpF a b) := by
 unfold f89 f118 cmpF
 rw [impInts ha hb]
 by_cases c1 : a.Relation < b.Relation
 ·rw [if_pos (by omega), if_pos c1, if_pos c1]; rfl
 ·rw [if_neg c1, if_neg c1]
  by_cases c2 : a.Relation > b.Relation
  ·rw [if_pos (by omega), if_pos c2, if_pos c2]; rfl
  ·rw [if_neg (by omega), if_neg c2]; rfl
def Room (d : Database) : Prop := Big d.Relations.length /\ Big d.Facts.length /\ ∀ x ∈ d.Facts, Big x.Values.length
theorem fits_room {d : Database} (h : Fits d) : Room d := ⟨by have := h.1; omega, by have := h.2.1; omega, fun x hx => by have := h.2.2 x hx; omega⟩
def gFacts (d : Database) : Bool := good (vFact d.Relations) (fun a b => decide (cmpF a b < 0)) d.Facts
def vDb (d : Database) : Bool := vRels d.Relations && (decide (d.Facts.length <= 14) && gFacts d)
theorem good_congr {q q' : α -> Bool} {r : α -> α -> Bool} {l : List α} (h : ∀ a ∈ l, q a = q' a) : good q r l = good q' r l := by
 unfold good
 congr 1
 apply propext
 constructor
 ·intro g i hi; rw [<- h _ (List.getElem_mem hi)]; exact g i hi
 ·intro g i hi; rw [h _ (List.getElem_mem hi)]; exact g i hi
theorem specDb {d : Database} (h : Room d) : f49 d = some (vDb d) := by
 obtain ⟨h1, h2, h3⟩ := h
 unfold f49
 rw [iter_adj (fun f => vRels d.Relations && vFact d.Relations f) (fun a b => decide (cmpF a b < 0)) d.Facts false (fun i hi => by
  simp only [f49_0]
  rw [if_pos (by omega), ix_nat hi, w64_succ (by omega)]
  simp only [bS, specFact h1 (h3 _ (List.getElem_mem hi))]
  cases (vRels d.Relations && vFact d.Relations d.Facts[i])
  ·simp
  ·by_cases h0 : i = 0
   ·subst h0; simp
   ·have e : ix d.Facts (w64 ((i : Int) - 1)) = some (d.Facts[i - 1]'(by omega)) := by rw [w64_of (by omega), show (i : Int) - 1 = ((i - 1 : Nat) : Int) by omega, ix_nat (by omega)]
    simp only [e, bS, specCmp (h3 _ (List.getElem_mem (show i - 1 < d.Facts.length by omega))) (h3 _ (List.getElem_mem hi))]
    have : 0 < i := by omega
    by_cases hb : cmpF (d.Facts[i - 1]'(by omega)) d.Facts[i] < 0
    ·simp [h0, this, hb, Int.not_le.2 hb]
    ·simp [h0, this, hb, show 0 <= cmpF (d.Facts[i - 1]'(by omega)) d.Facts[i] by omega]) (by
  simp only [f49_0]
  rw [if_neg (by omega)])]
 unfold vDb
 rw [specRels h1]
 cases hv : vRels d.Relations
 ·split <;> simp
 ·have e : good (fun f => true && vFact d.Relations f) (fun a b => decide (cmpF a b < 0)) d.Facts = gFacts d := good_congr fun a _ => Bool.true_and _
  rw [e]
  cases gFacts d
  ·simp
  ·simp; omega
theorem impDb {d : Database} (h : Room d) : f62 d = some (vDb d) := by
 obtain ⟨h1, h2, h3⟩ := h
 unfold f62 vDb
 rw [impRels h1, bS]
 cases vRels d.Relations
 ·simp
 ·by_cases hn : d.Facts.length <= 14
  ·rw [iter_adj (vFact d.Relations) (fun a b => decide (cmpF a b < 0)) d.Facts false (fun i hi => by
    simp only [f62_0]
    rw [if_pos (by omega), ix_nat hi, w64_succ (by omega)]
    simp only [bS, impFact h1 (h3 _ (List.getElem_mem hi))]
    cases vFact d.Relations d.Facts[i]
    ·simp
    ·by_cases h0 : i = 0
     ·subst h0; simp
     ·have e : ix d.Facts (w64 ((i : Int) - 1)) = some (d.Facts[i - 1]'(by omega)) := by rw [w64_of (by omega), show (i : Int) - 1 = ((i - 1 : Nat) : Int) by omega, ix_nat (by omega)]
      simp only [e, bS, impCmp (h3 _ (List.getElem_mem (show i - 1 < d.Facts.length by omega))) (h3 _ (List.getElem_mem hi))]
      have : 0 < i := by omega
      by_cases hb : cmpF (d.Facts[i - 1]'(by omega)) d.Facts[i] < 0
      ·simp [h0, this, hb, Int.not_le.2 hb]
      ·simp [h0, this, hb, show 0 <= cmpF (d.Facts[i - 1]'(by omega)) d.Facts[i] by omega]) (by
    simp only [f62_0]
    rw [if_neg (by omega)])]
   change _ = some (true && (decide (d.Facts.length <= 14) && good (vFact d.Relations) (fun a b => decide (cmpF a b < 0)) d.Facts))
   cases good (vFact d.Relations) (fun a b => decide (cmpF a b < 0)) d.Facts
   ·simp
   ·simp [hn]; omega
  ·simp [hn]; omega
def asc (n : Int) (l : List Int) : Bool := good (fun v => btw v 0 (n - 1)) (fun a b => decide (a < b)) l
theorem specSet {d : Database} {l : List Int} (hd : Big d.Facts.length) (h : Big l.length) : f53 d l = some (asc d.Facts.length l) := by
 unfold f53
 rw [iter_adj (fun v => btw v 0 ((d.Facts.length : Int) - 1)) (fun a b => decide (a < b)) l false (fun i hi => by
  simp only [f53_0]
  rw [if_pos (by omega), ix_nat hi, w64_succ (by omega), w64_of (n := (d.Facts.length : Int) - 1) (by omega)]
  simp only [bS, specIn]
  cases btw l[i] 0 ((d.Facts.length : Int) - 1)
  ·simp
  ·by_cases h0 : i = 0
   ·subst h0; simp
   ·have e : ix l (w64 ((i : Int) - 1)) = some (l[i - 1]'(by omega)) := by rw [w64_of (by omega), show (i : Int) - 1 = ((i - 1 : Nat) : Int) by omega, ix_nat (by omega)]
    simp only [e]
    have : 0 < i := by omega
    by_cases hb : l[i - 1]'(by omega) < l[i]
    ·simp [h0, this, hb, Int.not_le.2 hb]
    ·simp [h0, this, hb, Int.not_lt.1 hb]) (by
  simp only [f53_0]
  rw [if_neg (by omega)])]
 unfold asc
 cases good (fun v => btw v 0 ((d.Facts.length : Int) - 1)) (fun a b => decide (a < b)) l <;> simp
theorem impSet {l : List Int} {n : Nat} (hd : Big n) (h : Big l.length) : f66 l n = some (asc n l) := by
 unfold f66
 rw [iter_adj (fun v => btw v 0 ((n : Int) - 1)) (fun a b => decide (a < b)) l false (fun i hi => by
  simp only [f66_0]
  rw [if_pos (by omega), ix_nat hi, w64_succ (by omega), w64_of (n := (n : Int) - 1) (by omega)]
  simp only [bS, impIn]
  cases btw l[i] 0 ((n : Int) - 1)
  ·simp
  ·by_cases h0 : i = 0
   ·subst h0; simp
   ·have e : ix l (w64 ((i : Int) - 1)) = some (l[i - 1]'(by omega)) := by rw [w64_of (by omega), show (i : Int) - 1 = ((i - 1 : Nat) : Int) by omega, ix_nat (by omega)]
    simp only [e]
    have : 0 < i := by omega
    by_cases hb : l[i - 1]'(by omega) < l[i]
    ·simp [h0, this, hb, Int.not_le.2 hb]
    ·simp [h0, this, hb, Int.not_lt.1 hb]) (by
  simp only [f66_0]
  rw [if_neg (by omega)])]
 unfold asc
 cases good (fun v => btw v 0 ((n : Int) - 1)) (fun a b => decide (a < b)) l <;> simp
end
section
variable {α ρ : Type}
theorem nodup_le : ∀ {n : Nat} {H : List Int}, H.Nodup -> (∀ v ∈ H, 0 <= v /\ v < n) -> H.length <= n
 | 0, [], _, _ => by simp
 | 0, a :: H, _, h => by have := h a (by simp); omega
 | n + 1, H, hd, h => by
  have h1 : (H.erase ((n : Nat) : Int)).length <= n := nodup_le (hd.erase _) fun v hv => by
   have h2 := h v (List.mem_of_mem_erase hv)
   have h3 := (List.Nodup.mem_erase_iff hd).1 hv
   have := h3.1
   omega
  have h2 := List.length_erase (l := H) (a := ((n : Nat) : Int))
  split at h2 <;> omega
theorem cmpL_trans : ∀ {a b c : List Int}, cmpL a b < 0 -> cmpL b c < 0 -> cmpL a c < 0
 | [], _, [], h1, h2 => by
  rename_i b
  cases b with
  | nil => simp [cmpL] at h1
  | cons y b => simp [cmpL] at h2
 | [], _, _ :: _, h1, h2 => by simp [cmpL]
 | _ :: _, [], _, h1, h2 => by simp [cmpL] at h1
 | _ :: _, _ :: _, [], h1, h2 => by simp [cmpL] at h2
 | x :: a, y :: b, z :: c, h1, h2 => by
  rw [cmpL] at h1 h2 ⊢
  by_cases c1 : x < y
  ·by_cases c2 : y < z
   ·rw [if_pos (by omega)]; omega
   ·rw [if_neg c2] at h2
    by_cases c3 : y > z
    ·rw [if_pos c3] at h2; omega
    ·rw [if_pos (by omega)]; omega
  ·rw [if_neg c1] at h1
   by_cases c3 : x > y
   ·rw [if_pos c3] at h1; omega
   ·rw [if_neg c3] at h1
    by_cases c2 : y < z
    ·rw [if_pos (by omega)]; omega
    ·rw [if_neg c2] at h2
     by_cases c4 : y > z
     ·rw [if_pos c4] at h2; omega
     ·rw [if_neg c4] at h2
      rw [if_neg (by omega), if_neg (by omega)]
      exact cmpL_trans h1 h2
theorem cmpL_conv : ∀ {m : Nat} {a b c : List Int}, cmpL a b < 0 -> cmpL b c < 0 -> m <= a.length -> m <= b.length -> m <= c.length -> a.take m = c.take m -> a.take m = b.take m
 | 0, _, _, _, _, _, _, _, _, _ => by simp
 | m + 1, [], _, _, _, _, h, _, _, _ => by simp at h
 | m + 1, _ :: _, [], _, _, _, _, h, _, _ => by simp at h
 | m + 1, _ :: _, _ :: _, [], _, _, _, _, h, _ => by simp at h
 | m + 1, x :: a, y :: b, z :: c, h1, h2, l1, l2, l3, h => by
  simp only [List.take_succ_cons, List.cons.injEq] at h ⊢
  obtain ⟨rfl, h⟩ := h
  simp only [List.length_cons] at l1 l2 l3
  rw [cmpL] at h1 h2
  have e : x = y := by
   by_cases c1 : x < y
   ·rw [if_neg (by omega), if_pos (by omega)] at h2; omega
   ·rw [if_neg c1] at h1
    by_cases c2 : x > y
    ·rw [if_pos c2] at h1; omega
    ·omega
  subst e
  rw [if_neg (by omega), if_neg (by omega)] at h1 h2
  exact ⟨rfl, cmpL_conv h1 h2 (by omega) (by omega) (by omega) h⟩
theorem cmpL_eq : ∀ {a b : List Int}, cmpL a b = 0 ↔ a = b
 | [], [] => by simp [cmpL]
 | [], _ :: _ => by simp [cmpL]
 | _ :: _, [] => by simp [cmpL]
 | x :: a, y :: b => by
  rw [cmpL]
  by_cases c1 : x < y
  ·rw [if_pos c1]; simp; intro h; omega
  ·rw [if_neg c1]
   by_cases c2 : x > y
   ·rw [if_pos c2]; simp; intro h; omega
   ·rw [if_neg c2, cmpL_eq]
    simp only [List.cons.injEq]
    exact ⟨fun h => ⟨by omega, h⟩, fun h => h.2⟩
theorem cmpF_trans {a b c : Fact} (h1 : cmpF a b < 0) (h2 : cmpF b c < 0) : cmpF a c < 0 := by
 unfold cmpF at h1 h2 ⊢
 by_cases c1 : a.Relation < b.Relation
 ·by_cases c2 : b.Relation > c.Relation
  ·rw [if_neg (by omega), if_pos c2] at h2; omega
  ·rw [if_pos (by omega)]; omega
 ·rw [if_neg c1] at h1
  by_cases c3 : a.Relation > b.Relation
  ·rw [if_pos c3] at h1; omega
  ·rw [if_neg c3] at h1
   by_cases c2 : b.Relation < c.Relation
   ·rw [if_pos (by omega)]; omega
   ·rw [if_neg c2] at h2
    by_cases c4 : b.Relation > c.Relation
    ·rw [if_pos c4] at h2; omega
    ·rw [if_neg c4] at h2
     rw [if_neg (by omega), if_neg (by omega)]
     exact cmpL_trans h1 h2
def keyOf (l : List Relation) (a : Fact) : List Int := a.Values.take (keyLen l a.Relation).toNat
def same (l : List Relation) (a b : Fact) : Bool := decide (a.Relation = b.Relation) && decide (keyOf l a = keyOf l b)
theorem vRel_mem {l : List Relation} (h : vRels l = true) {r : Relation} (hr : r ∈ l) : vRel r = true := by
 unfold vRels at h; simp only [Bool.and_eq_true] at h
 obtain ⟨i, hi, rfl⟩ := List.mem_iff_getElem.1 hr
 exact (good_of h.1 hi).1
theorem key_le {l : List Relation} {f : Fact} (h : vRels l = true) (hf : vFact l f = true) : ∃ x, ix l f.Relation = some x /\ x.KeyLength = keyLen l f.Relation /\ 0 <= keyLen l f.Relation /\ keyLen l f.Relation <= f.Values.length := by
 unfold vFact at hf; simp only [Bool.and_eq_true, decide_eq_true_eq] at hf
 obtain ⟨x, h1, h2, h3, h4⟩ := ix_rel hf.1
 have := vRel_mem h h2
 unfold vRel btw at this
 simp only [Bool.and_eq_true, decide_eq_true_eq] at this
 exact ⟨x, h1, h4, by omega, by omega⟩
theorem specKey {l : List Relation} {f : Fact} (hl : Big l.length) (hv : f.Values.length <= 1048576) (h : vRels l = true) (hf : vFact l f = true) : f131 l f = some (keyOf l f) := by
 unfold f131
 rw [specFact hl (by omega), h, hf]
 obtain ⟨x, h1, h2, h3, h4⟩ := key_le h hf
 simp only [Bool.and_self, bS, not_true_eq_false, if_false, h1]
 rw [h2, cutL_ok (by omega) h3 h4, bS, app_fits (by simp; omega)]
 simp [keyOf]
theorem specSame {l : List Relation} {a b : Fact} (hl : Big l.length) (ha : a.Values.length <= 1048576) (hb : b.Values.length <= 1048576) (h : vRels l = true) (va : vFact l a = true) (vb : vFact l b = true) : f101 l a b = some (same l a b) := by
 unfold f101 same
 rw [specFact hl (by omega), specFact hl (by omega), h, va, vb, specKey hl ha h va, specKey hl hb h vb]
 have k1 : Big (keyOf l a).length := by unfold keyOf; simp; omega
 have k2 : Big (keyOf l b).length := by unfold keyOf; simp; omega
 by_cases c : a.Relation = b.Relation
 ·simp only [Bool.and_self, bS, if_true, c, specInts k1 k2, decide_true, Bool.true_and]
  by_cases e : keyOf l a = keyOf l b
  ·rw [cmpL_eq.2 e]; simp [e]
  ·have : ¬ cmpL (keyOf l a) (keyOf l b) = 0 := fun h => e (cmpL_eq.1 h)
   simp [this, e]
 ·simp [c]
theorem eqSl {a b : List Int} (ha : Big a.length) : f110 a b = some (decide (a = b)) := by
 unfold f110
 by_cases hl : a.length = b.length
 ·rw [if_neg (by omega)]
  rw [iter_ex (List.range a.length) (fun i => decide (a[i]? ≠ b[i]?)) false (fun i hi => by
   simp only [List.length_range] at hi
   simp only [f110_0, List.getElem_range]
   rw [if_pos (by omega), ix_nat hi, ix_nat (by omega : i < b.length), w64_succ (by omega), zE hi, zE (by omega : i < b.length)]
   by_cases c : a[i] = b[i]'(by omega)
   ·simp [c]
   ·simp [c]) (by
   simp only [f110_0]
   rw [if_neg (by simp)])]
  by_cases e : a = b
  ·subst e; simp
  ·have : ((List.range a.length).any fun i => decide (a[i]? ≠ b[i]?)) = true := by
    apply Classical.byContradiction
    intro hn
    apply e
    apply List.ext_getElem hl
    intro i h1 h2
    apply Classical.byContradiction
    intro hne
    exact hn (List.any_eq_true.2 ⟨i, List.mem_range.2 h1, by simp [zE h1, zE h2, hne]⟩)
   rw [if_pos this]; simp [e]
 ·rw [if_pos (by omega)]
  have : a ≠ b := fun h => hl (by rw [h])
  simp [this]
theorem impSame {l : List Relation} {a b : Fact} (ha : a.Values.length <= 1048576) (hb : b.Values.length <= 1048576) (h : vRels l = true) (va : vFact l a = true) (vb : vFact l b = true) : f84 l a b = some (same l a b) := by
 unfold f84 same
 obtain ⟨x, h1, h2, h3, h4⟩ := key_le h va
 obtain ⟨x', h1', h2', h3', h4'⟩ := key_le h vb
 by_cases c : a.Relation = b.Relation
 ·rw [if_neg (by simp [c]), h1, bS, h2, cutL_ok (by omega) h3 h4, bS, cutL_ok (by omega) h3 (by rw [c]; exact h4'), bS, eqSl (by simp; omega)]
  simp [keyOf, c]
 ·rw [if_pos c]; simp [c]
structure Kin (n : Nat) (sk : Nat -> Nat -> Bool) : Prop where
 refl : ∀ i, i < n -> sk i i = true
 symm : ∀ i k, i < n -> k < n -> sk i k = sk k i
 trans : ∀ i j k, i < n -> j < n -> k < n -> sk i j = true -> sk j k = true -> sk i k = true
 conv : ∀ i j k, i <= j -> j <= k -> k < n -> sk i k = true -> sk i j = true
variable {n : Nat} {sk : Nat -> Nat -> Bool}
def blk (sk : Nat -> Nat -> Bool) (i x : Nat) : List Int := (List.range x).flatMap fun k => if sk i k = true then [((k : Nat) : Int)] else []
def start (sk : Nat -> Nat -> Bool) (i : Nat) : Bool := (List.range i).all fun k => !sk k i
def blks (sk : Nat -> Nat -> Bool) (y x : Nat) : List (List Int) := (List.range y).flatMap fun i => if start sk i = true then [blk sk i x] else []
theorem blk_succ {i x : Nat} : blk sk i (x + 1) = blk sk i x ++ if sk i x = true then [((x : Nat) : Int)] else [] := by simp [blk, List.range_succ]
theorem blks_succ {y x : Nat} : blks sk (y + 1) x = blks sk y x ++ if start sk y = true then [blk sk y x] else [] := by simp [blks, List.range_succ]
theorem blk_len {i x : Nat} : (blk sk i x).length <= x := by
 induction x with
 | zero => simp [blk]
 | succ x ih => rw [blk_succ, List.length_append]; split <;> simp <;> omega
theorem blks_len {y x : Nat} : (blks sk y x).length <= y := by
 induction y with
 | zero => simp [blks]
 | succ y ih => rw [blks_succ, List.length_append]; split <;> simp <;> omega
theorem blk_none {i s : Nat} (h : ∀ k, k < s -> sk i k = false) : blk sk i s = [] := by
 induction s with
 | zero => simp [blk]
 | succ s ih => rw [blk_succ, ih fun k hk => h k (by omega), h s (by omega)]; simp
theorem blk_first {i s x : Nat} (h : ∀ k, k < s -> sk i k = false) (hs : sk i s = true) (hx : s < x) : ∃ t, blk sk i x = (s : Int) :: t := by
 induction x with
 | zero => omega
 | succ x ih =>
  rw [blk_succ]
  by_cases e : s = x
  ·subst e; rw [blk_none h, if_pos hs]; exact ⟨[], rfl⟩
  ·obtain ⟨t, ht⟩ := ih (by omega)
   rw [ht]; exact ⟨_, rfl⟩
theorem start_iff {i : Nat} : start sk i = true ↔ ∀ k, k < i -> sk k i = false := by
 unfold start; rw [List.all_eq_true]
 simp only [List.mem_range, Bool.not_eq_true']
theorem not_start {i : Nat} (h : start sk i = false) : ∃ s, s < i /\ sk s i = true /\ ∀ k, k < s -> sk k i = false := by
 have : ∃ s, s < i /\ sk s i = true := by
  apply Classical.byContradiction
  intro hn
  have : start sk i = true := start_iff.2 fun k hk => by
   cases hb : sk k i
   ·rfl
   ·exact (hn ⟨k, hk, hb⟩).elim
  rw [h] at this; cases this
 obtain ⟨s, h1, h2⟩ := this
 induction s using Nat.strongRecOn with
 | _ s ih =>
  by_cases c : ∃ k, k < s /\ sk k i = true
  ·obtain ⟨k, hk, hc⟩ := c
   exact ih k hk (by omega) hc
  ·refine ⟨s, h1, h2, fun k hk => ?_⟩
   cases hb : sk k i
   ·rfl
   ·exact (c ⟨k, hk, hb⟩).elim
theorem blk_head (K : Kin n sk) {i x : Nat} (hi : i < n) (hx : x <= n) (hix : i < x) : ∃ (s : Nat) (t : List Int), blk sk i x = (s : Int) :: t /\ s <= i /\ (s = i ↔ start sk i = true) := by
 cases hs : start sk i
 ·obtain ⟨s, h1, h2, h3⟩ := not_start hs
  obtain ⟨t, ht⟩ := blk_first (sk := sk) (i := i) (s := s) (x := x) (fun k hk => by rw [K.symm i k hi (by omega)]; exact h3 k hk) (by rw [K.symm i s hi (by omega)]; exact h2) (by omega)
  refine ⟨s, t, ht, by omega, ?_⟩
  simp; omega
 ·obtain ⟨t, ht⟩ := blk_first (sk := sk) (i := i) (s := i) (x := x) (fun k hk => by rw [K.symm i k hi (by omega)]; exact start_iff.1 hs k hk) (K.refl i hi) hix
  exact ⟨i, t, ht, by omega, by simp⟩
theorem blks_bnd {y x : Nat} (h : ∀ i, i < y -> start sk i = true -> sk i x = false) : blks sk y (x + 1) = blks sk y x := by
 induction y with
 | zero => simp [blks]
 | succ y ih =>
  rw [blks_succ, blks_succ, ih fun i hi => h i (by omega)]
  by_cases c : start sk y = true
  ·rw [if_pos c, if_pos c, blk_succ, h y (by omega) c]; simp
  ·rw [if_neg c, if_neg c]
theorem blks_nost {s y x : Nat} (hs : s <= y) (h : ∀ i, s <= i -> i < y -> start sk i = false) : blks sk y x = blks sk s x := by
  induction y with
  | zero => have : s = 0 := by omega
            subst this; rfl
  | succ y ih =>
    by_cases e : s = y + 1
    · subst e; rfl
    · rw [blks_succ, h y (by omega) (by omega)]
      simp [ih (by omega) fun i h1 h2 => h i h1 (by omega)]
theorem blks_start (K : Kin n sk) {x : Nat} (hx : x < n) (h : start sk x = true) : blks sk (x + 1) (x + 1) = blks sk x x ++ [[(x : Int)]] := by
 rw [blks_succ, if_pos h, blks_bnd fun i hi _ => start_iff.1 h i hi, blk_succ, K.refl x hx, if_pos rfl, blk_none fun k hk => by rw [K.symm x k hx (by omega)]; exact start_iff.1 h k hk]
 rfl
theorem blks_more (K : Kin n sk) {x : Nat} (hx : x < n) (h : start sk x = false) : ∃ P B, blks sk x x = P ++ [B] /\ blks sk (x + 1) (x + 1) = P ++ [B ++ [(x : Int)]] /\ B.length <= x /\ ∃ s t, s < x /\ B = ((s : Nat) : Int) :: t /\ sk s x = true := by
 obtain ⟨s, h1, h2, h3⟩ := not_start h
 have hst : start sk s = true := start_iff.2 fun k hk => by
  cases hb : sk k s
  ·rfl
  ·have := K.trans k s x (by omega) (by omega) hx hb h2
   rw [h3 k hk] at this; cases this
 have hno : ∀ i, s + 1 <= i -> i < x + 1 -> start sk i = false := fun i a b => by
  cases hb : start sk i
  ·rfl
  ·have := start_iff.1 hb s (by omega)
   rw [K.conv s i x (by omega) (by omega) hx h2] at this; cases this
 refine ⟨blks sk s x, blk sk s x, ?_, ?_, blk_len, ?_⟩
 ·rw [blks_nost (s := s + 1) (by omega) fun i a b => hno i a (by omega), blks_succ, if_pos hst]
 ·rw [blks_nost (s := s + 1) (by omega) hno, blks_succ, if_pos hst, blks_bnd fun i hi _ => h3 i hi, blk_succ, if_pos h2]
 ·obtain ⟨s', t, e1, e2, e3⟩ := blk_head K (i := s) (x := x) (by omega) (by omega) h1
  have := e3.2 hst
  subst this
  exact ⟨s', t, h1, e1, h2⟩
theorem blks_mem (K : Kin n sk) {y x : Nat} (hy : y <= x) (hx : x <= n) {B : List Int} (h : B ∈ blks sk y x) : B.length <= x /\ ∃ s t, s < y /\ B = ((s : Nat) : Int) :: t := by
 unfold blks at h
 rw [List.mem_flatMap] at h
 obtain ⟨i, hi, h⟩ := h
 rw [List.mem_range] at hi
 by_cases c : start sk i = true
 ·rw [if_pos c, List.mem_singleton] at h
  subst h
  refine ⟨blk_len, ?_⟩
  obtain ⟨s', t, e1, e2, e3⟩ := blk_head K (i := i) (x := x) (by omega) (by omega) (by omega)
  exact ⟨s', t, by omega, e1⟩
 ·rw [if_neg c] at h; cases h
def pick (c : Int -> Bool) (bs : List (List Int)) : List Int := bs.filterMap fun b => b.find? c
def picks (c : Int -> Bool) (bs : List (List Int)) : List Int × Bool := if (bs.all fun b => (b.find? c).isSome) = true then (pick c bs, true) else ([], false)
theorem pick_up (K : Kin n sk) {c : Int -> Bool} {y : Nat} (hy : y <= n) : (pick c (blks sk y n)).Pairwise (· < ·) /\ ∀ v ∈ pick c (blks sk y n), ∃ k : Nat, k < n /\ v = k /\ ∀ t, y <= t -> t < n -> start sk t = true -> k < t := by
 induction y with
 | zero => simp [blks, pick]
 | succ y ih =>
  obtain ⟨i1, i2⟩ := ih (by omega)
  rw [blks_succ]
  cases hs : start sk y
  ·simp only [Bool.false_eq_true, if_false, List.append_nil]
   refine ⟨i1, fun v hv => ?_⟩
   obtain ⟨k, a, b, c⟩ := i2 v hv
   exact ⟨k, a, b, fun t ht => c t (by omega)⟩
  ·simp only [if_true]
   have e : pick c (blks sk y n ++ [blk sk y n]) = pick c (blks sk y n) ++ ((blk sk y n).find? c).toList := by
    unfold pick
    rw [List.filterMap_append]
    cases hf : (blk sk y n).find? c <;> simp [hf]
   rw [e]
   have q : ∀ v ∈ ((blk sk y n).find? c).toList, ∃ k : Nat, k < n /\ v = k /\ y <= k /\ sk y k = true := by
    intro v hv
    simp only [Option.mem_toList] at hv
    have hm := List.mem_of_find?_eq_some hv
    unfold blk at hm
    rw [List.mem_flatMap] at hm
    obtain ⟨k, hk, hm⟩ := hm
    rw [List.mem_range] at hk
    by_cases c1 : sk y k = true
    ·rw [if_pos c1, List.mem_singleton] at hm
     refine ⟨k, hk, hm, ?_, c1⟩
     apply Classical.byContradiction
     intro hlt
     have := start_iff.1 hs k (by omega)
     rw [K.symm k y hk (by omega), c1] at this; cases this
    ·rw [if_neg c1] at hm; cases hm
   refine ⟨List.pairwise_append.2 ⟨i1, ?_, fun a ha b hb => ?_⟩, fun v hv => ?_⟩
   ·cases (blk sk y n).find? c <;> simp
   ·obtain ⟨k, a1, rfl, a2⟩ := i2 a ha
    obtain ⟨k', b1, rfl, b2, b3⟩ := q b hb
    have := a2 y (by omega) (by omega) hs
    omega
   ·rcases List.mem_append.1 hv with hv | hv
    ·obtain ⟨k, a, b, c⟩ := i2 v hv
     exact ⟨k, a, b, fun t ht => c t (by omega)⟩
    ·obtain ⟨k, a, b, c, d⟩ := q v hv
     refine ⟨k, a, b, fun t ht hn hst => ?_⟩
     apply Classical.byContradiction
     intro hlt
     have := start_iff.1 hst y (by omega)
     rw [K.conv y t k (by omega) (by omega) a d] at this; cases this
theorem pick_len {c : Int -> Bool} {bs : List (List Int)} : (pick c bs).length <= bs.length := List.length_filterMap_le _ _
theorem picks_len {c : Int -> Bool} {bs : List (List Int)} : (picks c bs).1.length <= bs.length := by
 unfold picks; split
 ·exact pick_len
 ·simp
theorem iter_pick {f : List Int × Int -> Option ((List Int × Int) ⊕ (List Int ⊕ (List Int × Bool)))} (L : List (List Int)) (c : Int -> Bool)
  (hs : ∀ (i : Nat) (h : i < L.length) out, out.length <= i -> f (out, (i : Int)) = some (match L[i].find? c with | none => .inr (.inr ([], false)) | some v => .inl (out ++ [v], ((i + 1 : Nat) : Int))))
  (he : ∀ out, f (out, (L.length : Int)) = some (.inr (.inl out))) : iter f ([], 0) = some (if (L.all fun b => (b.find? c).isSome) = true then .inl (pick c L) else .inr ([], false)) := by
 obtain ⟨o, h1, h2⟩ := iter_up (f := f) L.length (fun i s => s = (pick c (L.take i), (i : Int)) /\ ((L.take i).all fun b => (b.find? c).isSome) = true)
  (fun o => o = if (L.all fun b => (b.find? c).isSome) = true then .inl (pick c L) else .inr ([], false)) (fun i s hi ⟨h, hp⟩ => by
   subst h
   have hl := pick_len (c := c) (bs := L.take i)
   rw [List.length_take] at hl
   refine ⟨_, hs i hi _ (by omega), ?_⟩
   cases hf : L[i].find? c with
   | none =>
    dsimp only
    rw [if_neg]
    intro hall
    have := List.all_eq_true.1 hall _ (List.getElem_mem hi)
    rw [hf] at this; cases this
   | some v =>
    dsimp only
    refine ⟨?_, ?_⟩
    ·rw [take_succ' hi]; unfold pick; rw [List.filterMap_append]; simp [hf]
    ·rw [take_succ' hi, List.all_append, hp]; simp [hf]) (fun s ⟨h, hp⟩ => by
   subst h
   rw [List.take_of_length_le (Nat.le_refl _)] at hp ⊢
   exact ⟨_, he _, by rw [if_pos hp]⟩) ([], 0) ⟨by simp [pick], by simp⟩
 rw [h1, h2]
theorem sortUp {l : List Int} (h : l.length <= 1048576) (hp : l.Pairwise (· < ·)) : f55 l = some l := by
 unfold f55
 have := iter_steps (f := f55_0 l) (fun i => (l.take i, (i : Int))) l.length l (fun i hi => by
  have e : (l.take i).length = i := by simp; omega
  simp only [f55_0]
  have it : iter (f55_1 l (l.take i) i) ((l.take i).length : Int) = some (i : Int) := by
   refine iter_steps (fun _ => ((l.take i).length : Int)) 0 _ (fun i hi => by omega) ?_
   simp only [f55_1]
   rw [e]
   by_cases h0 : i = 0
   ·subst h0; simp
   ·rw [if_pos (by omega), w64_of (by omega), show (i : Int) - 1 = ((i - 1 : Nat) : Int) by omega, ix_nat (by omega), ix_nat hi]
    have : ¬ l[i] < l[i - 1]'(by omega) := by
     have := List.pairwise_iff_getElem.1 hp (i - 1) i (by omega) hi (by omega)
     omega
    simp [List.getElem_take, this]
  rw [if_pos (by omega), it, bS, cutL_ok (by omega) (by omega) (by omega), bS, ix_nat hi, bS, cutL_ok (by omega) (by omega) (by omega), bS]
  have d1 : ((l.take i).take ((i : Nat) : Int).toNat).drop (0 : Int).toNat = l.take i := by simp [List.take_take]
  have d2 : ((l.take i).take (((l.take i).length : Nat) : Int).toNat).drop ((i : Nat) : Int).toNat = [] := by rw [List.drop_eq_nil_iff]; simp; omega
  rw [d1, d2, app_fits (by simp; omega), bS, app_fits (by simp; omega), bS, app_fits (by simp; omega), bS, w64_succ (by omega), take_succ' hi]
  simp) (by
  simp only [f55_0]
  rw [if_neg (by simp), List.take_of_length_le (Nat.le_refl _)])
 simp only [Int.natCast_zero, List.take_zero, Int.ofNat_zero] at this
 erw [this]
 rfl
theorem indexFst {s : List Int} {f : Int -> Option Bool} {p : Int -> Bool} (h : Big s.length) (hf : ∀ a ∈ s, f a = some (p a)) :
  Ens (f67 s f) fun o => match s.find? p with | none => o = -1 | some v => 0 <= o /\ ix s o = some v := by
 unfold f67
 refine Ens.bind (Q := fun o => match o with | .inl _ => s.find? p = none | .inr x => ∃ v, s.find? p = some v /\ 0 <= x /\ ix s x = some v) ?_ fun o ho => ?_
 ·refine iter_up (f := f67_0 s f) s.length (fun i x => x = (i : Int) /\ (s.take i).find? p = none) _ (fun i x hi ⟨h, hp⟩ => ?_) (fun x ⟨h, hp⟩ => ?_) 0 ⟨rfl, by simp⟩
  ·subst h
   simp only [f67_0]
   rw [if_pos (by omega), ix_nat hi, w64_succ (by omega)]
   simp only [bS, hf _ (List.getElem_mem hi)]
   by_cases c : p s[i] = true
   ·rw [if_pos c]
    refine ⟨_, rfl, s[i], ?_, by omega, ix_nat hi⟩
    have e := congrArg (List.find? p) (List.take_append_drop i s)
    rw [List.find?_append, hp, List.drop_eq_getElem_cons hi, List.find?_cons_of_pos c] at e
    rw [<- e]; rfl
   ·rw [if_neg c]
    refine ⟨_, rfl, rfl, ?_⟩
    rw [take_succ' hi, List.find?_append, hp, List.find?_cons_of_neg c]; simp
  ·subst h
   simp only [f67_0]
   rw [if_neg (by omega)]
   rw [List.take_of_length_le (Nat.le_refl _)] at hp
   exact ⟨_, rfl, hp⟩
 ·cases o with
  | inl _ => dsimp only at ho; exact Ens.of (by rw [ho])
  | inr x => dsimp only at ho; obtain ⟨v, e1, e2⟩ := ho; exact Ens.of (by rw [e1]; exact e2)
end
section
variable {d : Database}
def skOf (d : Database) (i k : Nat) : Bool := same d.Relations (d.Facts.getD i default) (d.Facts.getD k default)
theorem sk_get {i k : Nat} (hi : i < d.Facts.length) (hk : k < d.Facts.length) : skOf d i k = same d.Relations d.Facts[i] d.Facts[k] := by
 unfold skOf
 rw [zD, zD, zE hi, zE hk]; rfl
theorem vDb_of (h : vDb d = true) : vRels d.Relations = true /\ d.Facts.length <= 14 /\ gFacts d = true := by
 unfold vDb at h; simp only [Bool.and_eq_true, decide_eq_true_eq] at h; exact h
theorem fact_ok (h : vDb d = true) {i : Nat} (hi : i < d.Facts.length) : vFact d.Relations d.Facts[i] = true := (good_of (vDb_of h).2.2 hi).1
theorem facts_up (h : vDb d = true) {i k : Nat} (hik : i < k) (hk : k < d.Facts.length) : cmpF (d.Facts[i]'(by omega)) d.Facts[k] < 0 := by
 induction k with
 | zero => omega
 | succ k ih =>
  have h1 := (good_of (vDb_of h).2.2 hk).2 (by omega)
  simp only [Nat.add_sub_cancel, decide_eq_true_eq] at h1
  by_cases e : i = k
  ·subst e; exact h1
  ·exact cmpF_trans (ih (by omega) (by omega)) h1
theorem kin (h : vDb d = true) : Kin d.Facts.length (skOf d) where
 refl i hi := by rw [sk_get hi hi]; simp [same]
 symm i k hi hk := by
  rw [sk_get hi hk, sk_get hk hi]; unfold same
  congr 1
  ·exact decide_eq_decide.2 ⟨fun h => h.symm, fun h => h.symm⟩
  ·exact decide_eq_decide.2 ⟨fun h => h.symm, fun h => h.symm⟩
 trans i j k hi hj hk h1 h2 := by
  rw [sk_get hi hj] at h1; rw [sk_get hj hk] at h2; rw [sk_get hi hk]
  unfold same at *
  simp only [Bool.and_eq_true, decide_eq_true_eq] at *
  exact ⟨h1.1.trans h2.1, h1.2.trans h2.2⟩
 conv i j k hij hjk hk hs := by
  by_cases e1 : i = j
  ·subst e1
   rw [sk_get (by omega) (by omega)]; simp [same]
  by_cases e2 : j = k
  ·subst e2; exact hs
  have hi : i < d.Facts.length := by omega
  have hj : j < d.Facts.length := by omega
  have c1 := facts_up h (i := i) (k := j) (by omega) hj
  have c2 := facts_up h (i := j) (k := k) (by omega) hk
  rw [sk_get hi hk] at hs; rw [sk_get hi hj]
  have b1 := key_le (vDb_of h).1 (fact_ok h hi)
  have b2 := key_le (vDb_of h).1 (fact_ok h hj)
  have b3 := key_le (vDb_of h).1 (fact_ok h hk)
  generalize d.Facts[i] = a at *
  generalize d.Facts[j] = b at *
  generalize d.Facts[k] = c at *
  obtain ⟨_, _, _, _, b1⟩ := b1
  obtain ⟨_, _, _, _, b2⟩ := b2
  obtain ⟨_, _, _, _, b3⟩ := b3
  unfold same keyOf at *
  simp only [Bool.and_eq_true, decide_eq_true_eq] at *
  obtain ⟨r, hk⟩ := hs
  unfold cmpF at c1 c2
  have r1 : a.Relation = b.Relation := by
   by_cases q1 : a.Relation < b.Relation
   ·rw [if_neg (by omega), if_pos (by omega)] at c2; omega
   ·rw [if_neg q1] at c1
    by_cases q2 : a.Relation > b.Relation
    ·rw [if_pos q2] at c1; omega
    ·omega
  rw [if_neg (by omega), if_neg (by omega)] at c1 c2
  rw [<- r] at hk b3; rw [<- r1] at b2
  refine ⟨r1, ?_⟩
  rw [<- r1]
  exact cmpL_conv c1 c2 (by omega) (by omega) (by omega) hk
variable (h : vDb d = true) (hf : Fits d)
theorem fits_val {i : Nat} (hf : Fits d) (hi : i < d.Facts.length) : d.Facts[i].Values.length <= 1048576 := hf.2.2 _ (List.getElem_mem hi)
include h hf
theorem blockSpec {i : Nat} (hi : i < d.Facts.length) : f74 d i = some (blk (skOf d) i d.Facts.length) := by
 have hn := (vDb_of h).2.1
 unfold f74
 rw [iter_flat (List.range d.Facts.length) (fun k => if skOf d i k = true then [((k : Nat) : Int)] else []) id (fun k hk => by
  simp only [List.length_range] at hk
  have el : (((List.range d.Facts.length).take k).flatMap fun k => if skOf d i k = true then [((k : Nat) : Int)] else []).length <= k := by
   have := take_flat_le (l := List.range d.Facts.length) (i := k) (g := fun k => if skOf d i k = true then [((k : Nat) : Int)] else []) (m := 1) (fun a => by split <;> simp)
   omega
  generalize ((List.range d.Facts.length).take k).flatMap (fun k => if skOf d i k = true then [((k : Nat) : Int)] else []) = out at el ⊢
  simp only [List.getElem_range]
  simp only [f74_0]
  have eb : btw (i : Int) 0 (w64 ((d.Facts.length : Int) - 1)) = true := by rw [w64_of (by omega)]; unfold btw; simp; omega
  rw [if_pos (by omega), specDb (fits_room hf), h]
  simp only [bS, if_true, specIn, eb]
  rw [ix_nat hi, ix_nat hk, w64_succ (by omega)]
  simp only [bS, specSame (fits_room hf).1 (fits_val hf hi) (fits_val hf hk) (vDb_of h).1 (fact_ok h hi) (fact_ok h hk)]
  rw [<- sk_get hi hk]
  cases skOf d i k
  ·simp
  ·simp only [if_true]
   rw [app_fits (by simp; omega)]; simp) (by
  simp only [f74_0]
  rw [if_neg (by simp)]; rfl)]
 rfl
theorem blocksSpec : f47 d = some (blks (skOf d) d.Facts.length d.Facts.length) := by
 have hn := (vDb_of h).2.1
 unfold f47
 rw [iter_flat (List.range d.Facts.length) (fun i => if start (skOf d) i = true then [blk (skOf d) i d.Facts.length] else []) id (fun i hi => by
  simp only [List.length_range] at hi
  have el : (((List.range d.Facts.length).take i).flatMap fun i => if start (skOf d) i = true then [blk (skOf d) i d.Facts.length] else []).length <= i := by
   have := take_flat_le (l := List.range d.Facts.length) (i := i) (g := fun i => if start (skOf d) i = true then [blk (skOf d) i d.Facts.length] else []) (m := 1) (fun a => by split <;> simp)
   omega
  generalize ((List.range d.Facts.length).take i).flatMap (fun i => if start (skOf d) i = true then [blk (skOf d) i d.Facts.length] else []) = out at el ⊢
  simp only [List.getElem_range]
  simp only [f47_0]
  obtain ⟨s, t, e1, e2, e3⟩ := blk_head (kin h) hi (Nat.le_refl _) hi
  have e0 : ix (blk (skOf d) i d.Facts.length) 0 = some ((s : Nat) : Int) := by rw [e1]; rfl
  rw [if_pos (by omega), specDb (fits_room hf), h]
  simp only [bS, if_true, blockSpec h hf hi, e0]
  rw [w64_succ (by omega)]
  by_cases c : start (skOf d) i = true
  ·rw [if_pos (by have := e3.2 c; omega), if_pos c, app_fits (by simp; omega)]; rfl
  ·rw [if_neg (by intro q; exact c (e3.1 (by omega))), if_neg c]; simp) (by
  simp only [f47_0]
  rw [if_neg (by simp)]; rfl)]
 rfl
theorem blocksImp : f59 d = some (blks (skOf d) d.Facts.length d.Facts.length) := by
 have hn := (vDb_of h).2.1
 unfold f59
 have := iter_steps (f := f59_0 d) (fun i => (blks (skOf d) i i, (i : Int))) d.Facts.length (blks (skOf d) d.Facts.length d.Facts.length) (fun x hx => by
  have hl := blks_len (sk := skOf d) (y := x) (x := x)
  simp only [f59_0]
  rw [if_pos (by omega), ix_nat hx, bS, w64_succ (by omega), w64_of (by omega)]
  cases hs : start (skOf d) x
  ·obtain ⟨P, B, e1, e2, e3, s, t, h1, e4, h2⟩ := blks_more (kin h) hx hs
   rw [e1] at hl ⊢
   rw [e2]
   simp only [List.length_append, List.length_singleton] at hl ⊢
   have q : ((P.length + 1 : Nat) : Int) - 1 = ((P.length : Nat) : Int) := by omega
   rw [q, if_pos (by omega), ix_nat (by simp)]
   have e0 : ix B 0 = some ((s : Nat) : Int) := by rw [e4]; rfl
   simp only [List.getElem_concat_length, bS, e0]
   rw [ix_nat (by omega : s < d.Facts.length), bS, impSame (fits_val hf _) (fits_val hf hx) (vDb_of h).1 (fact_ok h _) (fact_ok h hx)]
   rw [<- sk_get (by omega : s < d.Facts.length) hx, h2]
   simp only [bS, if_true]
   rw [app_fits (by simp; omega)]
   simp
  ·rw [blks_start (kin h) hx hs]
   by_cases c : blks (skOf d) x x = []
   ·rw [c]
    simp only [List.length_nil]
    rw [if_neg (by omega)]
    simp only [bS, Bool.false_eq_true, if_false]
    rw [app_fits (by simp)]; simp
   ·obtain ⟨P, B, e1⟩ : ∃ P B, blks (skOf d) x x = P ++ [B] := ⟨_, _, (List.dropLast_concat_getLast c).symm⟩
    obtain ⟨_, s, t, h1, e4⟩ := blks_mem (kin h) (y := x) (x := x) (Nat.le_refl _) (by omega) (B := B) (by rw [e1]; simp)
    rw [e1] at hl ⊢
    simp only [List.length_append, List.length_singleton] at hl ⊢
    have q : ((P.length + 1 : Nat) : Int) - 1 = ((P.length : Nat) : Int) := by omega
    rw [q, if_pos (by omega), ix_nat (by simp)]
    have e0 : ix B 0 = some ((s : Nat) : Int) := by rw [e4]; rfl
    simp only [List.getElem_concat_length, bS, e0]
    rw [ix_nat (by omega : s < d.Facts.length), bS, impSame (fits_val hf _) (fits_val hf hx) (vDb_of h).1 (fact_ok h _) (fact_ok h hx)]
    rw [<- sk_get (by omega : s < d.Facts.length) hx, start_iff.1 hs s h1]
    simp only [bS, Bool.false_eq_true, if_false]
    rw [app_fits (by simp; omega)]; simp) (by
  simp only [f59_0]
  rw [if_neg (by omega)])
 erw [this]
 rfl
omit h hf
def rep (d : Database) (l : List Int) : List Int × Bool := if (vDb d && asc d.Facts.length l) = true then picks l.contains (blks (skOf d) d.Facts.length d.Facts.length) else ([], false)
theorem rep_len {l : List Int} : (rep d l).1.length <= 14 := by
 unfold rep
 split
 ·rename_i h
  simp only [Bool.and_eq_true] at h
  have := picks_len (c := l.contains) (bs := blks (skOf d) d.Facts.length d.Facts.length)
  have := blks_len (sk := skOf d) (y := d.Facts.length) (x := d.Facts.length)
  have := (vDb_of h.1).2.1
  omega
 ·simp
theorem repImp {l : List Int} (hf : Fits d) (hl : l.length <= 1048576) : f36 d l = some (rep d l) := by
 unfold f36 rep
 rw [impDb (fits_room hf), bS]
 cases h : vDb d
 ·simp
 ·rw [impSet (fits_room hf).2.1 (by omega)]
  cases ha : asc d.Facts.length l
  ·simp
  ·have hn := (vDb_of h).2.1
   have hb := blks_len (sk := skOf d) (y := d.Facts.length) (x := d.Facts.length)
   simp only [not_true_eq_false, if_false, bS, decide_false, Bool.false_eq_true, blocksImp h hf, Bool.and_self, if_true]
   rw [iter_pick _ l.contains (fun i hi out ho => by
    have hm := blks_mem (kin h) (Nat.le_refl _) (Nat.le_refl _) (List.getElem_mem hi)
    simp only [f36_0]
    rw [if_pos (by omega), ix_nat hi, bS]
    obtain ⟨o, h1, h2⟩ := indexFst (s := (blks (skOf d) d.Facts.length d.Facts.length)[i]) (f := fun x0 => f68 x0 l) (p := l.contains) (by omega) (fun a _ => by
     unfold f68
     rw [containsI (by omega)]; rfl)
    rw [h1, bS, w64_succ (by omega)]
    revert h2
    cases (blks (skOf d) d.Facts.length d.Facts.length)[i].find? l.contains with
    | none => intro h2; dsimp only at h2; subst h2; simp
    | some v =>
     intro h2; dsimp only at h2
     rw [if_neg (by omega), h2.2, bS, app_fits (by simp; omega)]; rfl) (fun out => by
    simp only [f36_0]
    rw [if_neg (by omega)])]
   unfold picks
   split <;> rfl
theorem repSpec {l : List Int} (hf : Fits d) (hl : l.length <= 1048576) : f27 d l = some (rep d l) := by
 unfold f27 rep
 rw [specDb (fits_room hf), bS]
 cases h : vDb d
 ·simp
 ·rw [specSet (fits_room hf).2.1 (by omega)]
  cases ha : asc d.Facts.length l
  ·simp
  ·have hn := (vDb_of h).2.1
   have hb := blks_len (sk := skOf d) (y := d.Facts.length) (x := d.Facts.length)
   simp only [not_true_eq_false, if_false, bS, decide_false, Bool.false_eq_true, blocksSpec h hf, Bool.and_self, if_true]
   rw [iter_pick _ l.contains (fun i hi out ho => by
    have hm := (blks_mem (kin h) (Nat.le_refl _) (Nat.le_refl _) (List.getElem_mem hi)).1
    simp only [f27_0]
    rw [if_pos (by omega), w64_succ (by omega)]
    have key : iter (f27_1 l (blks (skOf d) d.Facts.length d.Facts.length) i) (out, false, 0) = some (match (blks (skOf d) d.Facts.length d.Facts.length)[i].find? l.contains with | none => (out, false) | some v => (out ++ [v], true)) := by
     generalize hB : (blks (skOf d) d.Facts.length d.Facts.length)[i] = B at hm
     have hix : ix (blks (skOf d) d.Facts.length d.Facts.length) (i : Int) = some B := by rw [ix_nat hi, hB]
     obtain ⟨r, q1, q2⟩ := iter_up (f := f27_1 l (blks (skOf d) d.Facts.length d.Facts.length) i) B.length
      (fun k s => s.2.2 = (k : Int) /\ ((s.1 = out /\ s.2.1 = false /\ (B.take k).find? l.contains = none) \/ (∃ v, s.1 = out ++ [v] /\ s.2.1 = true /\ B.find? l.contains = some v)))
      (fun r => r = (match B.find? l.contains with | none => (out, false) | some v => (out ++ [v], true))) (fun k s hk ⟨a, b⟩ => by
       obtain ⟨o, m, x⟩ := s
       dsimp only at a b
       subst a
       simp only [f27_1]
       rw [hix, bS, if_pos (by omega), w64_succ (by omega)]
       rcases b with ⟨rfl, rfl, b⟩ | ⟨v, rfl, rfl, b⟩
       ·simp only [Bool.false_eq_true, not_false_eq_true, decide_true, bS, if_true]
        rw [ix_nat hk, bS, hasI (by omega), bS]
        by_cases c : l.contains B[k] = true
        ·rw [if_pos c, app_fits (by simp; omega)]
         refine ⟨_, rfl, rfl, .inr ⟨B[k], rfl, rfl, ?_⟩⟩
         have e := congrArg (List.find? l.contains) (List.take_append_drop k B)
         rw [List.find?_append, b, List.drop_eq_getElem_cons hk, List.find?_cons_of_pos c] at e
         rw [<- e]; rfl
        ·rw [if_neg c]
         refine ⟨_, rfl, rfl, .inl ⟨rfl, rfl, ?_⟩⟩
         rw [take_succ' hk, List.find?_append, b, List.find?_cons_of_neg c]; simp
       ·simp only [not_true_eq_false, decide_false, bS, Bool.false_eq_true, if_false]
        exact ⟨_, rfl, by rw [b]⟩) (fun s ⟨a, b⟩ => by
       obtain ⟨o, m, x⟩ := s
       dsimp only at a b
       subst a
       simp only [f27_1]
       rw [hix, bS, if_neg (by omega)]
       refine ⟨_, rfl, ?_⟩
       rcases b with ⟨rfl, rfl, b⟩ | ⟨v, rfl, rfl, b⟩
       ·rw [List.take_of_length_le (Nat.le_refl _)] at b; rw [b]
       ·rw [b]) (out, false, 0) ⟨rfl, .inl ⟨rfl, rfl, by simp⟩⟩
     rw [q1, q2]
    rw [key]
    cases (blks (skOf d) d.Facts.length d.Facts.length)[i].find? l.contains with
    | none => simp
    | some v => simp) (fun out => by
    simp only [f27_0]
    rw [if_neg (by omega)])]
   unfold picks
   have hp := (pick_up (kin h) (c := l.contains) (Nat.le_refl _)).1
   have hq := pick_len (c := l.contains) (bs := blks (skOf d) d.Facts.length d.Facts.length)
   split
   ·simp only [bS]
    rw [sortUp (by omega) hp]; rfl
   ·rfl
end
section
variable {d : Database} {n : Nat} {sk : Nat -> Nat -> Bool}
theorem asc_of {s : List Int} (h : asc n s = true) : s.Pairwise (· < ·) /\ ∀ v ∈ s, 0 <= v /\ v < n := by
 have hg := fun i (hi : i < s.length) => good_of h hi
 refine ⟨?_, ?_⟩
 ·rw [List.pairwise_iff_getElem]
  intro i j hi hj hij
  induction j with
  | zero => omega
  | succ j ih =>
   have h1 := (hg (j + 1) hj).2 (by omega)
   simp only [Nat.add_sub_cancel, decide_eq_true_eq] at h1
   by_cases e : i = j
   ·subst e; exact h1
   ·have := ih (by omega) (by omega); omega
 ·intro v hv
  obtain ⟨i, hi, rfl⟩ := List.getElem_of_mem hv
  have h1 := (hg i hi).1
  simp only [btw, Bool.and_eq_true, decide_eq_true_eq] at h1
  omega
theorem asc_mk {s : List Int} (h : s.Pairwise (· < ·)) (hb : ∀ v ∈ s, 0 <= v /\ v < n) : asc n s = true := by
 refine decide_eq_true fun i hi => ?_
 have h1 := hb _ (List.getElem_mem hi)
 simp only [btw, Bool.and_eq_true, Bool.or_eq_true, decide_eq_true_eq]
 refine ⟨⟨h1.1, by omega⟩, ?_⟩
 by_cases e : i = 0
 ·exact .inl e
 ·exact .inr (List.pairwise_iff_getElem.1 h (i - 1) i (by omega) hi (by omega))
theorem up_nodup {s : List Int} (h : s.Pairwise (· < ·)) : s.Nodup := h.imp fun hab e => by omega
theorem asc_len {s : List Int} (h : asc n s = true) : s.length <= n := nodup_le (up_nodup (asc_of h).1) (asc_of h).2
def fat (d : Database) (v : Int) : Fact := d.Facts.getD v.toNat default
def sel (d : Database) (s : List Int) : Database := ⟨d.Relations, s.map (fat d)⟩
theorem fat_get {i : Nat} (hi : i < d.Facts.length) : fat d (i : Int) = d.Facts[i] := by
 unfold fat
 rw [Int.toNat_natCast, zD, zE hi]; rfl
theorem fat_mem {v : Int} (h : 0 <= v /\ v < d.Facts.length) : fat d v ∈ d.Facts := by
 have : v = ((v.toNat : Nat) : Int) := by omega
 rw [this, fat_get (by omega)]; exact List.getElem_mem _
theorem fat_up (h : vDb d = true) {a b : Int} (ha : 0 <= a) (hab : a < b) (hb : b < d.Facts.length) : cmpF (fat d a) (fat d b) < 0 := by
 have ea : a = ((a.toNat : Nat) : Int) := by omega
 have eb : b = ((b.toNat : Nat) : Int) := by omega
 rw [ea, eb, fat_get (by omega), fat_get (by omega)]
 exact facts_up h (by omega) (by omega)
theorem sel_len {s : List Int} : (sel d s).Facts.length = s.length := by simp [sel]
theorem sel_v (h : vDb d = true) {s : List Int} (hs : asc d.Facts.length s = true) : vDb (sel d s) = true := by
 obtain ⟨v1, v2, v3⟩ := vDb_of h
 obtain ⟨s1, s2⟩ := asc_of hs
 unfold vDb
 simp only [Bool.and_eq_true, decide_eq_true_eq]
 refine ⟨v1, by rw [sel_len]; have := asc_len hs; omega, decide_eq_true fun i hi => ?_⟩
 rw [sel_len] at hi
 simp only [Bool.and_eq_true, Bool.or_eq_true, decide_eq_true_eq]
 have hm := s2 _ (List.getElem_mem hi)
 refine ⟨?_, ?_⟩
 ·have : (sel d s).Facts[i]'(by rw [sel_len]; exact hi) = fat d s[i] := by simp [sel]
  rw [this]
  obtain ⟨k, hk, e⟩ := List.getElem_of_mem (fat_mem hm)
  rw [<- e]; exact fact_ok h hk
 ·by_cases e : i = 0
  ·exact .inl e
  ·refine .inr ?_
   have e1 : (sel d s).Facts[i]'(by rw [sel_len]; exact hi) = fat d s[i] := by simp [sel]
   have e2 : (sel d s).Facts[i - 1]'(by rw [sel_len]; omega) = fat d (s[i - 1]'(by omega)) := by simp [sel]
   rw [e1, e2]
   exact fat_up h (s2 _ (List.getElem_mem (by omega))).1 (List.pairwise_iff_getElem.1 s1 (i - 1) i (by omega) hi (by omega)) hm.2
def apart (d : Database) (s : List Int) : Prop := s.Pairwise fun a b => same d.Relations (fat d a) (fat d b) = false
instance {s : List Int} : Decidable (apart d s) := by unfold apart; infer_instance
def prt (d : Database) (s : List Int) : Bool := vDb d && (asc d.Facts.length s && decide (apart d s))
theorem blks_all {y x : Nat} : (blks sk y x).length = y ↔ ∀ i, i < y -> start sk i = true := by
 induction y with
 | zero => simp [blks]
 | succ y ih =>
  have hle := blks_len (sk := sk) (y := y) (x := x)
  rw [blks_succ, List.length_append]
  by_cases h : start sk y = true
  ·rw [if_pos h]
   simp only [List.length_cons, List.length_nil, Nat.zero_add, Nat.add_right_cancel_iff, ih]
   exact ⟨fun q i hi => by
    by_cases e : i = y
    ·subst e; exact h
    ·exact q i (by omega), fun q i hi => q i (by omega)⟩
  ·rw [if_neg h]
   simp only [List.length_nil]
   exact ⟨fun q => by omega, fun q => absurd (q y (by omega)) h⟩
theorem con_iff {s : List Int} : (blks (skOf (sel d s)) s.length s.length).length = s.length ↔ apart d s := by
 rw [blks_all]
 unfold apart
 rw [List.pairwise_iff_getElem]
 have key : ∀ i k (hi : i < s.length) (hk : k < s.length), skOf (sel d s) i k = same d.Relations (fat d s[i]) (fat d s[k]) := fun i k hi hk => by
  rw [sk_get (by rw [sel_len]; exact hi) (by rw [sel_len]; exact hk)]
  simp [sel]
 constructor
 ·intro h i j hi hj hij
  rw [<- key i j hi hj]
  exact start_iff.1 (h j hj) i hij
 ·intro h i hi
  refine start_iff.2 fun k hk => ?_
  rw [key k i (by omega) hi]
  exact h k i (by omega) hi hk
theorem sel_fits (hf : Fits d) {s : List Int} (hs : asc d.Facts.length s = true) : Fits (sel d s) := by
 refine ⟨hf.1, by rw [sel_len]; have := asc_len hs; have := hf.2.1; omega, fun x hx => ?_⟩
 simp only [sel, List.mem_map] at hx
 obtain ⟨v, hv, rfl⟩ := hx
 exact hf.2.2 _ (fat_mem ((asc_of hs).2 v hv))
end
section
theorem flat_take {L : List (List Int)} {i : Nat} : (L.take i).flatten.length <= L.flatten.length := by
 conv => rhs; rw [<- List.take_append_drop i L, List.flatten_append, List.length_append]
 omega
theorem concatN {L : List (List Int)} (hL : L.length <= 1048576) (h : L.flatten.length <= 1048576) : f121 L = some L.flatten := by
 unfold f121
 have q : ∀ i (hi : i < L.length), (L.take (i + 1)).flatten = (L.take i).flatten ++ L[i] := fun i hi => by rw [take_succ' hi, List.flatten_append]; simp
 have h1 := iter_steps (f := f121_0 L) (fun i => (((L.take i).flatten.length : Int), (i : Int))) L.length (L.flatten.length : Int) (fun i hi => by
  have e := congrArg List.length (q i hi)
  rw [List.length_append] at e
  have b := flat_take (L := L) (i := i + 1)
  simp only [f121_0]
  rw [if_pos (by omega), ix_nat hi, bS, w64_succ (by omega), w64_of (by omega), if_neg (by omega), bS, e]
  rw [Int.natCast_add (List.take i L).flatten.length]) (by
  simp only [f121_0]
  rw [if_neg (by omega), List.take_of_length_le (Nat.le_refl _)])
 simp only [List.take_zero, List.flatten_nil, List.length_nil, Int.natCast_zero, Int.ofNat_zero] at h1
 erw [h1]
 rw [bS]
 unfold f149 growN
 rw [if_pos ⟨by omega, by unfold room; omega⟩, bS]
 have h2 := iter_steps (f := f121_1 L) (fun i => (L.flatten.length - (L.take i).flatten.length, (L.take i).flatten, (i : Int))) L.length (0, L.flatten) (fun i hi => by
  have e := congrArg List.length (q i hi)
  rw [List.length_append] at e
  have b := flat_take (L := L) (i := i + 1)
  simp only [f121_1]
  rw [if_pos (by omega), ix_nat hi, bS, w64_succ (by omega)]
  unfold apps
  rw [if_pos ⟨by omega, by unfold room; omega⟩, bS, q i hi]
  simp only [List.length_append]
  rw [Nat.sub_sub]) (by
  simp only [f121_1]
  rw [if_neg (by omega), List.take_of_length_le (Nat.le_refl _), Nat.sub_self])
 simp only [List.take_zero, List.flatten_nil, List.length_nil, Nat.sub_zero, Int.natCast_zero, Int.ofNat_zero] at h2
 rw [Int.toNat_natCast]
 erw [h2]
 simp [nsk]
theorem sort12 {x : List Int} (h : x.length <= 12) : Ens (f86 x) fun r => r.Pairwise (· <= ·) /\ r.Perm x := by
 unfold f86 sortN srtL
 rw [if_pos (by omega)]
 refine Ens.of ⟨?_, List.mergeSort_perm _ _⟩
 have := List.pairwise_mergeSort (le := fun a b : Int => decide (a <= b)) (fun a b c h1 h2 => by simp at *; omega) (fun a b => by simp; omega) x
 exact this.imp fun h => by simpa using h
theorem compact_up : ∀ {l : List Int}, l.Pairwise (· <= ·) -> (compactL l).Pairwise (· < ·) /\ ∀ y, y ∈ compactL l ↔ y ∈ l
 | [], h => by simp [compactL]
 | [a], h => by simp [compactL]
 | a :: b :: r, h => by
  rw [List.pairwise_cons] at h
  obtain ⟨i1, i2⟩ := compact_up h.2
  rw [compactL]
  split
  ·rename_i e
   subst e
   exact ⟨i1, fun y => by rw [i2]; simp⟩
  ·rename_i e
   refine ⟨List.pairwise_cons.2 ⟨fun y hy => ?_, i1⟩, fun y => by simp [i2]⟩
   rw [i2] at hy
   have h1 := h.1 b (by simp)
   rcases List.mem_cons.1 hy with rfl | hy
   ·omega
   ·have := (List.pairwise_cons.1 h.2).1 y hy; omega
theorem union12 {a b : List Int} (h : a.length + b.length <= 12) : Ens (f93 a b) fun r => r.Pairwise (· < ·) /\ (∀ y, y ∈ r ↔ y ∈ a \/ y ∈ b) /\ r.length <= 12 := by
 unfold f93
 have e : [a, b].flatten = a ++ b := by simp
 rw [concatN (by simp) (by rw [e]; simp; omega), e, bS]
 refine Ens.bind (sort12 (by simp; omega)) fun r hr => ?_
 have hl := hr.2.length_eq
 simp only [List.length_append] at hl
 unfold f122 compactN
 rw [if_pos (by omega)]
 obtain ⟨c1, c2⟩ := compact_up hr.1
 exact Ens.of ⟨c1, fun y => by rw [c2, hr.2.mem_iff, List.mem_append], by have := compactL_len r; omega⟩
theorem up_ext : ∀ {a b : List Int}, a.Pairwise (· < ·) -> b.Pairwise (· < ·) -> (∀ y, y ∈ a ↔ y ∈ b) -> a = b
 | [], [], _, _, _ => rfl
 | [], y :: b, _, _, h => by have := (h y).2 (by simp); cases this
 | x :: a, [], _, _, h => by have := (h x).1 (by simp); cases this
 | x :: a, y :: b, ha, hb, h => by
  rw [List.pairwise_cons] at ha hb
  have e : x = y := by
   have h1 := (h x).1 (by simp)
   have h2 := (h y).2 (by simp)
   rcases List.mem_cons.1 h1 with e | h1
   ·exact e
   ·rcases List.mem_cons.1 h2 with e | h2
    ·exact e.symm
    ·have := ha.1 y h2; have := hb.1 x h1; omega
  subst e
  congr 1
  refine up_ext ha.2 hb.2 fun y => ?_
  have := h y
  constructor
  ·intro hy
   have q := ha.1 y hy
   rcases List.mem_cons.1 (this.1 (List.mem_cons.2 (.inr hy))) with e | e
   ·omega
   ·exact e
  ·intro hy
   have q := hb.1 y hy
   rcases List.mem_cons.1 (this.2 (List.mem_cons.2 (.inr hy))) with e | e
   ·omega
   ·exact e
end
section
def avars (t : List Int) : List Int := (List.range 4).flatMap fun v => if t.contains ((v : Nat) : Int) = true then [((v : Nat) : Int)] else []
theorem avars_up {t : List Int} : (avars t).Pairwise (· < ·) := by
 unfold avars
 simp only [List.range, List.range.loop, List.flatMap_cons, List.flatMap_nil, List.append_nil]
 generalize t.contains ((0 : Nat) : Int) = a
 generalize t.contains ((1 : Nat) : Int) = b
 generalize t.contains ((2 : Nat) : Int) = c
 generalize t.contains ((3 : Nat) : Int) = d
 cases a <;> cases b <;> cases c <;> cases d <;> simp
theorem avars_mem {t : List Int} {y : Int} : y ∈ avars t ↔ y ∈ t /\ btw y 0 3 = true := by
 unfold avars btw
 simp only [List.mem_flatMap, List.mem_range, Bool.and_eq_true, decide_eq_true_eq]
 constructor
 ·rintro ⟨v, hv, h⟩
  by_cases c : t.contains ((v : Nat) : Int) = true
  ·rw [if_pos c, List.mem_singleton] at h
   subst h
   exact ⟨by simpa using c, by omega, by omega⟩
  ·rw [if_neg c] at h; cases h
 ·rintro ⟨h, h1, h2⟩
  refine ⟨y.toNat, by omega, ?_⟩
  rw [Int.toNat_of_nonneg h1, if_pos (by simpa using h)]
  simp
theorem impVars {a : Atom} (h : a.Terms.length <= 12) : f94 a = some (avars a.Terms) := by
 unfold f94
 rw [iter_flat a.Terms (fun v => if btw v 0 3 = true then [v] else []) id (fun k hk => by
  have el : ((a.Terms.take k).flatMap fun v => if btw v 0 3 = true then [v] else []).length <= k := by
   have := take_flat_le (l := a.Terms) (i := k) (g := fun v => if btw v 0 3 = true then [v] else []) (m := 1) (fun a => by split <;> simp)
   omega
  generalize (a.Terms.take k).flatMap (fun v => if btw v 0 3 = true then [v] else []) = out at el ⊢
  simp only [f94_0]
  rw [if_pos (by omega), ix_nat hk, bS, impIn, bS, w64_succ (by omega)]
  by_cases c : btw a.Terms[k] 0 3 = true
  ·rw [if_pos c, if_pos c, app_fits (by simp; omega)]; rfl
  ·rw [if_neg c, if_neg c]; simp) (by
  simp only [f94_0]
  rw [if_neg (by omega)]; rfl)]
 rw [bS]
 dsimp only [id]
 have el : (a.Terms.flatMap fun v => if btw v 0 3 = true then [v] else []).length <= a.Terms.length := by
  have := take_flat_le (l := a.Terms) (i := a.Terms.length) (g := fun v => if btw v 0 3 = true then [v] else []) (m := 1) (fun a => by split <;> simp)
  rw [List.take_of_length_le (Nat.le_refl _)] at this
  omega
 obtain ⟨r, h1, h2, h3, _⟩ := union12 (a := a.Terms.flatMap fun v => if btw v 0 3 = true then [v] else []) (b := []) (by rw [List.length_nil]; omega)
 rw [h1, bS]
 congr 1
 refine up_ext h2 avars_up fun y => ?_
 rw [h3, avars_mem, List.mem_flatMap]
 constructor
 ·rintro (⟨v, hv, h⟩ | h)
  ·by_cases c : btw v 0 3 = true
   ·rw [if_pos c, List.mem_singleton] at h; subst h; exact ⟨hv, c⟩
   ·rw [if_neg c] at h; cases h
  ·cases h
 ·rintro ⟨h, c⟩
  exact .inl ⟨y, h, by rw [if_pos c]; simp⟩
theorem vRels_arity {l : List Relation} {r : Int} (h : vRels l = true) (hb : btw r 0 (l.length - 1) = true) : arity l r <= 3 := by
 obtain ⟨x, h1, h2, h3, _⟩ := ix_rel hb
 unfold vRels at h; simp only [Bool.and_eq_true] at h
 obtain ⟨i, hi, rfl⟩ := List.mem_iff_getElem.1 h2
 have := (good_of h.1 hi).1
 unfold vRel btw at this
 simp only [Bool.and_eq_true, decide_eq_true_eq] at this
 omega
end
section
def nfl (X : Int -> Bool) : List Int := (List.range 4).flatMap fun v => if X ((v : Nat) : Int) = true then [((v : Nat) : Int)] else []
def In4 (X : Int -> Bool) : Prop := ∀ v, X v = true -> btw v 0 3 = true
def Le4 (X Y : Int -> Bool) : Prop := ∀ v, X v = true -> Y v = true
def cupX (X Y : Int -> Bool) : Int -> Bool := fun v => X v || Y v
theorem Le4.refl {X : Int -> Bool} : Le4 X X := fun _ h => h
theorem Le4.trans {X Y Z : Int -> Bool} (h : Le4 X Y) (g : Le4 Y Z) : Le4 X Z := fun v hv => g v (h v hv)
theorem avars_nfl {t : List Int} : avars t = nfl t.contains := rfl
theorem nfl_mem {X : Int -> Bool} {y : Int} : y ∈ nfl X ↔ X y = true /\ btw y 0 3 = true := by
 unfold nfl btw
 simp only [List.mem_flatMap, List.mem_range, Bool.and_eq_true, decide_eq_true_eq]
 constructor
 ·rintro ⟨v, hv, h⟩
  by_cases c : X ((v : Nat) : Int) = true
  ·rw [if_pos c, List.mem_singleton] at h
   subst h
   exact ⟨c, by omega, by omega⟩
  ·rw [if_neg c] at h; cases h
 ·rintro ⟨h, h1, h2⟩
  refine ⟨y.toNat, by omega, ?_⟩
  rw [Int.toNat_of_nonneg h1, if_pos h]
  simp
theorem nfl_up {X : Int -> Bool} : (nfl X).Pairwise (· < ·) := by
 unfold nfl
 simp only [List.range, List.range.loop, List.flatMap_cons, List.flatMap_nil, List.append_nil]
 generalize X ((0 : Nat) : Int) = a
 generalize X ((1 : Nat) : Int) = b
 generalize X ((2 : Nat) : Int) = c
 generalize X ((3 : Nat) : Int) = d
 cases a <;> cases b <;> cases c <;> cases d <;> simp
theorem nfl_len {X : Int -> Bool} : (nfl X).length <= 4 := by
 unfold nfl
 simp only [List.range, List.range.loop, List.flatMap_cons, List.flatMap_nil, List.append_nil, List.length_append]
 split <;> split <;> split <;> split <;> simp
theorem nfl_congr {X Y : Int -> Bool} (h : ∀ v, btw v 0 3 = true -> X v = Y v) : nfl X = nfl Y := by
 refine up_ext nfl_up nfl_up fun y => ?_
 rw [nfl_mem, nfl_mem]
 constructor <;> rintro ⟨a, b⟩ <;> exact ⟨by rw [<- a, h y b], b⟩
theorem nfl_in {X : Int -> Bool} : In4 (nfl X).contains := fun v hv => by
 rw [List.contains_iff_mem, nfl_mem] at hv; exact hv.2
theorem nfl_nil : nfl (fun _ => false) = [] := by simp [nfl]
theorem unionI {a b : List Int} (h : a.length + b.length <= 12) (ha : In4 a.contains) (hb : In4 b.contains) : f93 a b = some (nfl (cupX a.contains b.contains)) := by
 obtain ⟨r, h1, h2, h3, _⟩ := union12 h
 rw [h1]
 congr 1
 refine up_ext h2 nfl_up fun y => ?_
 rw [h3, nfl_mem]
 unfold cupX
 simp only [Bool.or_eq_true, List.contains_iff_mem]
 constructor
 ·intro hy
  refine ⟨hy, ?_⟩
  rcases hy with hy | hy
  ·exact ha y (by rw [List.contains_iff_mem]; exact hy)
  ·exact hb y (by rw [List.contains_iff_mem]; exact hy)
 ·exact fun h => h.1
structure Rule where
 c : (Int -> Bool) -> Bool
 a : Int -> Bool
def fire (X : Int -> Bool) (r : Rule) : Int -> Bool := if r.c X = true then cupX X r.a else X
def pass (L : List Rule) (X : Int -> Bool) : Int -> Bool := L.foldl fire X
def passes (L : List Rule) : Nat -> (Int -> Bool) -> Int -> Bool
 | 0, X => X
 | n + 1, X => pass L (passes L n X)
def cl (L : List Rule) (X : Int -> Bool) : Int -> Bool := passes L L.length X
end
section
def FitsQ (q : Query) : Prop := q.Atoms.length <= 1048576 /\ (∀ a ∈ q.Atoms, a.Terms.length <= 1048576) /\ q.Free.length <= 1048576
def vAt (l : List Relation) (n : Int) (before : List Atom) (a : Atom) : Bool :=
 btw a.Relation 0 (l.length - 1) && (decide ((a.Terms.length : Int) = arity l a.Relation) && ((a.Terms.all fun v => btw v (-10) (n - 1)) && !(before.any fun b => decide (b.Relation = a.Relation))))
def vAtom (l : List Relation) (q : Query) (i : Nat) : Bool := match q.Atoms[i]? with
 | none => true
 | some a => vAt l q.VariableCount (q.Atoms.take i) a
def occ (az : List Atom) : Int -> Bool := fun v => az.any fun a => a.Terms.contains v
def vQuery (l : List Relation) (q : Query) : Bool :=
 vRels l && (btw q.VariableCount 0 4 && (btw q.Atoms.length 1 3 && (((List.range q.Atoms.length).all (vAtom l q)) && (((List.range 4).all fun v => decide (q.VariableCount <= ((v : Nat) : Int)) || occ q.Atoms ((v : Nat) : Int)) && asc q.VariableCount q.Free))))
theorem vAtom_get {l : List Relation} {q : Query} {i : Nat} (h : i < q.Atoms.length) : vAtom l q i = vAt l q.VariableCount (q.Atoms.take i) q.Atoms[i] := by
 unfold vAtom; rw [zE h]
theorem all_false {n i : Nat} {p : Nat -> Bool} (h : i < n) (hp : p i = false) : (List.range n).all p = false := by
 rw [Bool.eq_false_iff]
 intro ha
 have := List.all_eq_true.1 ha i (List.mem_range.2 h)
 rw [hp] at this; cases this
theorem occ_succ {az : List Atom} {i : Nat} (h : i < az.length) {v : Int} : occ (az.take (i + 1)) v = (occ (az.take i) v || az[i].Terms.contains v) := by
 unfold occ; rw [take_succ' h, List.any_append]; simp
theorem has_succ {t : List Int} {k : Nat} (h : k < t.length) {v : Int} : (t.take (k + 1)).contains v = ((t.take k).contains v || decide (v = t[k])) := by
 rw [Bool.eq_iff_iff, List.contains_iff_mem, take_succ' h, List.mem_append, List.mem_singleton, Bool.or_eq_true, List.contains_iff_mem, decide_eq_true_eq]
section
variable {l : List Relation} {q : Query}
theorem specTerms {a : Atom} {mt : List Bool} {X : Int -> Bool} (ht : a.Terms.length <= 1048576) (hn : 0 <= q.VariableCount /\ q.VariableCount <= 4) (hm : mt.length = 4) (hx : ∀ v, v < 4 -> mt[v]? = some (X ((v : Nat) : Int))) :
  Ens (iter (f50_4 q a) (mt, 0)) fun o => match o with
   | .inl m => (a.Terms.all fun v => btw v (-10) (q.VariableCount - 1)) = true /\ m.length = 4 /\ ∀ v, v < 4 -> m[v]? = some (X ((v : Nat) : Int) || a.Terms.contains ((v : Nat) : Int))
   | .inr b => b = false /\ (a.Terms.all fun v => btw v (-10) (q.VariableCount - 1)) = false := by
 refine iter_up (f := f50_4 q a) a.Terms.length (fun k s => s.2 = (k : Int) /\ ((a.Terms.take k).all fun v => btw v (-10) (q.VariableCount - 1)) = true /\ s.1.length = 4 /\ ∀ v, v < 4 -> s.1[v]? = some (X ((v : Nat) : Int) || (a.Terms.take k).contains ((v : Nat) : Int))) _ (fun k s hk hI => ?_) (fun s hI => ?_) (mt, 0) ⟨rfl, by simp, hm, fun v hv => by simp [hx v hv]⟩
 ·obtain ⟨m, x⟩ := s
  obtain ⟨e1, e2, e3, e4⟩ := hI
  dsimp only at e1 e3 e4
  subst e1
  simp only [f50_4]
  rw [if_pos (by omega), ix_nat hk, bS, w64_of (by omega), specIn, bS]
  cases hb : btw a.Terms[k] (-10) (q.VariableCount - 1)
  ·refine ⟨_, rfl, rfl, ?_⟩
   rw [Bool.eq_false_iff]
   intro ha
   have := List.all_eq_true.1 ha _ (List.getElem_mem hk)
   rw [hb] at this; cases this
  ·have hb' := hb
   unfold btw at hb'; simp only [Bool.and_eq_true, decide_eq_true_eq] at hb'
   have ha : ((a.Terms.take (k + 1)).all fun v => btw v (-10) (q.VariableCount - 1)) = true := by
    rw [take_succ' hk, List.all_append, e2]; simp [hb]
   simp only [not_true_eq_false, if_false]
   rw [w64_succ (by omega)]
   by_cases c : a.Terms[k] >= 0
   ·have hi : ix m a.Terms[k] = some (m[a.Terms[k].toNat]'(by omega)) := by rw [ix_of c, zE (by omega)]
    rw [if_pos c, hi]
    simp only [bS]
    refine ⟨_, rfl, rfl, ha, by simp [e3], fun v hv => ?_⟩
    dsimp only
    rw [List.getElem?_set]
    by_cases e : a.Terms[k].toNat = v
    ·rw [if_pos e, if_pos (by omega)]
     have : ((v : Nat) : Int) = a.Terms[k] := by omega
     rw [has_succ hk]
     simp [this]
    ·rw [if_neg e, e4 v hv, has_succ hk]
     have : ¬ ((v : Nat) : Int) = a.Terms[k] := by omega
     simp [this]
   ·rw [if_neg c]
    simp only [bS]
    refine ⟨_, rfl, rfl, ha, e3, fun v hv => ?_⟩
    dsimp only
    rw [e4 v hv, has_succ hk]
    have : ¬ ((v : Nat) : Int) = a.Terms[k] := by omega
    simp [this]
 ·obtain ⟨m, x⟩ := s
  obtain ⟨e1, e2, e3, e4⟩ := hI
  dsimp only at e1 e3 e4
  subst e1
  rw [List.take_of_length_le (Nat.le_refl _)] at e2 e4
  simp only [f50_4]
  rw [if_neg (by omega)]
  exact ⟨_, rfl, e2, e3, e4⟩
theorem specEarlier {a : Atom} {i : Nat} (hi : i <= q.Atoms.length) (hq : q.Atoms.length <= 1048576) : iter (f50_3 q (i : Int) a) 0 = some (if ((q.Atoms.take i).any fun b => decide (b.Relation = a.Relation)) = true then .inr false else .inl ()) := by
 have e : (q.Atoms.take i).length = i := by simp; omega
 refine iter_ex (q.Atoms.take i) (fun b => decide (b.Relation = a.Relation)) false (fun k hk => ?_) ?_
 ·rw [e] at hk
  simp only [f50_3]
  rw [if_pos (by omega), ix_nat (by omega : k < q.Atoms.length), bS, w64_succ (by omega), List.getElem_take]
  by_cases c : q.Atoms[k].Relation = a.Relation
  ·rw [if_pos c, if_pos (by simp [c])]
  ·rw [if_neg c, if_neg (by simp [c])]
 ·simp only [f50_3]
  rw [e, if_neg (by omega)]
theorem specAtoms (hl : Big l.length) (hq : FitsQ q) (hn : 0 <= q.VariableCount /\ q.VariableCount <= 4) :
  Ens (iter (f50_0 l q) ([false, false, false, false], 0)) fun o => match o with
   | .inl m => (List.range q.Atoms.length).all (vAtom l q) = true /\ m.length = 4 /\ ∀ v, v < 4 -> m[v]? = some (occ q.Atoms ((v : Nat) : Int))
   | .inr b => b = false /\ (List.range q.Atoms.length).all (vAtom l q) = false := by
 obtain ⟨q1, q2, q3⟩ := hq
 refine iter_up (f := f50_0 l q) q.Atoms.length (fun i s => s.2 = (i : Int) /\ (∀ j, j < i -> vAtom l q j = true) /\ s.1.length = 4 /\ ∀ v, v < 4 -> s.1[v]? = some (occ (q.Atoms.take i) ((v : Nat) : Int))) _ (fun i s hi hI => ?_) (fun s hI => ?_) _ ⟨rfl, fun j hj => by omega, rfl, fun v hv => ?_⟩
 ·obtain ⟨m, x⟩ := s
  obtain ⟨e1, e2, e3, e4⟩ := hI
  dsimp only at e1 e3 e4
  subst e1
  have hv := vAtom_get (l := l) hi
  simp only [f50_0]
  rw [if_pos (by omega), ix_nat hi, bS, w64_of (by omega), specIn, bS]
  have ht := q2 _ (List.getElem_mem hi)
  unfold vAt at hv
  cases hb : btw q.Atoms[i].Relation 0 (l.length - 1)
  ·rw [hb] at hv
   exact ⟨_, rfl, rfl, all_false hi (by rw [hv]; rfl)⟩
  ·obtain ⟨x, h1, _, h2, _⟩ := ix_rel hb
   rw [hb] at hv
   rw [h1]
   simp only [not_true_eq_false, if_false, bS]
   rw [h2]
   by_cases ha : (q.Atoms[i].Terms.length : Int) = arity l q.Atoms[i].Relation
   ·simp only [ha, not_true_eq_false, if_false, bS, ne_eq, decide_false, Bool.false_eq_true]
    rw [specEarlier (by omega) q1]
    cases hd : (q.Atoms.take i).any fun b => decide (b.Relation = q.Atoms[i].Relation)
    ·simp only [Bool.false_eq_true, if_false, bS]
     obtain ⟨o, ho, hQ⟩ := specTerms (q := q) (a := q.Atoms[i]) (mt := m) (X := occ (q.Atoms.take i)) ht hn e3 e4
     rw [ho]
     cases o with
     | inl m' =>
      obtain ⟨g1, g2, g3⟩ := hQ
      simp only [bS]
      rw [w64_succ (by omega)]
      refine ⟨_, rfl, rfl, fun j hj => ?_, g2, fun v hv => ?_⟩
      ·by_cases e : j = i
       ·subst e; rw [hv, ha, g1, hd]; simp
       ·exact e2 j (by omega)
      ·rw [g3 v hv, occ_succ hi]
     | inr b =>
      obtain ⟨rfl, g⟩ := hQ
      exact ⟨_, rfl, rfl, all_false hi (by rw [hv, g]; simp)⟩
    ·simp only [if_true, bS]
     exact ⟨_, rfl, rfl, all_false hi (by rw [hv, hd]; simp)⟩
   ·simp only [ha, not_true_eq_false, not_false_eq_true, if_false, bS, ne_eq, decide_true, if_true]
    exact ⟨_, rfl, rfl, all_false hi (by rw [hv]; simp [ha])⟩
 ·obtain ⟨m, x⟩ := s
  obtain ⟨e1, e2, e3, e4⟩ := hI
  dsimp only at e1 e3 e4
  subst e1
  rw [List.take_of_length_le (Nat.le_refl _)] at e4
  simp only [f50_0]
  rw [if_neg (by omega)]
  exact ⟨_, rfl, List.all_eq_true.2 fun j hj => e2 j (List.mem_range.1 hj), e3, e4⟩
 ·simp only [List.take_zero, occ, List.any_nil]
  rcases v with _ | _ | _ | _ | v
  ·rfl
  ·rfl
  ·rfl
  ·rfl
  ·omega
theorem specQ (hl : Big l.length) (hq : FitsQ q) : f50 l q = some (vQuery l q) := by
 unfold f50 vQuery
 rw [specRels hl, bS]
 cases vRels l
 ·simp
 simp only [not_true_eq_false, if_false, specIn, bS, Bool.true_and]
 cases hc : btw q.VariableCount 0 4
 ·simp
 cases hn : btw (q.Atoms.length : Int) 1 3
 ·simp
 have hc' := hc
 unfold btw at hc'; simp only [Bool.and_eq_true, decide_eq_true_eq] at hc'
 simp only [not_true_eq_false, if_false, bS, decide_false, Bool.false_eq_true, Bool.true_and]
 rw [mkl_ok (by omega) (by omega) (by omega), bS, show List.replicate (4 : Int).toNat false = [false, false, false, false] from rfl]
 obtain ⟨o, ho, hQ⟩ := specAtoms hl hq hc'
 rw [ho]
 cases o with
 | inr b => obtain ⟨rfl, g⟩ := hQ; rw [g]; simp
 | inl m =>
  obtain ⟨g1, g2, g3⟩ := hQ
  rw [g1]
  simp only [bS, Bool.true_and]
  rw [iter_ex (List.range q.VariableCount.toNat) (fun v => !occ q.Atoms ((v : Nat) : Int)) false (fun v hv => by
   simp only [List.length_range] at hv
   simp only [List.getElem_range]
   simp only [f50_1]
   rw [if_pos (by omega), ix_cast, g3 v (by omega), bS, w64_succ (by omega)]
   cases occ q.Atoms ((v : Nat) : Int) <;> simp) (by
   simp only [f50_1, List.length_range]
   rw [if_neg (by omega)])]
  have ea : ((List.range 4).all fun v => decide (q.VariableCount <= ((v : Nat) : Int)) || occ q.Atoms ((v : Nat) : Int)) = !((List.range q.VariableCount.toNat).any fun v => !occ q.Atoms ((v : Nat) : Int)) := by
   rw [any_not, Bool.not_not, Bool.eq_iff_iff, List.all_eq_true, List.all_eq_true]
   simp only [List.mem_range, Bool.or_eq_true, decide_eq_true_eq]
   constructor
   ·intro h v hv
    exact (h v (by omega)).resolve_left (by omega)
   ·intro h v hv
    by_cases c : q.VariableCount <= ((v : Nat) : Int)
    ·exact .inl c
    ·exact .inr (h v (by omega))
  rw [ea]
  cases (List.range q.VariableCount.toNat).any fun v => !occ q.Atoms ((v : Nat) : Int)
  ·simp only [Bool.false_eq_true, if_false, bS, Bool.not_false, Bool.true_and]
   have hF := hq.2.2
   rw [iter_adj (fun v => btw v 0 (q.VariableCount - 1)) (fun a b => decide (a < b)) q.Free false (fun i hi => by
    simp only [f50_2]
    rw [if_pos (by omega), ix_nat hi, w64_succ (by omega), w64_of (n := q.VariableCount - 1) (by omega)]
    simp only [bS, specIn]
    cases btw q.Free[i] 0 (q.VariableCount - 1)
    ·simp
    ·by_cases h0 : i = 0
     ·subst h0; simp
     ·have e : ix q.Free (w64 ((i : Int) - 1)) = some (q.Free[i - 1]'(by omega)) := by rw [w64_of (by omega), show (i : Int) - 1 = ((i - 1 : Nat) : Int) by omega, ix_nat (by omega)]
      simp only [e]
      have : 0 < i := by omega
      by_cases hb : q.Free[i - 1]'(by omega) < q.Free[i]
      ·simp [h0, this, hb, Int.not_le.2 hb]
      ·simp [h0, this, hb, Int.not_lt.1 hb]) (by
    simp only [f50_2]
    rw [if_neg (by omega)])]
   unfold asc
   cases good (fun v => btw v 0 (q.VariableCount - 1)) (fun a b => decide (a < b)) q.Free <;> simp
  ·simp
theorem containsA {s : List Atom} {f : Atom -> Option Bool} {p : Atom -> Bool} (h : Big s.length) (hf : ∀ a ∈ s, f a = some (p a)) : f91 s f = some (s.any p) := by
 unfold f91 f120
 obtain ⟨o, h1, h2⟩ := iter_idx (f := f120_0 s f) s p (fun i hi => by
  simp only [f120_0]
  rw [if_pos (by omega), ix_nat hi, w64_succ (by omega)]
  simp only [bS, hf _ (List.getElem_mem hi)]
  split <;> rfl) (by
  simp only [f120_0]
  rw [if_neg (by omega)])
 rw [h1]
 cases o with
 | inl _ => dsimp only at h2; rw [h2]; rfl
 | inr x => dsimp only at h2; rw [h2.2]; simp; omega
theorem impAtoms (hl : Big l.length) (hv : vRels l = true) (hq : FitsQ q) (hn : 0 <= q.VariableCount /\ q.VariableCount <= 4) :
  Ens (iter (f63_0 l q) ([], 0)) fun o => match o with
   | .inl m => (List.range q.Atoms.length).all (vAtom l q) = true /\ m = nfl (occ q.Atoms)
   | .inr b => b = false /\ (List.range q.Atoms.length).all (vAtom l q) = false := by
 obtain ⟨q1, q2, q3⟩ := hq
 refine iter_up (f := f63_0 l q) q.Atoms.length (fun i s => s.2 = (i : Int) /\ (∀ j, j < i -> vAtom l q j = true) /\ s.1 = nfl (occ (q.Atoms.take i))) _ (fun i s hi hI => ?_) (fun s hI => ?_) _ ⟨rfl, fun j hj => by omega, nfl_nil.symm⟩
 ·obtain ⟨m, x⟩ := s
  obtain ⟨e1, e2, e3⟩ := hI
  dsimp only at e1 e3
  subst e1; subst e3
  have hva := vAtom_get (l := l) hi
  simp only [f63_0]
  rw [if_pos (by omega), ix_nat hi, bS, w64_of (by omega), impIn, bS]
  have ht := q2 _ (List.getElem_mem hi)
  unfold vAt at hva
  cases hb : btw q.Atoms[i].Relation 0 (l.length - 1)
  ·rw [hb] at hva
   exact ⟨_, rfl, rfl, all_false hi (by rw [hva]; rfl)⟩
  ·obtain ⟨x, h1, _, h2, _⟩ := ix_rel hb
   rw [hb] at hva
   rw [h1]
   simp only [not_true_eq_false, if_false, bS]
   rw [h2]
   by_cases ha : (q.Atoms[i].Terms.length : Int) = arity l q.Atoms[i].Relation
   ·have h3 := vRels_arity hv hb
    have e0 : (q.Atoms.take ((i : Nat) : Int).toNat).drop (0 : Int).toNat = q.Atoms.take i := by simp
    rw [if_neg (by simp [ha]), cutL_ok (by omega) (by omega) (by omega), e0, bS]
    rw [containsA (p := fun b => decide (b.Relation = q.Atoms[i].Relation)) (by simp; omega) (fun b _ => by
     unfold f92
     exact congrArg some (decide_eq_decide.2 ⟨fun h => by first | exact h | exact h.symm, fun h => by first | exact h | exact h.symm⟩))]
    cases hd : (q.Atoms.take i).any fun b => decide (b.Relation = q.Atoms[i].Relation)
    ·simp only [Bool.false_eq_true, if_false, bS]
     rw [iter_ex q.Atoms[i].Terms (fun v => !btw v (-10) (q.VariableCount - 1)) false (fun k hk => by
      simp only [f63_1]
      rw [if_pos (by omega), ix_nat hk, w64_succ (by omega), w64_of (n := q.VariableCount - 1) (by omega)]
      simp only [bS, impIn]
      cases btw q.Atoms[i].Terms[k] (-10) (q.VariableCount - 1) <;> simp) (by
      simp only [f63_1]
      rw [if_neg (by omega)]), any_not]
     cases g1 : q.Atoms[i].Terms.all fun v => btw v (-10) (q.VariableCount - 1)
     ·simp only [Bool.not_false, if_true, bS]
      exact ⟨_, rfl, rfl, all_false hi (by rw [hva, g1]; simp)⟩
     ·simp only [Bool.not_true, Bool.false_eq_true, if_false, bS]
      have n1 := nfl_len (X := occ (q.Atoms.take i))
      have n2 := nfl_len (X := q.Atoms[i].Terms.contains)
      rw [impVars (by omega), bS, avars_nfl, unionI (by omega) nfl_in nfl_in, bS, w64_succ (by omega)]
      refine ⟨_, rfl, rfl, fun j hj => ?_, ?_⟩
      ·by_cases e : j = i
       ·subst e; rw [hva, ha, g1, hd]; simp
       ·exact e2 j (by omega)
      ·refine nfl_congr fun v hv => ?_
       rw [occ_succ hi]
       unfold cupX
       congr 1
       ·rw [Bool.eq_iff_iff, List.contains_iff_mem, nfl_mem]; exact ⟨fun h => h.1, fun h => ⟨h, hv⟩⟩
       ·rw [Bool.eq_iff_iff, List.contains_iff_mem, nfl_mem]; exact ⟨fun h => h.1, fun h => ⟨h, hv⟩⟩
    ·simp only [if_true, bS]
     exact ⟨_, rfl, rfl, all_false hi (by rw [hva, hd]; simp)⟩
   ·rw [if_pos ha]
    exact ⟨_, rfl, rfl, all_false hi (by rw [hva]; simp [ha])⟩
 ·obtain ⟨m, x⟩ := s
  obtain ⟨e1, e2, e3⟩ := hI
  dsimp only at e1 e3
  subst e1; subst e3
  simp only [f63_0]
  rw [if_neg (by omega)]
  exact ⟨_, rfl, List.all_eq_true.2 fun j hj => e2 j (List.mem_range.1 hj), by rw [List.take_of_length_le (Nat.le_refl _)]⟩
theorem nfl_count {X : Int -> Bool} {n : Int} (h0 : 0 <= n) (h4 : n <= 4) (h : ∀ v, 0 <= v -> v < 4 -> X v = true -> v < n) : decide (((nfl X).length : Int) = n) = ((List.range 4).all fun v => decide (n <= ((v : Nat) : Int)) || X ((v : Nat) : Int)) := by
 have h0' := h 0
 have h1 := h 1
 have h2 := h 2
 have h3 := h 3
 unfold nfl
 simp only [List.range, List.range.loop, List.flatMap_cons, List.flatMap_nil, List.append_nil, List.length_append, Int.ofNat_zero, Int.natCast_zero, Int.natCast_one, List.all_cons, List.all_nil]
 have e2 : ((2 : Nat) : Int) = 2 := rfl
 have e3 : ((3 : Nat) : Int) = 3 := rfl
 rw [e2, e3]
 generalize X 0 = a0 at *
 generalize X 1 = a1 at *
 generalize X 2 = a2 at *
 generalize X 3 = a3 at *
 have : n = 0 \/ n = 1 \/ n = 2 \/ n = 3 \/ n = 4 := by omega
 rcases this with rfl | rfl | rfl | rfl | rfl <;> revert h0' h1 h2 h3 <;> cases a0 <;> cases a1 <;> cases a2 <;> cases a3 <;> simp
theorem impQ (hl : Big l.length) (hq : FitsQ q) : f63 l q = some (vQuery l q) := by
 unfold f63 vQuery
 rw [impRels hl, bS]
 cases hv : vRels l
 ·simp
 simp only [not_true_eq_false, if_false, impIn, bS, Bool.true_and]
 cases hc : btw q.VariableCount 0 4
 ·simp
 cases hn : btw (q.Atoms.length : Int) 1 3
 ·simp
 have hc' := hc
 unfold btw at hc'; simp only [Bool.and_eq_true, decide_eq_true_eq] at hc'
 have hF := hq.2.2
 have eS := impSet (l := q.Free) (n := q.VariableCount.toNat) (by omega) (by omega)
 rw [Int.toNat_of_nonneg hc'.1] at eS
 simp only [not_true_eq_false, if_false, bS, Bool.false_eq_true, Bool.true_and, eS]
 cases asc q.VariableCount q.Free
 ·simp
 simp only [not_true_eq_false, decide_false, if_false, bS, Bool.false_eq_true, Bool.and_true]
 obtain ⟨o, ho, hQ⟩ := impAtoms hl hv hq hc'
 rw [ho]
 cases o with
 | inr b => obtain ⟨rfl, g⟩ := hQ; rw [g]; simp
 | inl m =>
  obtain ⟨g1, rfl⟩ := hQ
  rw [g1]
  simp only [bS, Bool.true_and]
  congr 1
  refine nfl_count hc'.1 hc'.2 fun v h0 h4 hx => ?_
  unfold occ at hx
  obtain ⟨a, ha, hx⟩ := List.any_eq_true.1 hx
  obtain ⟨i, hi, rfl⟩ := List.mem_iff_getElem.1 ha
  have := List.all_eq_true.1 g1 i (List.mem_range.2 hi)
  rw [vAtom_get hi] at this
  unfold vAt at this
  simp only [Bool.and_eq_true] at this
  have := List.all_eq_true.1 this.2.2.1 v (by simpa using hx)
  unfold btw at this; simp only [Bool.and_eq_true, decide_eq_true_eq] at this
  omega
end
end
section
def uni : List Int -> List Int -> List Int -> Option (List Int)
 | t :: ts, v :: vs, x => if t < 0 then (if -1 - t = v then uni ts vs x else none) else if x.getD t.toNat 0 < 0 then uni ts vs (x.set t.toNat v) else if x.getD t.toNat 0 = v then uni ts vs x else none
 | _, _, x => some x
theorem uni_len : ∀ {ts vs x y : List Int}, uni ts vs x = some y -> y.length = x.length
 | [], _, x, y, h => by simp [uni] at h; rw [h]
 | _ :: _, [], x, y, h => by simp [uni] at h; rw [h]
 | t :: ts, v :: vs, x, y, h => by
  simp only [uni] at h
  split at h
  ·split at h
   ·exact uni_len h
   ·cases h
  ·split at h
   ·rw [uni_len h]; simp
   ·split at h
    ·exact uni_len h
    ·cases h
def step (F : List Fact) (a : Atom) (x : List Int) (i : Nat) : Option (List Int) := match F[i]? with
 | some f => if f.Relation = a.Relation then uni a.Terms f.Values x else none
 | none => none
def emb (F : List Fact) : List Atom -> List Int -> List Int -> List Embedding
 | [], x, s => [⟨x, s⟩]
 | a :: az, x, s => (List.range F.length).flatMap fun i => match step F a x i with
  | some y => emb F az y (s ++ [((i : Nat) : Int)])
  | none => []
theorem flat_le {α β : Type} {g : α -> List β} {m : Nat} : ∀ {l : List α}, (∀ a ∈ l, (g a).length <= m) -> (l.flatMap g).length <= l.length * m
 | [], _ => by simp
 | a :: l, h => by
  rw [List.flatMap_cons, List.length_append, List.length_cons, Nat.succ_mul]
  have h1 := h a (by simp)
  have h2 := flat_le (g := g) (m := m) (l := l) fun b hb => h b (by simp [hb])
  omega
theorem emb_len {F : List Fact} : ∀ {az : List Atom} {x s : List Int}, (emb F az x s).length <= F.length ^ az.length
 | [], _, _ => by simp [emb]
 | a :: az, x, s => by
  rw [emb]
  refine Nat.le_trans (flat_le (m := F.length ^ az.length) fun i _ => ?_) (by rw [List.length_range, List.length_cons, Nat.pow_succ, Nat.mul_comm]; exact Nat.le_refl _)
  split
  ·exact emb_len
  ·simp
theorem emb_facts {F : List Fact} : ∀ {az : List Atom} {x s : List Int} {e : Embedding}, e ∈ emb F az x s ->
  ∃ t : List Nat, e.Facts = s ++ t.map (fun i => ((i : Nat) : Int)) /\ t.length = az.length /\ ∀ j (h : j < t.length) (h' : j < az.length), ∃ hf : t[j] < F.length, F[t[j]].Relation = az[j].Relation
 | [], x, s, e, h => by
  simp only [emb, List.mem_singleton] at h
  subst h
  exact ⟨[], by simp, rfl, fun j h => by simp at h⟩
 | a :: az, x, s, e, h => by
  rw [emb, List.mem_flatMap] at h
  obtain ⟨i, hi, h⟩ := h
  rw [List.mem_range] at hi
  split at h
  ·rename_i y hy
   obtain ⟨t, t1, t2, t3⟩ := emb_facts h
   refine ⟨i :: t, by rw [t1]; simp, by simp [t2], fun j hj hj' => ?_⟩
   cases j with
   | zero =>
    refine ⟨hi, ?_⟩
    unfold step at hy
    rw [zE hi] at hy
    dsimp only at hy
    split at hy
    ·rename_i e; exact e
    ·cases hy
   | succ j => exact t3 j (by simpa using hj) (by simpa using hj')
  ·cases h
theorem vq_apart {l : List Relation} {q : Query} (h : vQuery l q = true) {j k : Nat} (hjk : j < k) (hk : k < q.Atoms.length) : (q.Atoms[j]'(by omega)).Relation ≠ q.Atoms[k].Relation := by
 unfold vQuery at h
 simp only [Bool.and_eq_true] at h
 have h1 := List.all_eq_true.1 h.2.2.2.1 k (List.mem_range.2 hk)
 rw [vAtom_get hk] at h1
 unfold vAt at h1
 simp only [Bool.and_eq_true] at h1
 have h2 := h1.2.2.2
 simp only [Bool.not_eq_true', List.any_eq_false, decide_eq_true_eq] at h2
 exact h2 _ (by rw [List.mem_iff_getElem]; exact ⟨j, by rw [List.length_take]; omega, by rw [List.getElem_take]⟩)
theorem vq_len {l : List Relation} {q : Query} (h : vQuery l q = true) : q.Atoms.length <= 3 /\ 1 <= q.Atoms.length := by
 unfold vQuery at h
 simp only [Bool.and_eq_true, btw, decide_eq_true_eq] at h
 omega
theorem vq_vars {l : List Relation} {q : Query} (h : vQuery l q = true) : 0 <= q.VariableCount /\ q.VariableCount <= 4 := by
 unfold vQuery at h
 simp only [Bool.and_eq_true, btw, decide_eq_true_eq] at h
 omega
theorem vq_atom {l : List Relation} {q : Query} (h : vQuery l q = true) {k : Nat} (hk : k < q.Atoms.length) : (q.Atoms[k].Terms.length : Int) = arity l q.Atoms[k].Relation /\ ∀ t ∈ q.Atoms[k].Terms, -10 <= t /\ t < q.VariableCount := by
 unfold vQuery at h
 simp only [Bool.and_eq_true] at h
 have h1 := List.all_eq_true.1 h.2.2.2.1 k (List.mem_range.2 hk)
 rw [vAtom_get hk] at h1
 unfold vAt at h1
 simp only [Bool.and_eq_true, decide_eq_true_eq] at h1
 refine ⟨h1.2.1, fun t ht => ?_⟩
 have := List.all_eq_true.1 h1.2.2.1 t ht
 simp only [btw, Bool.and_eq_true, decide_eq_true_eq] at this
 omega
def embs (d : Database) (q : Query) : List Embedding := if (vDb d && vQuery d.Relations q) = true then emb d.Facts q.Atoms (List.replicate q.VariableCount.toNat (-1)) [] else []
theorem embs_len {d : Database} {q : Query} : (embs d q).length <= 2744 := by
 unfold embs
 split
 ·rename_i h
  rw [Bool.and_eq_true] at h
  have h1 := (vDb_of h.1).2.1
  have h2 := (vq_len h.2).1
  refine Nat.le_trans emb_len (Nat.le_trans (Nat.pow_le_pow_left h1 _) ?_)
  exact Nat.le_trans (Nat.pow_le_pow_right (n := 14) (by omega) h2) (by decide)
 ·simp
theorem embs_prt {d : Database} {q : Query} {e : Embedding} (h : e ∈ embs d q) {s : List Int} (hs : s.Pairwise (· <= ·)) (hp : s.Perm e.Facts) : prt d s = true /\ s.length <= 3 := by
 unfold embs at h
 split at h
 ·rename_i hv
  rw [Bool.and_eq_true] at hv
  obtain ⟨t, t1, t2, t3⟩ := emb_facts h
  rw [List.nil_append] at t1
  have rel : ∀ j k (hj : j < t.length) (hk : k < t.length), j < k -> (fat d (t[j] : Nat)).Relation ≠ (fat d (t[k] : Nat)).Relation := fun j k hj hk hjk => by
   obtain ⟨a1, a2⟩ := t3 j hj (by omega)
   obtain ⟨b1, b2⟩ := t3 k hk (by omega)
   rw [fat_get a1, fat_get b1, a2, b2]
   exact vq_apart hv.2 hjk (by omega)
  have nd : e.Facts.Pairwise fun a b => (fat d a).Relation ≠ (fat d b).Relation := by
   rw [t1, List.pairwise_map, List.pairwise_iff_getElem]
   exact fun i j hi hj hij => rel i j hi hj hij
  have nds : s.Pairwise fun a b => (fat d a).Relation ≠ (fat d b).Relation := (hp.pairwise_iff (fun h e => h e.symm)).2 nd
  have up : s.Pairwise (· < ·) := by
   refine (hs.and nds).imp fun {a b} hab => ?_
   by_cases e : a = b
   ·subst e; exact absurd rfl hab.2
   ·have := hab.1; omega
  have rng : ∀ v ∈ s, 0 <= v /\ v < d.Facts.length := fun v hv => by
   have := hp.mem_iff.1 hv
   rw [t1, List.mem_map] at this
   obtain ⟨i, hi, rfl⟩ := this
   obtain ⟨j, hj, rfl⟩ := List.getElem_of_mem hi
   obtain ⟨a1, _⟩ := t3 j hj (by omega)
   omega
  refine ⟨?_, ?_⟩
  ·unfold prt
   simp only [Bool.and_eq_true, decide_eq_true_eq]
   refine ⟨hv.1, asc_mk up rng, nds.imp fun h => ?_⟩
   unfold same
   rw [decide_eq_false h]; rfl
  ·rw [hp.length_eq, t1, List.length_map, t2]; exact (vq_len hv.2).1
 ·cases h
end
section
theorem cloneI {a : List Int} (h : a.length <= 1048576) : f99 a = some a := by
 unfold f99
 rw [app_fits (by simp; omega), bS, List.nil_append]
theorem uni_nil {ts vs x : List Int} (h : ts = []) : uni ts vs x = some x := by subst h; rfl
theorem set_same {x : List Int} {i : Nat} {v : Int} (h : i < x.length) (e : x[i] = v) : x.set i v = x := by subst e; exact List.set_getElem_self h
def FitT (n : Nat) (ts vs : List Int) : Prop := ts.length = vs.length /\ ts.length <= 1048576 /\ ∀ t ∈ ts, -10 <= t /\ t < n
theorem impUni {x ts vs : List Int} (hx : x.length <= 8) (h : FitT x.length ts vs) : f112 x ts vs = some (match uni ts vs x with | some y => (y, true) | none => ([], false)) := by
 obtain ⟨h1, h2, h3⟩ := h
 unfold f112
 rw [cloneI (by omega), bS]
 obtain ⟨o, e, rfl⟩ := iter_up (f := f112_0 ts vs) ts.length (fun i s => ∃ y, s = (y, (i : Int)) /\ uni (ts.drop i) (vs.drop i) y = uni ts vs x /\ y.length = x.length)
  (fun o => o = (match uni ts vs x with | some y => .inl y | none => .inr ([], false))) (fun i s hi ⟨y, hs, hu, hl⟩ => by
   subst hs
   have hv : i < vs.length := by omega
   have ht := h3 _ (List.getElem_mem hi)
   rw [List.drop_eq_getElem_cons hi, List.drop_eq_getElem_cons hv, uni] at hu
   simp only [f112_0]
   rw [if_pos (by omega), ix_nat hi, bS, w64_succ (by omega)]
   unfold f133 f134
   simp only [bS, ix_nat hv]
   by_cases c1 : ts[i] < 0
   ·rw [if_pos c1] at hu
    rw [if_pos (by simpa using c1), w64_of (by omega)]
    by_cases c2 : -1 - ts[i] = vs[i]
    ·rw [if_pos c2] at hu
     rw [if_neg (by simpa using c2)]
     exact ⟨_, rfl, y, rfl, hu, hl⟩
    ·rw [if_neg c2] at hu
     rw [if_pos (by simpa using c2)]
     refine ⟨_, rfl, ?_⟩
     rw [<- hu]
   ·rw [if_neg c1] at hu
    have hb : ts[i].toNat < y.length := by omega
    rw [if_neg (by simpa using c1), ix_of (by omega), zE hb, bS]
    have ed : y.getD ts[i].toNat 0 = y[ts[i].toNat] := by rw [zD, zE hb]; rfl
    rw [ed] at hu
    by_cases c2 : y[ts[i].toNat] < 0
    ·rw [if_pos c2] at hu
     rw [if_pos c2]
     exact ⟨_, rfl, _, rfl, hu, by rw [List.length_set]; exact hl⟩
    ·rw [if_neg c2] at hu
     rw [if_neg c2]
     by_cases c3 : y[ts[i].toNat] = vs[i]
     ·rw [if_pos c3] at hu
      rw [if_neg (by simpa using c3)]
      exact ⟨_, rfl, y, rfl, hu, hl⟩
     ·rw [if_neg c3] at hu
      rw [if_pos (by simpa using c3)]
      refine ⟨_, rfl, ?_⟩
      rw [<- hu]) (fun s ⟨y, hs, hu, hl⟩ => by
   subst hs
   simp only [f112_0]
   rw [if_neg (by omega)]
   rw [uni_nil (List.drop_of_length_le (Nat.le_refl _))] at hu
   exact ⟨_, rfl, by rw [<- hu]⟩) (x, 0) ⟨x, rfl, by simp, rfl⟩
 rw [e, bS]
 cases uni ts vs x <;> rfl
theorem specMeet {x : List Int} {a : Atom} {f : Fact} (hx : x.length <= 8) (h : f.Relation = a.Relation -> FitT x.length a.Terms f.Values) :
  Ens (f132 a f x) fun r => match (if f.Relation = a.Relation then uni a.Terms f.Values x else none) with | some y => r = (y, true) | none => r.2 = false := by
 unfold f132
 rw [app_fits (by simp; omega), bS, List.nil_append]
 by_cases hr : f.Relation = a.Relation
 ·obtain ⟨h1, h2, h3⟩ := h hr
  rw [if_pos hr, if_neg (by simpa using hr), bS, if_neg (by simp [h1])]
  refine Ens.bind (Q := fun o => match uni a.Terms f.Values x with | some y => o = .inl y | none => ∃ z, o = .inr (z, false)) ?_ fun o ho => ?_
  ·refine iter_up (f := f132_0 a f) a.Terms.length (fun i s => ∃ y, s = (y, (i : Int)) /\ uni (a.Terms.drop i) (f.Values.drop i) y = uni a.Terms f.Values x /\ y.length = x.length) _ (fun i s hi ⟨y, hs, hu, hl⟩ => ?_) (fun s ⟨y, hs, hu, hl⟩ => ?_) (x, 0) ⟨x, rfl, by simp, rfl⟩
   ·subst hs
    have hv : i < f.Values.length := by omega
    have ht := h3 _ (List.getElem_mem hi)
    rw [List.drop_eq_getElem_cons hi, List.drop_eq_getElem_cons hv, uni] at hu
    simp only [f132_0]
    rw [if_pos (by omega), ix_nat hi, bS, w64_succ (by omega)]
    simp only [bS, ix_nat hv]
    by_cases c1 : a.Terms[i] < 0
    ·rw [if_pos c1] at hu
     rw [if_pos c1, w64_of (by omega)]
     by_cases c2 : -1 - a.Terms[i] = f.Values[i]
     ·rw [if_pos c2] at hu
      rw [if_neg (by simpa using c2)]
      exact ⟨_, rfl, y, rfl, hu, hl⟩
     ·rw [if_neg c2] at hu
      rw [if_pos (by simpa using c2)]
      refine ⟨_, rfl, ?_⟩
      dsimp only
      rw [<- hu]; exact ⟨_, rfl⟩
    ·rw [if_neg c1] at hu
     have hb : a.Terms[i].toNat < y.length := by omega
     rw [if_neg c1, ix_of (by omega), zE hb, bS]
     have ed : y.getD a.Terms[i].toNat 0 = y[a.Terms[i].toNat] := by rw [zD, zE hb]; rfl
     rw [ed] at hu
     by_cases c2 : y[a.Terms[i].toNat] < 0
     ·rw [if_pos c2] at hu
      rw [if_neg (by omega), bS, if_neg (by simp)]
      exact ⟨_, rfl, _, rfl, hu, by rw [List.length_set]; exact hl⟩
     ·rw [if_neg c2] at hu
      rw [if_pos (by omega), bS]
      by_cases c3 : y[a.Terms[i].toNat] = f.Values[i]
      ·rw [if_pos c3] at hu
       rw [if_neg (by simpa using c3)]
       exact ⟨_, rfl, _, rfl, by rw [set_same hb c3]; exact hu, by rw [List.length_set]; exact hl⟩
      ·rw [if_neg c3] at hu
       rw [if_pos (by simpa using c3)]
       refine ⟨_, rfl, ?_⟩
       dsimp only
       rw [<- hu]; exact ⟨_, rfl⟩
   ·subst hs
    simp only [f132_0]
    rw [if_neg (by omega)]
    rw [uni_nil (List.drop_of_length_le (Nat.le_refl _))] at hu
    exact ⟨_, rfl, by rw [<- hu]⟩
  ·revert ho
   cases uni a.Terms f.Values x with
   | some y => intro ho; dsimp only at ho; subst ho; exact Ens.of rfl
   | none => rintro ⟨z, rfl⟩; exact Ens.of rfl
 ·rw [if_neg hr, if_pos (by simpa using hr), bS, if_pos rfl]
  exact Ens.of rfl
theorem noneOk {n : Int} (h0 : 0 <= n) (h4 : n <= 4) : f103 n = some (List.replicate n.toNat (-1)) := by
 unfold f103
 have := iter_steps (f := f103_0 n) (fun i => List.replicate i (-1)) n.toNat (List.replicate n.toNat (-1)) (fun i hi => by
  simp only [f103_0]
  rw [if_pos (by simp; omega), app_fits (by simp; omega), bS, List.replicate_succ']) (by
  simp only [f103_0]
  rw [if_neg (by simp <;> omega)])
 simp only [List.replicate_zero] at this
 rw [this]; rfl
theorem unknownOk {n : Int} (h0 : 0 <= n) (h4 : n <= 4) : f113 n = some (List.replicate n.toNat (-1)) := by
 have : n = 0 \/ n = 1 \/ n = 2 \/ n = 3 \/ n = 4 := by omega
 unfold f113 f135
 rcases this with rfl | rfl | rfl | rfl | rfl
 ·have e : f151 (IntKind.u64.wrap (([-1] : List Int).length : Int)) (IntKind.u64.wrap 0) = some (0, 0) := by decide
  rw [e]
  rw [if_neg (by decide), bS, bS, if_neg (by decide), bS, if_neg (by decide), bS, w64_of (by decide), mkl_ok (by decide) (by decide) (by decide), bS]
  exact (congrArg (fun o => (Option.bind o fun o => some o).bind fun o => some o) (iter_of (f := f135_0) (n := 5) (s := ([], 0)) (r := []) (by decide)))
 ·have e : f151 (IntKind.u64.wrap (([-1] : List Int).length : Int)) (IntKind.u64.wrap 1) = some (0, 1) := by decide
  rw [e]
  rw [if_neg (by decide), bS, bS, if_neg (by decide), bS, if_neg (by decide), bS, w64_of (by decide), mkl_ok (by decide) (by decide) (by decide), bS]
  exact (congrArg (fun o => (Option.bind o fun o => some o).bind fun o => some o) (iter_of (f := f135_0) (n := 5) (s := ([-1], 1)) (r := [-1]) (by decide)))
 ·have e : f151 (IntKind.u64.wrap (([-1] : List Int).length : Int)) (IntKind.u64.wrap 2) = some (0, 2) := by decide
  rw [e]
  rw [if_neg (by decide), bS, bS, if_neg (by decide), bS, if_neg (by decide), bS, w64_of (by decide), mkl_ok (by decide) (by decide) (by decide), bS]
  exact (congrArg (fun o => (Option.bind o fun o => some o).bind fun o => some o) (iter_of (f := f135_0) (n := 5) (s := ([-1, 0], 1)) (r := [-1, -1]) (by decide)))
 ·have e : f151 (IntKind.u64.wrap (([-1] : List Int).length : Int)) (IntKind.u64.wrap 3) = some (0, 3) := by decide
  rw [e]
  rw [if_neg (by decide), bS, bS, if_neg (by decide), bS, if_neg (by decide), bS, w64_of (by decide), mkl_ok (by decide) (by decide) (by decide), bS]
  exact (congrArg (fun o => (Option.bind o fun o => some o).bind fun o => some o) (iter_of (f := f135_0) (n := 5) (s := ([-1, 0, 0], 1)) (r := [-1, -1, -1]) (by decide)))
 ·have e : f151 (IntKind.u64.wrap (([-1] : List Int).length : Int)) (IntKind.u64.wrap 4) = some (0, 4) := by decide
  rw [e]
  rw [if_neg (by decide), bS, bS, if_neg (by decide), bS, if_neg (by decide), bS, w64_of (by decide), mkl_ok (by decide) (by decide) (by decide), bS]
  exact (congrArg (fun o => (Option.bind o fun o => some o).bind fun o => some o) (iter_of (f := f135_0) (n := 5) (s := ([-1, 0, 0, 0], 1)) (r := [-1, -1, -1, -1]) (by decide)))
end
section
theorem sorted_ext {a b : List Int} (ha : a.Pairwise (· <= ·)) (hb : b.Pairwise (· <= ·)) (h : a.Perm b) : a = b :=
 h.eq_of_pairwise (fun x y _ _ h1 h2 => by omega) ha hb
theorem slotI {l out : List Int} {i : Nat} (hi : i < l.length) (ho : out.length <= 1048576) :
  ∃ k : Nat, iter (f55_1 l out i) (out.length : Int) = some (k : Int) /\ k <= out.length /\ (∀ j (hj : j < out.length), k <= j -> l[i] < out[j]) /\ (∀ h : 0 < k, ∀ hk : k - 1 < out.length, out[k - 1] <= l[i]) := by
 obtain ⟨o, h1, k, rfl, h2⟩ := iter_up (f := f55_1 l out i) out.length (fun t s => s = ((out.length - t : Nat) : Int) /\ ∀ j (hj : j < out.length), out.length - t <= j -> l[i] < out[j])
  (fun o => ∃ k : Nat, o = (k : Int) /\ k <= out.length /\ (∀ j (hj : j < out.length), k <= j -> l[i] < out[j]) /\ (∀ h : 0 < k, ∀ hk : k - 1 < out.length, out[k - 1] <= l[i])) (fun t s ht ⟨h, hp⟩ => by
   subst h
   simp only [f55_1]
   rw [if_pos (by omega), w64_of (by omega), show ((out.length - t : Nat) : Int) - 1 = ((out.length - t - 1 : Nat) : Int) by omega, ix_nat (by omega), ix_nat hi]
   simp only [bS]
   by_cases hc : l[i] < out[out.length - t - 1]'(by omega)
   ·rw [if_pos (by simpa using hc)]
    refine ⟨_, rfl, ?_, fun j hj hle => ?_⟩
    ·omega
    ·by_cases e : j = out.length - t - 1
     ·subst e; exact hc
     ·exact hp j hj (by omega)
   ·rw [if_neg (by simpa using hc)]
    exact ⟨_, rfl, out.length - t, rfl, by omega, hp, fun _ _ => by omega⟩) (fun s ⟨h, hp⟩ => by
   subst h
   simp only [f55_1]
   rw [if_neg (by omega)]
   exact ⟨_, by simp; rfl, 0, by simp, by omega, fun j hj _ => hp j hj (by omega), fun h => by omega⟩) (out.length : Int) ⟨by simp, fun j hj h => by omega⟩
 exact ⟨k, h1, h2⟩
theorem ins_sorted {out : List Int} {v : Int} {k : Nat} (hs : out.Pairwise (· <= ·)) (hk : k <= out.length) (h1 : ∀ j (hj : j < out.length), k <= j -> v < out[j]) (h2 : ∀ h : 0 < k, ∀ hk : k - 1 < out.length, out[k - 1] <= v) :
  (out.take k ++ v :: out.drop k).Pairwise (· <= ·) := by
 rw [List.pairwise_append]
 have hp := List.pairwise_iff_getElem.1 hs
 have lo : ∀ a ∈ out.take k, a <= v := fun a ha => by
  obtain ⟨i, hi, rfl⟩ := List.getElem_of_mem ha
  rw [List.length_take] at hi
  rw [List.getElem_take]
  have h3 := h2 (by omega) (by omega)
  by_cases e : i = k - 1
  ·subst e; exact h3
  ·have := hp i (k - 1) (by omega) (by omega) (by omega); omega
 have hi : ∀ b ∈ out.drop k, v < b := fun b hb => by
  obtain ⟨i, hi, rfl⟩ := List.getElem_of_mem hb
  rw [List.length_drop] at hi
  rw [List.getElem_drop]
  exact h1 (k + i) (by omega) (by omega)
 refine ⟨hs.sublist (List.take_sublist _ _), List.pairwise_cons.2 ⟨fun b hb => by have := hi b hb; omega, hs.sublist (List.drop_sublist _ _)⟩, fun a ha b hb => ?_⟩
 have := lo a ha
 rcases List.mem_cons.1 hb with rfl | hb
 ·exact this
 ·have := hi b hb; omega
theorem specSorted {l : List Int} (h : l.length <= 1048576) : Ens (f55 l) fun r => r.Pairwise (· <= ·) /\ r.Perm l := by
 unfold f55
 refine Ens.bind (Q := fun r => r.Pairwise (· <= ·) /\ r.Perm l) ?_ fun r hr => Ens.of hr
 refine iter_up (f := f55_0 l) l.length (fun i s => ∃ out, s = (out, (i : Int)) /\ out.Pairwise (· <= ·) /\ out.Perm (l.take i)) _ (fun i s hi ⟨out, h, hp, hq⟩ => by
  subst h
  have hl := hq.length_eq
  rw [List.length_take] at hl
  obtain ⟨k, k1, k2, k3, k4⟩ := slotI (l := l) (out := out) (i := i) hi (by omega)
  simp only [f55_0]
  rw [if_pos (by omega), k1, bS, cutL_ok (by omega) (by omega) (by omega), bS, ix_nat hi, bS, cutL_ok (by omega) (by omega) (by omega), bS]
  have d1 : (out.take ((k : Nat) : Int).toNat).drop (0 : Int).toNat = out.take k := by simp
  have d2 : (out.take ((out.length : Nat) : Int).toNat).drop ((k : Nat) : Int).toNat = out.drop k := by simp
  rw [d1, d2, app_fits (by simp; omega), bS, app_fits (by simp; omega), bS, app_fits (by simp; omega), bS, w64_succ (by omega)]
  refine ⟨_, rfl, out.take k ++ l[i] :: out.drop k, by simp, ins_sorted hp k2 k3 k4, ?_⟩
  rw [take_succ' hi]
  refine List.perm_middle.trans ?_
  rw [List.take_append_drop]
  exact (List.Perm.cons _ hq).trans (List.perm_append_singleton _ _).symm) (fun s ⟨out, h, hp, hq⟩ => by
  subst h
  simp only [f55_0]
  rw [List.take_of_length_le (Nat.le_refl _)] at hq
  exact ⟨_, by rw [if_neg (by omega)], hp, hq⟩) _ ⟨[], by simp, by simp, by simp⟩
end
section
variable {d : Database} {q : Query}
def FitsDQ (d : Database) (q : Query) : Prop := Fits d /\ FitsQ q
def good2 (d : Database) (q : Query) : Bool := vDb d && vQuery d.Relations q
theorem specFor (h : FitsDQ d q) : f25 d q = some (good2 d q) := by
 unfold f25
 have h1 := fits_room h.1
 rw [specDb h1, bS]
 unfold good2
 cases vDb d
 ·rfl
 ·rw [if_pos rfl, specQ h1.1 h.2]; rfl
theorem impFor (h : FitsDQ d q) : f34 d q = some (good2 d q) := by
 unfold f34
 have h1 := fits_room h.1
 rw [impDb h1, bS]
 unfold good2
 cases vDb d
 ·rfl
 ·rw [if_pos rfl, impQ h1.1 h.2]; rfl
theorem good2_of (h : good2 d q = true) : vDb d = true /\ vQuery d.Relations q = true := by unfold good2 at h; simpa using h
theorem fit_atom (hg : good2 d q = true) {x : List Int} (hx : x.length = q.VariableCount.toNat) {k i : Nat} (hk : k < q.Atoms.length) (hi : i < d.Facts.length) (hr : d.Facts[i].Relation = q.Atoms[k].Relation) : FitT x.length q.Atoms[k].Terms d.Facts[i].Values := by
 obtain ⟨h1, h2⟩ := good2_of hg
 obtain ⟨t1, t2⟩ := vq_atom h2 hk
 have hf := fact_ok h1 hi
 unfold vFact at hf
 simp only [Bool.and_eq_true, decide_eq_true_eq] at hf
 have hv := vq_vars h2
 have ha := vRels_arity (vDb_of h1).1 hf.1
 rw [<- hr] at t1
 refine ⟨by omega, by omega, fun t ht => ?_⟩
 have := t2 t ht
 omega
theorem step_of {a : Atom} {x : List Int} {i : Nat} (hi : i < d.Facts.length) : step d.Facts a x i = if d.Facts[i].Relation = a.Relation then uni a.Terms d.Facts[i].Values x else none := by
 unfold step
 rw [zE hi]
theorem emb_eq {F : List Fact} {a : Atom} {az : List Atom} {x s : List Int} : emb F (a :: az) x s = (List.range F.length).flatMap fun i => match step F a x i with | some y => emb F az y (s ++ [((i : Nat) : Int)]) | none => [] := rfl
theorem emb_part {F : List Fact} {a : Atom} {az : List Atom} {x s : List Int} {i : Nat} (hF : F.length <= 14) : ((List.range i).flatMap fun i => match step F a x i with | some y => emb F az y (s ++ [((i : Nat) : Int)]) | none => []).length <= i * 14 ^ az.length := by
 refine Nat.le_trans (flat_le (m := 14 ^ az.length) fun j _ => ?_) (by rw [List.length_range]; exact Nat.le_refl _)
 split
 ·exact Nat.le_trans emb_len (Nat.pow_le_pow_left hF _)
 ·simp
theorem impWalk (hg : good2 d q = true) (hf : FitsDQ d q) : ∀ (r n : Nat) {x s : List Int} {out : List Embedding}, s.length + r = q.Atoms.length -> r < n -> x.length = q.VariableCount.toNat -> out.length + 14 ^ r <= 1000000 ->
  f111 n x s q out d = some (out ++ emb d.Facts (q.Atoms.drop s.length) x s)
 | r, 0, x, s, out, _, h, _, _ => by omega
 | 0, n + 1, x, s, out, hs, _, hx, ho => by
  obtain ⟨h1, h2⟩ := good2_of hg
  have hv := vq_vars h2
  have hl := vq_len h2
  rw [f111]
  dsimp only
  rw [if_pos (by omega), cloneI (by omega), bS, cloneI (by omega), bS, app_fits (by simp; omega), bS, List.drop_of_length_le (by omega)]
  rfl
 | r + 1, n + 1, x, s, out, hs, hn, hx, ho => by
  obtain ⟨h1, h2⟩ := good2_of hg
  have hv := vq_vars h2
  have hl := vq_len h2
  have hF := (vDb_of h1).2.1
  have hk : s.length < q.Atoms.length := by omega
  rw [f111]
  dsimp only
  rw [if_neg (by omega), ix_nat hk, bS, List.drop_eq_getElem_cons hk, emb_eq]
  have it := iter_steps (f := f111_0 x s q d (f111 n) q.Atoms[s.length]) (fun i => (out ++ ((List.range i).flatMap fun i => match step d.Facts q.Atoms[s.length] x i with | some y => emb d.Facts (q.Atoms.drop (s.length + 1)) y (s ++ [((i : Nat) : Int)]) | none => []), (i : Int))) d.Facts.length
   (out ++ ((List.range d.Facts.length).flatMap fun i => match step d.Facts q.Atoms[s.length] x i with | some y => emb d.Facts (q.Atoms.drop (s.length + 1)) y (s ++ [((i : Nat) : Int)]) | none => [])) (fun i hi => by
    have hp := emb_part (F := d.Facts) (a := q.Atoms[s.length]) (az := q.Atoms.drop (s.length + 1)) (x := x) (s := s) (i := i) hF
    have hd : (q.Atoms.drop (s.length + 1)).length = r := by rw [List.length_drop]; omega
    have hb := Nat.mul_le_mul_right (14 ^ r) (show i + 1 <= 14 by omega)
    rw [hd] at hp
    rw [Nat.add_mul, Nat.one_mul] at hb
    rw [Nat.pow_succ] at ho
    simp only [f111_0]
    rw [if_pos (by omega), ix_nat hi, w64_succ (by omega), List.range_succ, List.flatMap_append]
    simp only [bS, List.flatMap_singleton]
    rw [step_of hi]
    by_cases hr : d.Facts[i].Relation = q.Atoms[s.length].Relation
    ·rw [if_neg (by simpa using hr), if_pos hr, impUni (by omega) (fit_atom hg hx hk hi hr)]
     cases hu : uni q.Atoms[s.length].Terms d.Facts[i].Values x with
     | none => simp
     | some y =>
      have hy := uni_len hu
      simp only [bS, if_true]
      rw [cloneI (by omega), bS, app_fits (by simp; omega), bS, impWalk hg hf r n (by simp; omega) (by omega) (by omega) (by rw [List.length_append]; omega)]
      simp
    ·rw [if_pos (by simpa using hr), if_neg hr]
     simp) (by
    simp only [f111_0]
    rw [if_neg (by omega)])
  simp only [List.range_zero, List.flatMap_nil, List.append_nil, Int.natCast_zero, Int.ofNat_zero] at it
  erw [it]
  rfl
theorem specWalk (hg : good2 d q = true) (hf : FitsDQ d q) : ∀ (r n : Nat) {k : Nat} {x s : List Int}, k + r = q.Atoms.length -> s.length = k -> r < n -> x.length = q.VariableCount.toNat ->
  f102 n d q (k : Int) x s = some (emb d.Facts (q.Atoms.drop k) x s)
 | r, 0, k, x, s, _, _, h, _ => by omega
 | 0, n + 1, k, x, s, hs, hsl, _, hx => by
  obtain ⟨h1, h2⟩ := good2_of hg
  have hv := vq_vars h2
  have hl := vq_len h2
  rw [f102]
  dsimp only
  rw [if_pos (by omega), app_fits (by simp; omega), bS, app_fits (by simp; omega), bS, List.drop_of_length_le (by omega)]
  rfl
 | r + 1, n + 1, k, x, s, hs, hsl, hn, hx => by
  obtain ⟨h1, h2⟩ := good2_of hg
  have hv := vq_vars h2
  have hl := vq_len h2
  have hF := (vDb_of h1).2.1
  have hk : k < q.Atoms.length := by omega
  have hp3 : 14 ^ r <= 196 := Nat.le_trans (Nat.pow_le_pow_right (n := 14) (by omega) (show r <= 2 by omega)) (by decide)
  rw [f102]
  dsimp only
  rw [if_neg (by omega), List.drop_eq_getElem_cons hk, emb_eq]
  have it := iter_steps (f := f102_0 d q k x s (f102 n)) (fun i => (((List.range i).flatMap fun i => match step d.Facts q.Atoms[k] x i with | some y => emb d.Facts (q.Atoms.drop (k + 1)) y (s ++ [((i : Nat) : Int)]) | none => []), (i : Int))) d.Facts.length
   (((List.range d.Facts.length).flatMap fun i => match step d.Facts q.Atoms[k] x i with | some y => emb d.Facts (q.Atoms.drop (k + 1)) y (s ++ [((i : Nat) : Int)]) | none => [])) (fun i hi => by
    have hp := emb_part (F := d.Facts) (a := q.Atoms[k]) (az := q.Atoms.drop (k + 1)) (x := x) (s := s) (i := i) hF
    have hd : (q.Atoms.drop (k + 1)).length = r := by rw [List.length_drop]; omega
    have hb := Nat.mul_le_mul_right (14 ^ r) (show i <= 14 by omega)
    rw [hd] at hp
    simp only [f102_0]
    rw [if_pos (by omega), ix_nat hk, bS, ix_nat hi, bS, w64_succ (i := i) (by omega), List.range_succ, List.flatMap_append]
    simp only [List.flatMap_singleton]
    obtain ⟨m, hm, hq⟩ := specMeet (x := x) (a := q.Atoms[k]) (f := d.Facts[i]) (by omega) (fun hr => fit_atom hg hx hk hi hr)
    rw [<- step_of (x := x) hi] at hq
    rw [hm, bS]
    cases hu : step d.Facts q.Atoms[k] x i with
    | none =>
     rw [hu] at hq
     dsimp only at hq
     rw [hq]
     simp
    | some y =>
     rw [hu] at hq
     dsimp only at hq
     subst hq
     have hy : y.length = x.length := by
      rw [step_of hi] at hu
      split at hu
      ·exact uni_len hu
      ·cases hu
     have he := emb_len (F := d.Facts) (az := q.Atoms.drop (k + 1)) (x := y) (s := s ++ [((i : Nat) : Int)])
     have he2 := Nat.pow_le_pow_left hF (q.Atoms.drop (k + 1)).length
     rw [hd] at he he2
     simp only [if_true]
     rw [app_fits (by simp; omega), bS, app_fits (by simp; omega), bS, w64_succ (i := k) (by omega), List.nil_append, specWalk hg hf r n (by omega) (by simp; omega) (by omega) (by omega), bS, app_fits (by omega)]
     simp) (by
    simp only [f102_0]
    rw [if_neg (by omega)])
  simp only [List.range_zero, List.flatMap_nil, Int.natCast_zero, Int.ofNat_zero] at it
  erw [it]
  rfl
theorem embs_of (hg : good2 d q = true) : embs d q = emb d.Facts q.Atoms (List.replicate q.VariableCount.toNat (-1)) [] := by
 unfold embs
 unfold good2 at hg
 rw [if_pos hg]
theorem embs_no (hg : good2 d q = false) : embs d q = [] := by
 unfold embs
 unfold good2 at hg
 rw [if_neg (by rw [hg]; simp)]
theorem embImp (hf : FitsDQ d q) : f85 d q = some (embs d q) := by
 unfold f85
 rw [impFor hf, bS]
 cases hg : good2 d q
 ·rw [if_pos (by simp), embs_no hg]
 ·have hv := vq_vars (good2_of hg).2
  have hl := vq_len (good2_of hg).2
  rw [if_neg (by simp), unknownOk (by omega) (by omega), bS, impWalk hg hf q.Atoms.length 64 (by simp) (by omega) (by simp) ?_]
  ·simp [embs_of hg]
  ·have := Nat.pow_le_pow_right (n := 14) (by omega) hl.1
   simp; omega
theorem embSpec (hf : FitsDQ d q) : f75 d q = some (embs d q) := by
 unfold f75
 rw [specFor hf, bS]
 cases hg : good2 d q
 ·rw [if_pos (by simp), embs_no hg]
 ·have hv := vq_vars (good2_of hg).2
  have hl := vq_len (good2_of hg).2
  have := specWalk hg hf q.Atoms.length 64 (k := 0) (x := List.replicate q.VariableCount.toNat (-1)) (s := []) (by omega) rfl (by omega) (by simp)
  rw [if_neg (by simp), noneOk (by omega) (by omega), bS]
  simp only [Int.natCast_zero, Int.ofNat_zero] at this
  erw [this]
  simp [embs_of hg]
end
section
variable {d : Database} {q : Query}
theorem specSel {l : List Int} (hf : Fits d) (hl : l.length <= 1048576) : f104 d l = some (if (vDb d && asc d.Facts.length l) = true then (sel d l, true) else (⟨[], []⟩, false)) := by
 unfold f104
 have hr := fits_room hf
 rw [specDb hr, bS]
 cases hv : vDb d
 ·simp
 ·rw [if_neg (by simp), specSet hr.2.1 (by omega)]
  cases ha : asc d.Facts.length l
  ·simp
  ·have h14 := (vDb_of hv).2.1
   have hr4 := vRels_len (vDb_of hv).1
   have hl2 := asc_len ha
   have hm := (asc_of ha).2
   simp only [bS]
   rw [if_neg (by simp), app_fits (by simp; omega), bS]
   have it := iter_steps (f := f104_0 d l) (fun i => (d.Relations, (l.take i).map (fat d), (i : Int))) l.length (d.Relations, l.map (fat d)) (fun i hi => by
    have hb := hm _ (List.getElem_mem hi)
    have hn : l[i].toNat < d.Facts.length := by omega
    have e : fat d l[i] = d.Facts[l[i].toNat] := by
     have : l[i] = ((l[i].toNat : Nat) : Int) := by omega
     conv => lhs; rw [this]
     exact fat_get hn
    have hv2 := hf.2.2 _ (List.getElem_mem hn)
    simp only [f104_0]
    rw [if_pos (by omega), ix_nat hi, bS, ix_of hb.1, zE hn, bS, app_fits (by simp; omega), bS, app_fits (by simp; omega), bS, w64_succ (by omega), take_succ' hi, List.map_append, List.map_singleton, e]
    simp) (by
    simp only [f104_0]
    rw [if_neg (by omega), List.take_of_length_le (Nat.le_refl _)])
   simp only [List.take_zero, List.map_nil, Int.natCast_zero, Int.ofNat_zero] at it
   rw [List.nil_append]
   erw [it]
   rfl
theorem specCon (hf : Fits d) : f105 d = some (vDb d && decide ((blks (skOf d) d.Facts.length d.Facts.length).length = d.Facts.length)) := by
 unfold f105
 rw [specDb (fits_room hf), bS]
 cases hv : vDb d
 ·rfl
 ·rw [if_pos rfl, blocksSpec hv hf]
  simp
  omega
theorem con_sel {l : List Int} (hv : vDb d = true) (ha : asc d.Facts.length l = true) : (vDb (sel d l) && decide ((blks (skOf (sel d l)) (sel d l).Facts.length (sel d l).Facts.length).length = (sel d l).Facts.length)) = decide (apart d l) := by
 rw [sel_v hv ha, Bool.true_and, sel_len]
 exact decide_eq_decide.2 con_iff
theorem specPart {l : List Int} (hf : Fits d) (hl : l.length <= 1048576) : f76 d l = some (prt d l) := by
 unfold f76
 rw [specSel hf hl, bS]
 unfold prt
 cases hv : vDb d
 ·simp
 ·cases ha : asc d.Facts.length l
  ·simp
  ·simp only [Bool.and_self, if_true]
   rw [specCon (sel_fits hf ha), bS, con_sel hv ha]
   simp
def srt (l : List Int) : List Int := l.mergeSort fun a b => decide (a <= b)
theorem srt_perm {l : List Int} : (srt l).Perm l := List.mergeSort_perm _ _
theorem srt_up {l : List Int} : (srt l).Pairwise (· <= ·) := by
 have := List.pairwise_mergeSort (le := fun a b : Int => decide (a <= b)) (fun a b c h1 h2 => by simp at *; omega) (fun a b => by simp; omega) l
 exact this.imp fun h => by simpa using h
theorem srt_of {l r : List Int} (h1 : r.Pairwise (· <= ·)) (h2 : r.Perm l) : r = srt l := sorted_ext h1 srt_up (h2.trans srt_perm.symm)
def wits (d : Database) (q : Query) : List (List Int) := (embs d q).map fun e => srt e.Facts
theorem wits_len : (wits d q).length <= 2744 := by unfold wits; rw [List.length_map]; exact embs_len
theorem wits_prt {w : List Int} (h : w ∈ wits d q) : prt d w = true /\ w.length <= 3 := by
 unfold wits at h
 rw [List.mem_map] at h
 obtain ⟨e, he, rfl⟩ := h
 exact embs_prt he srt_up srt_perm
theorem embs_short {e : Embedding} (h : e ∈ embs d q) : e.Facts.length <= 3 := by
 have := (embs_prt h srt_up srt_perm).2
 rw [srt_perm.length_eq] at this; exact this
theorem witSpec (hf : FitsDQ d q) : f48 d q = some (wits d q) := by
 unfold f48
 rw [embSpec hf, bS]
 have it := iter_steps (f := f48_0 d (embs d q)) (fun i => (((embs d q).take i).map fun e => srt e.Facts, (i : Int))) (embs d q).length (wits d q) (fun i hi => by
  have hm := List.getElem_mem hi
  have h3 := embs_short hm
  have hl := embs_len (d := d) (q := q)
  obtain ⟨r, hr, h1, h2⟩ := specSorted (l := (embs d q)[i].Facts) (by omega)
  have := srt_of h1 h2
  subst this
  have hp := embs_prt hm srt_up srt_perm
  simp only [f48_0]
  rw [if_pos (by omega), ix_nat hi, bS, hr, bS, specPart hf.1 (by omega), hp.1, bS, if_pos rfl, app_fits (by simp; omega), bS, bS, w64_succ (by omega), take_succ' hi, List.map_append]
  rfl) (by
  simp only [f48_0]
  rw [if_neg (by omega), List.take_of_length_le (Nat.le_refl _)]; rfl)
 simp only [List.take_zero, List.map_nil, Int.natCast_zero, Int.ofNat_zero] at it
 erw [it]
 rfl
theorem witImp (hf : FitsDQ d q) : f61 d q = some (wits d q) := by
 unfold f61
 rw [embImp hf, bS]
 have it := iter_steps (f := f61_0 (embs d q)) (fun i => (((embs d q).take i).map fun e => srt e.Facts, i, (i : Int))) (embs d q).length (wits d q) (fun i hi => by
  have hm := List.getElem_mem hi
  have h3 := embs_short hm
  have hl := embs_len (d := d) (q := q)
  obtain ⟨r, hr, h1, h2⟩ := sort12 (x := (embs d q)[i].Facts) (by omega)
  have := srt_of h1 h2
  subst this
  simp only [f61_0]
  unfold ml
  rw [if_pos (by omega), if_pos rfl, zE hi, bS, hr, bS, app_fits (by simp; omega), bS, w64_succ (by omega), take_succ' hi, List.map_append]
  rfl) (by
  simp only [f61_0]
  rw [if_neg (by omega), List.take_of_length_le (Nat.le_refl _)]; rfl)
 simp only [List.take_zero, List.map_nil, Int.natCast_zero, Int.ofNat_zero] at it
 erw [it]
 rfl
end
section
variable {n : Nat} {sk : Nat -> Nat -> Bool}
theorem blk_mem {i x : Nat} {j : Int} : j ∈ blk sk i x ↔ ∃ k : Nat, k < x /\ j = k /\ sk i k = true := by
 unfold blk
 rw [List.mem_flatMap]
 constructor
 ·rintro ⟨k, hk, h⟩
  split at h
  ·rename_i c
   exact ⟨k, List.mem_range.1 hk, by simpa using h, c⟩
  ·cases h
 ·rintro ⟨k, h1, h2, h3⟩
  exact ⟨k, List.mem_range.2 h1, by rw [if_pos h3]; simp [h2]⟩
theorem mem_blks {y x : Nat} {B : List Int} : B ∈ blks sk y x ↔ ∃ s, s < y /\ start sk s = true /\ B = blk sk s x := by
 unfold blks
 rw [List.mem_flatMap]
 constructor
 ·rintro ⟨k, hk, h⟩
  split at h
  ·rename_i c
   exact ⟨k, List.mem_range.1 hk, c, by simpa using h⟩
  ·cases h
 ·rintro ⟨k, h1, h2, h3⟩
  exact ⟨k, List.mem_range.2 h1, by rw [if_pos h2]; simp [h3]⟩
end
section
def atomsSize (l : List Atom) : Nat := l.length + (l.map (·.Terms.length)).sum
def querySize (q : Query) : Nat := atomsSize q.Atoms + q.Free.length
theorem szAtom {a : Atom} {n : Int} (h : ok a) (h0 : 0 <= n) (h1 : n <= 1048576) : f46 a n = some (lft n a.Terms.length) := by
 unfold f46
 rw [szI h.2.1 h0 h1, bS]
 split
 ·rename_i hlt; rw [lft_bad hlt]
 ·rfl
theorem szAtoms {a : List Atom} {n : Int} (h : ok a) (h0 : 0 <= n) (h1 : n <= 1048576) : f22 a n = some (lft n (atomsSize a)) := by
 obtain ⟨h, h'⟩ := h
 unfold f22 atomsSize
 rw [w64_of (by omega)]
 by_cases hc : n < (a.length : Int)
 ·rw [if_pos (by omega)]
  unfold lft
  rw [if_neg (by omega)]
 ·rw [if_neg (by omega)]
  rw [iter_sz (fun x : Atom => x.Terms.length) a _ (by omega) (fun i hi b hb hb' => by
   simp only [f22_0]
   rw [if_pos (by omega), ix_nat hi, w64_succ (by omega)]
   simp only [bS, szAtom (h' _ (List.getElem_mem hi)) hb (by omega)]
   split <;> rfl) (fun b => by
   simp only [f22_0]
   rw [if_neg (by omega)]), lft_sub hc]
  split
  ·rename_i hlt
   rw [lft_bad hlt]; rfl
  ·rfl
theorem lftq {n : Int} {a b : Nat} (h : ¬ lft n a < 0) : lft (lft n a) b = lft n (a + b) := by
 obtain ⟨e, h'⟩ := lft_pos h
 rw [e, lft_sub (by omega)]
theorem lftq_neg {n : Int} {a b : Nat} (h : lft n a < 0) : lft n (a + b) = -1 := by
 have := lft_neg.1 h
 unfold lft; rw [if_neg (by omega)]
theorem szQ {q : Query} {n : Int} (h : ok q) (h0 : 0 <= n) (h1 : n <= 1048576) : f5 q n = some (lft n (querySize q)) := by
 unfold f5 querySize
 rw [szAtoms h.2.1 h0 h1, bS]
 by_cases c1 : lft n (atomsSize q.Atoms) < 0
 ·rw [if_pos c1, lftq_neg c1]
 ·rw [if_neg c1]
  have b1 := lft_pos c1
  rw [szI h.2.2.1 (by omega) (by omega), bS, lftq c1]
  split
  ·rename_i hlt; rw [lft_bad hlt]
  ·rfl
theorem q_fits {q : Query} (h : querySize q <= 1048576) : FitsQ q := by
 unfold querySize atomsSize at h
 refine ⟨by omega, fun x hx => ?_, by omega⟩
 have := mem_le_sum (s := fun x : Atom => x.Terms.length) hx
 omega
theorem toAtm {a : Atom} (h : a.Terms.length <= 1048576) : f58 a = some a := by
 unfold f58
 rw [toI h]; rfl
theorem toAtoms {a : List Atom} (h : a.length <= 1048576) (h' : ∀ x ∈ a, x.Terms.length <= 1048576) : f31 a = some a := by
 unfold f31
 rw [mkl_ok (by omega) (by omega) (by omega)]
 have : iter (f31_0 a) (List.replicate (a.length : Int).toNat ({ Relation := 0, Terms := [] } : Atom), 0) = some a := iter_copy (by simp) (fun i hi out ho => by
  simp only [f31_0]
  rw [if_pos (by omega), ix_nat hi, ix_nat ho, Int.toNat_natCast, w64_succ (by omega)]
  simp only [bS, toAtm (h' _ (List.getElem_mem hi))]) (fun out => by
  simp only [f31_0]
  rw [if_neg (by omega)])
 simp only [bS, this]
theorem toQ {q : Query} (h : FitsQ q) : f8 q = some q := by
 unfold f8
 rw [toAtoms h.1 h.2.1, bS, toI h.2.2]; rfl
theorem eqAtm {a : Atom} (h : a.Terms.length <= 1048576) : f72 a a = some true := by
 unfold f72
 rw [if_neg (by simp), eqI (by omega)]; simp
theorem eqAtoms {a : List Atom} (h : a.length <= 1048576) (h' : ∀ x ∈ a, x.Terms.length <= 1048576) : f40 a a = some true := by
 unfold f40
 rw [if_neg (by simp)]
 rw [iter_ex (List.range a.length) (fun _ => false) false (fun i hi => by
  simp only [f40_0]
  simp only [List.length_range] at hi
  rw [if_pos (by omega), ix_nat hi, w64_succ (by omega)]
  simp only [bS, eqAtm (h' _ (List.getElem_mem hi))]
  simp) (by
  simp only [f40_0]
  rw [if_neg (by simp)])]
 simp
theorem eqQ {q : Query} (h : FitsQ q) : f13 q q = some true := by
 unfold f13
 have := h.2.2
 rw [if_neg (by simp), eqAtoms h.1 h.2.1, bS, if_neg (by simp), eqI (by omega)]; simp
end
section
variable {d : Database} {q : Query}
def nums (l : List Int) : Prop := l.length <= 1048576 /\ ∀ v ∈ l, 0 <= v /\ v <= 1048576
def posC (l : List Int) : List Int := l.map fun v => v + 1
def negC (l : List Int) : List Int := l.map fun v => -1 - v
def falsity (d : Database) (q : Query) : List (List Int) := if good2 d q = true then (blks (skOf d) d.Facts.length d.Facts.length).map posC ++ (wits d q).map negC else []
theorem litPos {l : List Int} (h : nums l) : f60 l 1 = some (posC l) := by
 unfold f60
 have it := iter_steps (f := f60_0 l 1) (fun i => (posC (l.take i), (i : Int))) l.length (posC l) (fun i hi => by
  have hv := h.2 _ (List.getElem_mem hi)
  have := h.1
  simp only [f60_0]
  rw [if_pos (by omega), ix_nat hi, bS, w64_of (n := l[i] + 1) (by omega), Int.one_mul, w64_of (n := l[i] + 1) (by omega), app_fits (by simp [posC]; omega), bS, w64_succ (by omega), take_succ' hi]
  unfold posC
  rw [List.map_append]; rfl) (by
  simp only [f60_0]
  rw [if_neg (by omega), List.take_of_length_le (Nat.le_refl _)])
 simp only [List.take_zero, posC, List.map_nil, Int.natCast_zero, Int.ofNat_zero] at it
 erw [it]
 rfl
theorem litNeg {l : List Int} (h : nums l) : f60 l (-1) = some (negC l) := by
 unfold f60
 have it := iter_steps (f := f60_0 l (-1)) (fun i => (negC (l.take i), (i : Int))) l.length (negC l) (fun i hi => by
  have hv := h.2 _ (List.getElem_mem hi)
  have := h.1
  simp only [f60_0]
  rw [if_pos (by omega), ix_nat hi, bS, w64_of (n := l[i] + 1) (by omega), w64_of (n := -1 * (l[i] + 1)) (by omega), app_fits (by simp [negC]; omega), bS, w64_succ (by omega), take_succ' hi, show -1 * (l[i] + 1) = -1 - l[i] by omega]
  unfold negC
  rw [List.map_append]; rfl) (by
  simp only [f60_0]
  rw [if_neg (by omega), List.take_of_length_le (Nat.le_refl _)])
 simp only [List.take_zero, negC, List.map_nil, Int.natCast_zero, Int.ofNat_zero] at it
 erw [it]
 rfl
theorem blks_nums {B : List Int} (h14 : d.Facts.length <= 14) (h : B ∈ blks (skOf d) d.Facts.length d.Facts.length) : nums B /\ B.length <= 14 := by
 obtain ⟨s, _, _, rfl⟩ := mem_blks.1 h
 have hl := blk_len (sk := skOf d) (i := s) (x := d.Facts.length)
 refine ⟨⟨by omega, fun v hv => ?_⟩, by omega⟩
 obtain ⟨k, k1, rfl, _⟩ := blk_mem.1 hv
 omega
theorem prt_nums {w : List Int} (h : prt d w = true) : nums w /\ vDb d = true /\ asc d.Facts.length w = true := by
 unfold prt at h
 simp only [Bool.and_eq_true, decide_eq_true_eq] at h
 have h14 := (vDb_of h.1).2.1
 have hl := asc_len h.2.1
 refine ⟨⟨by omega, fun v hv => ?_⟩, h.1, h.2.1⟩
 have := (asc_of h.2.1).2 v hv
 omega
theorem falImp (hf : FitsDQ d q) : f33 d q = some (falsity d q) := by
 unfold f33 falsity
 rw [impFor hf, bS]
 cases hg : good2 d q
 ·rw [if_pos (by simp), if_neg (by simp)]
 ·obtain ⟨h1, h2⟩ := good2_of hg
  have h14 := (vDb_of h1).2.1
  have hw := wits_len (d := d) (q := q)
  have hb := blks_len (sk := skOf d) (y := d.Facts.length) (x := d.Facts.length)
  rw [if_neg (by simp), if_pos rfl, blocksImp h1 hf.1, bS]
  have it := iter_steps (f := f33_0 (blks (skOf d) d.Facts.length d.Facts.length)) (fun i => (((blks (skOf d) d.Facts.length d.Facts.length).take i).map posC, (i : Int))) (blks (skOf d) d.Facts.length d.Facts.length).length ((blks (skOf d) d.Facts.length d.Facts.length).map posC) (fun i hi => by
   have hn := blks_nums h14 (List.getElem_mem hi)
   simp only [f33_0]
   rw [if_pos (by omega), ix_nat hi, bS, litPos hn.1, bS, app_fits (by simp; omega), bS, w64_succ (by omega), take_succ' hi, List.map_append]
   rfl) (by
   simp only [f33_0]
   rw [if_neg (by omega), List.take_of_length_le (Nat.le_refl _)])
  simp only [List.take_zero, List.map_nil, Int.natCast_zero, Int.ofNat_zero] at it
  erw [it]
  rw [bS, witImp hf, bS]
  have it := iter_steps (f := f33_1 (wits d q)) (fun i => ((blks (skOf d) d.Facts.length d.Facts.length).map posC ++ ((wits d q).take i).map negC, (i : Int))) (wits d q).length ((blks (skOf d) d.Facts.length d.Facts.length).map posC ++ (wits d q).map negC) (fun i hi => by
   have hn := prt_nums (wits_prt (List.getElem_mem hi)).1
   simp only [f33_1]
   rw [if_pos (by omega), ix_nat hi, bS, litNeg hn.1, bS, app_fits (by simp; omega), bS, w64_succ (by omega), take_succ' hi, List.map_append]
   simp) (by
   simp only [f33_1]
   rw [if_neg (by omega), List.take_of_length_le (Nat.le_refl _)])
  simp only [List.take_zero, List.map_nil, List.append_nil, Int.natCast_zero, Int.ofNat_zero] at it
  erw [it]
  rfl
theorem falInner {L : List (List Int)} {i : Nat} (hi : i < L.length) (h : nums L[i]) : iter (f24_2 L (i : Int)) ([], 0) = some (posC L[i]) := by
 have it := iter_steps (f := f24_2 L (i : Int)) (fun k => (posC (L[i].take k), (k : Int))) L[i].length (posC L[i]) (fun k hk => by
  have hv := h.2 _ (List.getElem_mem hk)
  have := h.1
  simp only [f24_2]
  rw [ix_nat hi, bS, if_pos (by omega), ix_nat hk, bS, w64_of (n := L[i][k] + 1) (by omega), app_fits (by simp [posC]; omega), bS, w64_succ (by omega), take_succ' hk]
  unfold posC
  rw [List.map_append]; rfl) (by
  simp only [f24_2]
  rw [ix_nat hi, bS, if_neg (by omega), List.take_of_length_le (Nat.le_refl _)])
 simp only [List.take_zero, posC, List.map_nil, Int.natCast_zero, Int.ofNat_zero] at it
 exact it
theorem falInner2 {L : List (List Int)} {i : Nat} (hi : i < L.length) (h : nums L[i]) : iter (f24_3 L (i : Int)) ([], 0) = some (negC L[i]) := by
 have it := iter_steps (f := f24_3 L (i : Int)) (fun k => (negC (L[i].take k), (k : Int))) L[i].length (negC L[i]) (fun k hk => by
  have hv := h.2 _ (List.getElem_mem hk)
  have := h.1
  simp only [f24_3]
  rw [ix_nat hi, bS, if_pos (by omega), ix_nat hk, bS, w64_of (n := -1 - L[i][k]) (by omega), app_fits (by simp [negC]; omega), bS, w64_succ (by omega), take_succ' hk]
  unfold negC
  rw [List.map_append]; rfl) (by
  simp only [f24_3]
  rw [ix_nat hi, bS, if_neg (by omega), List.take_of_length_le (Nat.le_refl _)])
 simp only [List.take_zero, negC, List.map_nil, Int.natCast_zero, Int.ofNat_zero] at it
 exact it
theorem falSpec (hf : FitsDQ d q) : f24 d q = some (falsity d q) := by
 unfold f24 falsity
 rw [specFor hf, bS]
 cases hg : good2 d q
 ·rw [if_pos (by simp), if_neg (by simp)]
 ·obtain ⟨h1, h2⟩ := good2_of hg
  have h14 := (vDb_of h1).2.1
  have hw := wits_len (d := d) (q := q)
  have hb := blks_len (sk := skOf d) (y := d.Facts.length) (x := d.Facts.length)
  rw [if_neg (by simp), if_pos rfl, blocksSpec h1 hf.1, bS]
  have it := iter_steps (f := f24_0 (blks (skOf d) d.Facts.length d.Facts.length)) (fun i => (((blks (skOf d) d.Facts.length d.Facts.length).take i).map posC, (i : Int))) (blks (skOf d) d.Facts.length d.Facts.length).length ((blks (skOf d) d.Facts.length d.Facts.length).map posC) (fun i hi => by
   have hn := blks_nums h14 (List.getElem_mem hi)
   simp only [f24_0]
   rw [if_pos (by omega), falInner hi hn.1, bS, app_fits (by simp; omega), bS, w64_succ (by omega), take_succ' hi, List.map_append]
   rfl) (by
   simp only [f24_0]
   rw [if_neg (by omega), List.take_of_length_le (Nat.le_refl _)])
  simp only [List.take_zero, List.map_nil, Int.natCast_zero, Int.ofNat_zero] at it
  erw [it]
  rw [bS, witSpec hf, bS]
  have it := iter_steps (f := f24_1 (wits d q)) (fun i => ((blks (skOf d) d.Facts.length d.Facts.length).map posC ++ ((wits d q).take i).map negC, (i : Int))) (wits d q).length ((blks (skOf d) d.Facts.length d.Facts.length).map posC ++ (wits d q).map negC) (fun i hi => by
   have hn := prt_nums (wits_prt (List.getElem_mem hi)).1
   simp only [f24_1]
   rw [if_pos (by omega), falInner2 hi hn.1, bS, app_fits (by simp; omega), bS, w64_succ (by omega), take_succ' hi, List.map_append]
   simp) (by
   simp only [f24_1]
   rw [if_neg (by omega), List.take_of_length_le (Nat.le_refl _)])
  simp only [List.take_zero, List.map_nil, List.append_nil, Int.natCast_zero, Int.ofNat_zero] at it
  erw [it]
  rfl
theorem falsity_fits : (falsity d q).length <= 3000 /\ ∀ x ∈ falsity d q, x.length <= 14 := by
 unfold falsity
 split
 ·rename_i hg
  obtain ⟨h1, h2⟩ := good2_of hg
  have h14 := (vDb_of h1).2.1
  have hw := wits_len (d := d) (q := q)
  have hb := blks_len (sk := skOf d) (y := d.Facts.length) (x := d.Facts.length)
  refine ⟨by rw [List.length_append, List.length_map, List.length_map]; omega, fun x hx => ?_⟩
  rcases List.mem_append.1 hx with hx | hx
  ·obtain ⟨B, hB, rfl⟩ := List.mem_map.1 hx
   have := (blks_nums h14 hB).2
   simpa [posC] using this
  ·obtain ⟨w, hw, rfl⟩ := List.mem_map.1 hx
   have := (wits_prt hw).2
   simp [negC]; omega
 ·exact ⟨by simp, by simp⟩
theorem sum_le {l : List (List Int)} {m : Nat} (h : ∀ x ∈ l, x.length <= m) : (l.map List.length).sum <= l.length * m := by
 induction l with
 | nil => simp
 | cons a l ih =>
  have h1 := ih fun x hx => h x (by simp [hx])
  have h2 := h a (by simp)
  simp only [List.map_cons, List.sum_cons, List.length_cons, Nat.succ_mul]; omega
end
section
variable {d : Database}
end
section
variable {d : Database} {q : Query}
end
section
end
section
section
variable {n : Nat} {sk : Nat -> Nat -> Bool}
end
variable {d : Database} {q : Query}
end
section
def In64 (l : List Int) : Prop := ∀ v ∈ l, -9223372036854775808 <= v /\ v <= 9223372036854775807
theorem In64.snoc {l : List Int} {v : Int} (h : In64 l) (hv : -9223372036854775808 <= v /\ v <= 9223372036854775807) : In64 (l ++ [v]) := by
 intro x hx
 rw [List.mem_append, List.mem_singleton] at hx
 rcases hx with hx | hx
 ·exact h x hx
 ·rw [hx]; exact hv
end
section
def Sigs (l : List Relation) : Prop := l.length = 4 /\ ∀ x ∈ l, x.Arity <= 3
def Tiny (m : Nat) (d : Database) : Prop := Sigs d.Relations /\ d.Facts.length <= m /\ ∀ x ∈ d.Facts, x.Values.length <= 3
theorem Tiny.fits {m : Nat} {d : Database} (h : Tiny m d) (hm : m <= 1048576) : Fits d := ⟨by have := h.1.1; omega, by have := h.2.1; omega, fun x hx => by have := h.2.2 x hx; omega⟩
end
section
end
section
def QM (q : Query) : Prop := q.Atoms.length <= 40 /\ (∀ a ∈ q.Atoms, a.Terms.length <= 40) /\ q.Free.length <= 40
theorem QM.fits {q : Query} (h : QM q) : FitsQ q := ⟨by have := h.1; omega, fun a ha => by have := h.2.1 a ha; omega, by have := h.2.2; omega⟩
end
section
end
section
def sg (a b : Int) : List Relation := [⟨[114], 2, 1⟩, ⟨[115], 2, 1⟩, ⟨[116], 2, a⟩, ⟨[117], 3, b⟩]
variable {a b : Int}
section
variable {l : List Relation} {o : List (List UInt8)} {i : Nat} {w : List UInt8} {v : Int} {az : List Atom} {fr ts : List Int} {r : Int} {j : Nat}
end
end
section
variable {a b : Int}
end
section
end
section
def SigsG (l : List Relation) : Prop := ∃ a b : Int, l = sg a b /\ (a = 0 \/ a = 1 \/ a = 2) /\ (b = 1 \/ b = 2)
theorem SigsG.small {l : List Relation} (h : SigsG l) : l.length = 4 /\ ∀ x ∈ l, x.Name.length <= 100 := by
 obtain ⟨a, b, rfl, _⟩ := h
 refine ⟨rfl, fun x hx => ?_⟩
 simp only [sg, List.mem_cons, List.not_mem_nil, or_false] at hx
 rcases hx with rfl | rfl | rfl | rfl <;> simp
def QB (q : Query) : Prop := q.Atoms.length <= 100 /\ (∀ a ∈ q.Atoms, a.Terms.length <= 100) /\ q.Free.length <= 100
theorem QB.fits {q : Query} (h : QB q) : FitsQ q := ⟨by have := h.1; omega, fun a ha => by have := h.2.1 a ha; omega, by have := h.2.2; omega⟩
end
section
def Sm (d : Database) : Prop := d.Relations.length <= 4 /\ d.Facts.length <= 13 /\ ∀ x ∈ d.Facts, x.Values.length <= 4
theorem Sm.fits {d : Database} (h : Sm d) : Fits d := ⟨by have := h.1; omega, by have := h.2.1; omega, fun x hx => by have := h.2.2 x hx; omega⟩
end
section
variable {d : Database}
end
section
variable {d : Database}
end
section
end
section
variable {d : Database} {q : Query}
theorem trueImp {m : List Bool} (h : m.length <= 1048576) : f37 m = some (((List.range m.length).filter fun i => m[i]?.getD false).map fun i => ((i : Nat) : Int)) := by
 unfold f37
 have it := iter_steps (f := f37_0 m) (fun i => (((List.range i).filter fun i => m[i]?.getD false).map fun i => ((i : Nat) : Int), (i : Int))) m.length (((List.range m.length).filter fun i => m[i]?.getD false).map fun i => ((i : Nat) : Int)) (fun i hi => by
  simp only [f37_0]
  have hl : (List.map (fun i => ((i : Nat) : Int)) (List.filter (fun i => m[i]?.getD false) (List.range i))).length <= i := by
   rw [List.length_map]
   exact Nat.le_trans (List.length_filter_le _ _) (by simp)
  rw [if_pos (by omega), ix_nat hi, bS, List.range_succ, List.filter_append, List.map_append]
  cases e : m[i]
  ·rw [if_neg (by simp), bS, w64_succ (by omega)]
   simp [e, hi]
  ·rw [if_pos rfl, app_fits (by simp only [List.length_cons, List.length_nil]; omega), bS, bS, w64_succ (by omega)]
   simp [e, hi]) (by
  simp only [f37_0]
  rw [if_neg (by omega)])
 exact (congrArg (fun o => o.bind some) it).trans rfl
end
section
variable {x : List Int} (hx : x.length <= 1048576)
include hx
end
section
variable {x : List Int} (hx : x.length <= 16383)
include hx
end
section
variable {x : List Int} (hx : x.length <= 16383)
include hx
end
section
variable {d : Database} {q : Query}
def inW (d : Database) (q : Query) (i : Nat) : Bool := (wits d q).any fun w => w.contains ((i : Nat) : Int)
def idx (n : Nat) (p : Nat -> Bool) : List Int := (List.range n).flatMap fun i => if p i = true then [((i : Nat) : Int)] else []
def irr (d : Database) (q : Query) : List Int := if good2 d q = true then idx d.Facts.length fun i => !inW d q i else []
end
section
end
section
variable {d : Database} {q : Query}
end
section
variable {d : Database} {q : Query}
end
section
variable {d : Database} {q : Query}
section
variable (h : (irr d q).length ≠ 0)
include h
end
end
section
section
variable {d : Database} {q : Query}
def trs (m : List Bool) : List Int := ((List.range m.length).filter fun i => m[i]?.getD false).map fun i => ((i : Nat) : Int)
def cbs (d : Database) (q : Query) : List Int × List (List Int) × Bool :=
 if good2 d q = true /\ (falsity d q).length <= 400 then (if (slv d.Facts.length (falsity d q)).2.2 = true then ((rep d (trs (slv d.Facts.length (falsity d q)).1)).1, [], false) else ([], (slv d.Facts.length (falsity d q)).2.1, true)) else ([], [], false)
theorem cbsImp (hf : FitsDQ d q) : f9 d q = some (cbs d q) := by
 unfold f9 cbs
 obtain ⟨l1, l2⟩ := falsity_fits (d := d) (q := q)
 obtain ⟨f1, f2, f3⟩ := slv_fits (n := d.Facts.length) (C := falsity d q)
 rw [falImp hf, bS, impFor hf, bS]
 cases hg : good2 d q
 ·simp
 by_cases h4 : (falsity d q).length <= 400
 ·have h4' : ¬ ((falsity d q).length : Int) > 400 := by omega
  simp only [not_true_eq_false, if_false, h4', decide_false, bS, Bool.false_eq_true]
  rw [if_pos ⟨trivial, h4⟩, solveImp (by omega) (fun x hx => by have := l2 x hx; omega), bS]
  cases hs : (slv d.Facts.length (falsity d q)).2.2
  ·simp
  ·have ht : (trs (slv d.Facts.length (falsity d q)).1).length <= 1048576 := by
    unfold trs
    rw [List.length_map]
    have := List.length_filter_le (fun i => (slv d.Facts.length (falsity d q)).1[i]?.getD false) (List.range (slv d.Facts.length (falsity d q)).1.length)
    rw [List.length_range] at this
    omega
   have et := trueImp (m := (slv d.Facts.length (falsity d q)).1) (by omega)
   rw [if_pos rfl, if_pos rfl, et, bS]
   have er := repImp (d := d) (l := trs (slv d.Facts.length (falsity d q)).1) hf.1 ht
   unfold trs at er ht
   rw [er, bS]
   rfl
 ·have h4' : ((falsity d q).length : Int) > 400 := by omega
  simp only [h4, and_false, if_false]
  simp [h4']
end
end
section
theorem atomsSize_take {a : List Atom} {i : Nat} (h : i < a.length) : atomsSize (a.take (i + 1)) = atomsSize (a.take i) + 1 + a[i].Terms.length := by
 unfold atomsSize
 rw [take_succ' h, List.map_append, List.sum_append, List.length_append]; simp; omega
theorem atomsSize_le {a : List Atom} {i : Nat} : atomsSize (a.take i) <= atomsSize a := by
 unfold atomsSize
 conv => rhs; rw [<- List.take_append_drop i a, List.map_append, List.sum_append, List.length_append]
 omega
theorem markAs {a : List Atom} {k : Int} (h0 : 0 <= k) (h : k + atomsSize a <= 4611686018427387904) (ha : Big a.length) : Ens (f43 a k) fun o => o.1 = k + atomsSize a := by
 unfold f43
 refine Ens.bind (Q := fun o => o.2 = k + atomsSize a) ?_ fun o ho => Ens.of ho
 refine iter_up (f := f43_0) a.length (fun i s => s.1.length = a.length /\ s.1.drop i = a.drop i /\ s.2.1 = k + atomsSize (a.take i) /\ s.2.2 = i) _ (fun i s hi hI => ?_) (fun s hI => ?_) (a, k, 0) ⟨rfl, rfl, by simp [atomsSize], rfl⟩
 ·obtain ⟨b, m, x⟩ := s
  obtain ⟨e1, e4, e2, e3⟩ := hI
  dsimp only at e1 e2 e3 e4
  subst e2; subst e3
  have hb : b[i]'(by omega) = a[i] := by
   have := congrArg (fun l => l[0]?) e4
   simp only [List.getElem?_drop, Nat.add_zero] at this
   rw [zE (by omega), zE hi] at this
   exact Option.some.inj this
  have s1 := atomsSize_take hi
  have s2 := atomsSize_le (a := a) (i := i + 1)
  simp only [f43_0]
  rw [if_pos (by omega), ix_nat (by omega), bS, hb, ix_nat (by simp; omega), bS]
  simp only [Int.toNat_natCast, List.getElem_set_self]
  rw [w64_of (by omega), markI (by omega) (by omega), bS]
  refine ⟨_, rfl, ?_⟩
  rw [w64_succ (by omega)]
  refine ⟨by simp; omega, ?_, by simp only; omega, rfl⟩
  rw [List.drop_set_of_lt (by omega), List.drop_set_of_lt (by omega)]
  rw [<- List.drop_drop, e4, List.drop_drop]
 ·obtain ⟨b, m, x⟩ := s
  obtain ⟨e1, e4, e2, e3⟩ := hI
  dsimp only at e1 e2 e3
  subst e2; subst e3
  simp only [f43_0]
  rw [if_neg (by omega)]
  exact ⟨_, rfl, by simp⟩
theorem markQ {a : Query} {k : Int} (h : querySize a <= 1048576) (h0 : 1 <= k) (h1 : k <= 4194304) : Ens (f15 a k) fun k => 1 <= k /\ k <= 8388608 := by
 unfold f15
 unfold querySize at h
 have h2 : a.Atoms.length <= atomsSize a.Atoms := by unfold atomsSize; omega
 refine Ens.bind (markAs (by omega) (by omega) (by omega)) fun o ho => ?_
 rw [markI (by omega) (by omega), bS]
 exact Ens.of ⟨by simp only; omega, by simp only; omega⟩
end
section
section
variable {d : Database} {q : Query}
theorem trueSpec {m : List Bool} (h : m.length <= 1048576) : f28 m = some (trs m) := by
 unfold f28 trs
 rw [iter_flat (List.range m.length) (fun i => if m[i]?.getD false = true then [((i : Nat) : Int)] else []) id (fun i hi => by
  simp only [List.length_range] at hi
  have el := take_flat_le (l := List.range m.length) (i := i) (g := fun i => if m[i]?.getD false = true then [((i : Nat) : Int)] else []) (m := 1) (fun a => by split <;> simp)
  simp only [List.getElem_range]
  generalize (((List.range m.length).take i).flatMap fun i => if m[i]?.getD false = true then [((i : Nat) : Int)] else []) = out at el ⊢
  simp only [f28_0]
  rw [if_pos (by omega), ix_nat hi, bS, w64_succ (by omega), zE hi]
  cases hm : m[i]
  ·simp
  ·simp only [if_true, Option.getD_some]
   rw [app_fits (by simp; omega)]; rfl) (by
  simp only [f28_0]
  rw [if_neg (by simp)]; rfl)]
 rw [bS]
 congr 1
 dsimp only [id]
 generalize List.range m.length = L
 induction L with
 | nil => rfl
 | cons a L ih =>
  rw [List.flatMap_cons, ih, List.filter_cons]
  split <;> simp
theorem trs_len {m : List Bool} : (trs m).length <= m.length := by
 unfold trs
 rw [List.length_map]
 have := List.length_filter_le (fun i => m[i]?.getD false) (List.range m.length)
 rwa [List.length_range] at this
theorem cbsSpec (hf : FitsDQ d q) : f6 d q = some (cbs d q) := by
 unfold f6 cbs
 obtain ⟨l1, l2⟩ := falsity_fits (d := d) (q := q)
 obtain ⟨f1, f2, f3⟩ := slv_fits (n := d.Facts.length) (C := falsity d q)
 rw [falSpec hf, bS, specFor hf, bS]
 cases hg : good2 d q
 ·simp
 by_cases h4 : (falsity d q).length <= 400
 ·have h4' : ¬ ((falsity d q).length : Int) > 400 := by omega
  simp only [not_true_eq_false, if_false, h4', decide_false, bS, Bool.false_eq_true]
  rw [if_pos ⟨trivial, h4⟩, solveSpec (by omega) (fun x hx => by have := l2 x hx; omega), bS]
  cases hs : (slv d.Facts.length (falsity d q)).2.2
  ·simp
  ·have ht := trs_len (m := (slv d.Facts.length (falsity d q)).1)
   rw [if_neg (by simp), if_pos rfl, trueSpec (by omega), bS, repSpec hf.1 (by omega), bS]
 ·have h4' : ((falsity d q).length : Int) > 400 := by omega
  simp only [h4, and_false, if_false]
  simp [h4']
theorem cbs_fits : (cbs d q).1.length <= 14 /\ (cbs d q).2.1.length <= 32767 /\ ∀ x ∈ (cbs d q).2.1, x.length <= 14 := by
 obtain ⟨f1, f2, f3⟩ := slv_fits (n := d.Facts.length) (C := falsity d q)
 unfold cbs
 split
 ·split
  ·exact ⟨rep_len, by simp, by simp⟩
  ·exact ⟨by simp, f2, f3⟩
 ·simp
end
theorem lawFnExactCertainBySolver (a : Database) (ha : ok a) (b : Query) (hb : ok b) : f3 a b = some true := by
 unfold f3
 rw [szDb ha (by omega) (by omega), bS]
 by_cases h1 : lft 1048576 (dbSize a) < 0
 ·rw [if_pos h1]
 rw [if_neg h1]
 have b1 := lft_pos h1
 rw [szQ hb (by omega) (by omega), bS, lftq h1]
 by_cases h2 : lft 1048576 (dbSize a + querySize b) < 0
 ·rw [if_pos h2]
 rw [if_neg h2]
 have b2 := lft_pos h2
 have fd := db_fits (a := a) (by omega)
 have fq := q_fits (q := b) (by omega)
 have hf : FitsDQ a b := ⟨fd, fq⟩
 obtain ⟨k, k1, k2⟩ := markDb (a := a) (by omega)
 obtain ⟨m, m1, m2⟩ := markQ (a := b) (k := k) (by omega) k2.1 k2.2
 obtain ⟨f1, f2, f3⟩ := cbs_fits (d := a) (q := b)
 simp only [toDb fd, toQ fq, cbsSpec hf, cbsImp hf, bS, eqDb fd, eqQ fq, k1, m1]
 generalize cbs a b = u at f1 f2 f3 ⊢
 have l3 := sum_le f3
 have e0 : tot u.2.1 u.2.1.length = (u.2.1.map List.length).sum := by unfold tot; rw [List.take_of_length_le (Nat.le_refl _)]
 simp only [eqI (a := u.1) (by omega), eqII (a := u.2.1) (by omega) (fun x hx => by have := f3 x hx; omega), bS,
  markI (a := u.1) (k := 1) (by omega) (by omega), heldI (k := 1) (n := u.1.length) (by omega) (by omega)]
 simp only [markII (l := u.2.1) (k := 1 + (u.1.length : Int)) (by omega) (by omega) (by omega), heldII (l := u.2.1) (k := 1 + (u.1.length : Int)) (by omega) (by omega) (by omega), bS]
 have e1 : ¬ (m < 0) := by omega
 have e2 : ¬ ((1 : Int) + (u.1.length : Int) < 0) := by omega
 have e3 : ¬ ((1 : Int) + (u.1.length : Int) + tot u.2.1 u.2.1.length < 0) := by omega
 simp [e1, e2, e3]
end
end Go.Proofs.YtbpdhmbdpjafeaaGreatH
