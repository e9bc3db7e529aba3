import Derived.Test.YtbpdhmbdpjafeaaDoorTd1
import Derived.Test.YtbpdhmbdpjafeaaDoorX3
import Derived.Lib.ItoaLen
import Derived.Lib.Join
set_option linter.unusedVariables false
set_option linter.unusedSimpArgs false
set_option linter.defProp false
set_option linter.unusedSectionVars false
namespace Go.Proofs.YtbpdhmbdpjafeaaDoorH
open Go
section
theorem bS {α β : Type} {a : α} {f : α -> Option β} : (some a).bind f = f a := rfl
end
section
def Cur (c : L1Cur) : Prop := 0 <= c.i /\ c.i <= c.b.length /\ c.b.length <= 1048576
theorem newOk {code : List Int} (h : code.length <= 1048576) : Ens (f15 code) Cur := by
 unfold f15
 refine Ens.bind (Q := fun _ => True) ?_ fun a _ => Ens.of ⟨by simp, by simp, h⟩
 refine iter_up (f := f15_0 code) code.length (fun i s => ∃ x, s = (x, (i : Int))) (fun _ => True) (fun i s hi ⟨x, hs⟩ => ?_) (fun s ⟨x, hs⟩ => ?_) _ ⟨_, rfl⟩
 ·subst hs
  simp only [f15_0]
  rw [if_pos (by omega), bS]
  by_cases h4 : (i : Int) < 4000
  ·rw [if_pos (by simpa using h4), ix_nat hi, bS, w64_succ (by omega)]
   exact ⟨_, rfl, _, rfl⟩
  ·rw [if_neg (by simpa using h4)]
   exact ⟨_, rfl, trivial⟩
 ·subst hs
  simp only [f15_0]
  rw [if_neg (by omega), bS, if_neg (by simp)]
  exact ⟨_, rfl, trivial⟩
theorem byteOk {c : L1Cur} (h : Cur c) : Ens (f37 c) fun r => 0 <= r.1 /\ r.1 <= 255 /\ Cur r.2 := by
 unfold f37
 obtain ⟨h0, h1, h2⟩ := h
 refine Ens.bind (Q := fun x : Int × Int => 0 <= x.1 /\ x.1 <= (c.b.length : Int) /\ 0 <= x.2 /\ x.2 <= 255) ?_ fun a ha => Ens.of ⟨ha.2.2.1, ha.2.2.2, ha.1, ha.2.1, h2⟩
 refine Ens.ite (fun hc => ?_) fun hc => Ens.of ⟨h0, h1, band_255⟩
 rw [ix_getD (d := 0) h0 hc, bS]
 refine Ens.of ⟨?_, ?_, band_255⟩
 ·rw [w64_of (by omega)]; omega
 ·rw [w64_of (by omega)]; dsimp only; omega
theorem belowOk {c : L1Cur} {n : Int} (h : Cur c) : Ens (f19 c n) fun r => 0 <= r.1 /\ (n <= 0 -> r.1 = 0) /\ (0 < n -> r.1 < n) /\ Cur r.2 := by
 unfold f19
 refine Ens.ite (fun hc => Ens.of ⟨by simp, fun _ => rfl, fun h => by omega, h⟩) fun hc => ?_
 refine Ens.ite (fun hd => ?_) fun hd => ?_
 ·refine Ens.bind (byteOk h) fun a ⟨a0, a1, a2⟩ => ?_
  rw [nz_ok (by omega), bS]
  have := tmod_lt (n := n) a0 (by omega)
  exact Ens.of ⟨this.1, fun h => by omega, fun _ => this.2, a2⟩
 ·refine Ens.bind (byteOk h) fun a ⟨a0, a1, a2⟩ => ?_
  refine Ens.bind (byteOk a2) fun b ⟨b0, b1, b2⟩ => ?_
  refine Ens.bind (byteOk b2) fun c ⟨c0, c1, c2⟩ => ?_
  refine Ens.bind (byteOk c2) fun d ⟨d0, d1, d2⟩ => ?_
  rw [nz_ok (by omega), bS]
  rw [w64_of (n := a.1 * 16777216) (by omega), w64_of (n := b.1 * 65536) (by omega), w64_of (n := c.1 * 256) (by omega), w64_of (n := a.1 * 16777216 + b.1 * 65536) (by omega), w64_of (n := a.1 * 16777216 + b.1 * 65536 + c.1 * 256) (by omega), w64_of (by omega)]
  have := tmod_lt (n := n) (a := a.1 * 16777216 + b.1 * 65536 + c.1 * 256 + d.1) (by omega) (by omega)
  exact Ens.of ⟨this.1, fun h => by omega, fun _ => this.2, d2⟩
theorem onceOk {c : L1Cur} {n : Int} (h : Cur c) : Ens (f18 c n) fun r => Cur r.2 := by
 unfold f18
 exact Ens.bind (belowOk h) fun a ha => Ens.of ha.2.2.2
theorem pickOk {c : L1Cur} {l : List Int} (h : Cur c) (hl : 0 < l.length) : Ens (f35 c l) fun r => r.1 ∈ l /\ Cur r.2 := by
 unfold f35
 refine Ens.bind (belowOk h) fun a ha => ?_
 have h1 := ha.1
 have h2 := ha.2.2.1 (by omega)
 rw [ix_of h1, zE (by omega), bS]
 exact Ens.of ⟨List.getElem_mem _, ha.2.2.2⟩
def In64 (l : List Int) : Prop := ∀ v ∈ l, -9223372036854775808 <= v /\ v <= 9223372036854775807
theorem In64.snoc {l : List Int} {v : Int} (h : In64 l) (hv : -9223372036854775808 <= v /\ v <= 9223372036854775807) : In64 (l ++ [v]) := by
 intro x hx
 rw [List.mem_append, List.mem_singleton] at hx
 rcases hx with hx | hx
 ·exact h x hx
 ·rw [hx]; exact hv
theorem cnfOk {c : L1Cur} (h : Cur c) : Ens (f16 c) fun r => 1 <= r.1 /\ r.1 <= 5 /\ r.2.1.length <= 10 /\ (∀ x ∈ r.2.1, x.length <= 4) /\ Cur r.2.2 := by
 unfold f16
 refine Ens.bind (belowOk h) fun o1 ⟨n0, _, n1, hc1⟩ => ?_
 have n2 := n1 (by omega)
 refine Ens.bind (belowOk hc1) fun o3 ⟨m0, _, m1, hc3⟩ => ?_
 have m2 := m1 (by omega)
 have en : w64 (1 + o1.1) = 1 + o1.1 := w64_of (by omega)
 refine Ens.bind (Q := fun s => Cur ⟨s.1, s.2.1, s.2.2.1⟩ /\ s.2.2.2.length <= 10 /\ ∀ x ∈ s.2.2.2, x.length <= 3) ?_ fun ⟨b, i, hh, l⟩ ⟨g1, g2, g3⟩ => ?_
 ·refine iter_up (f := f16_0 o1) o3.1.toNat (fun k s => Cur ⟨s.1, s.2.1, s.2.2.1⟩ /\ s.2.2.2.1.length <= k /\ (∀ x ∈ s.2.2.2.1, x.length <= 3) /\ s.2.2.2.2 = o3.1 - (k : Int)) (fun s => Cur ⟨s.1, s.2.1, s.2.2.1⟩ /\ s.2.2.2.length <= 10 /\ ∀ x ∈ s.2.2.2, x.length <= 3) (fun k ⟨b, i, hh, l, q⟩ hk ⟨s1, s2, s3, s4⟩ => ?_) (fun ⟨b, i, hh, l, q⟩ ⟨s1, s2, s3, s4⟩ => ?_) _ ⟨hc3, by simp, by simp, by simp⟩
  ·simp only at s1 s2 s3 s4
   simp only [f16_0]
   rw [if_pos (by omega)]
   have : Ens (iter (f16_1 o1) (b, i, hh, [], 1)) fun s => Cur ⟨s.1, s.2.1, s.2.2.1⟩ /\ s.2.2.2.length <= 3 := by
    refine iter_up (f := f16_1 o1) (o1.1 + 1).toNat (fun v s => Cur ⟨s.1, s.2.1, s.2.2.1⟩ /\ s.2.2.2.1.length <= 3 /\ s.2.2.2.2 = 1 + (v : Int)) (fun s => Cur ⟨s.1, s.2.1, s.2.2.1⟩ /\ s.2.2.2.length <= 3) (fun v ⟨b, i, hh, x, w⟩ hv ⟨t1, t2, t3⟩ => ?_) (fun ⟨b, i, hh, x, w⟩ ⟨t1, t2, t3⟩ => ?_) _ ⟨s1, by simp, by simp⟩
    ·simp only at t1 t2 t3
     simp only [f16_1]
     rw [en, if_pos (by omega)]
     refine Ens.bind (onceOk t1) fun o17 h17 => ?_
     refine Ens.bind (Q := fun z => z = true -> x.length < 3) (Ens.ite (fun _ => Ens.of fun hz => by simp at hz; omega) fun _ => Ens.of fun hz => by cases hz) fun z hz => ?_
     refine Ens.bind (Q := fun s => Cur ⟨s.1, s.2.1, s.2.2.1⟩ /\ s.2.2.2.length <= 3) (Ens.ite (fun hc => ?_) fun _ => Ens.of ⟨h17, t2⟩) fun ⟨b', i', hh', x'⟩ ⟨u1, u2⟩ => ?_
     ·refine Ens.bind (belowOk h17) fun o25 h25 => ?_
      have := hz hc
      rw [app_fits (by simp only [List.length_singleton]; omega), bS]
      exact Ens.of ⟨h25.2.2.2, by simp; omega⟩
     ·exact Ens.of ⟨u1, u2, by dsimp only; rw [t3, w64_of (by omega)]; omega⟩
    ·simp only at t1 t2 t3
     simp only [f16_1]
     rw [en, if_neg (by omega)]
     exact ⟨_, rfl, t1, t2⟩
   refine Ens.bind this fun ⟨b', i', hh', x⟩ ⟨u1, u2⟩ => ?_
   dsimp only
   rw [app_fits (by simp only [List.length_singleton]; omega), bS]
   refine Ens.of ⟨u1, by simp; omega, fun y hy => ?_, by dsimp only; rw [s4, w64_of (by omega)]; omega⟩
   dsimp only at hy
   rw [List.mem_append, List.mem_singleton] at hy
   rcases hy with hy | hy
   ·exact s3 y hy
   ·rw [hy]; exact u2
  ·simp only at s1 s2 s3 s4
   simp only [f16_0]
   rw [if_neg (by omega)]
   exact ⟨_, rfl, s1, by dsimp only; omega, s3⟩
 ·dsimp only
  simp only at g1 g2 g3
  refine Ens.bind (Q := fun s => Cur ⟨s.1, s.2.1, s.2.2.1⟩ /\ (s.2.2.2 = true -> 0 < l.length)) (Ens.ite (fun hl => Ens.bind (onceOk g1) fun o53 h53 => Ens.of ⟨h53, fun _ => by omega⟩) fun _ => Ens.of ⟨g1, fun h => by cases h⟩) fun ⟨b', i', hh', z⟩ ⟨u1, u2⟩ => ?_
  dsimp only
  refine Ens.bind (Q := fun s => Cur ⟨s.1, s.2.1, s.2.2.1⟩ /\ s.2.2.2.length <= 10 /\ ∀ x ∈ s.2.2.2, x.length <= 4) (Ens.ite (fun hz => ?_) fun _ => Ens.of ⟨u1, g2, fun x hx => by have := g3 x hx; omega⟩) fun ⟨b'', i'', hh'', l'⟩ ⟨w1, w2, w3⟩ => ?_
  ·have hl := u2 hz
   rw [show ix l (0 : Int) = ix l ((0 : Nat) : Int) from rfl, ix_nat hl, bS]
   refine Ens.bind (pickOk u1 (by simp)) fun o60 h60 => ?_
   have := g3 _ (List.getElem_mem hl)
   rw [app_fits (by simp only [List.length_singleton]; omega), bS]
   refine Ens.of ⟨h60.2, by simp; omega, fun x hx => ?_⟩
   rcases List.mem_or_eq_of_mem_set hx with hx | hx
   ·have := g3 x hx; omega
   ·rw [hx]; simp; omega
  ·exact Ens.of ⟨by rw [en]; dsimp only; omega, by rw [en]; dsimp only; omega, w2, w3, w1⟩
theorem setOk {c : L1Cur} {n : Int} (h : Cur c) (h1 : 1 <= n) (h5 : n <= 5) : Ens (f20 c n) fun r => r.1.length <= 6 /\ In64 r.1 /\ Cur r.2 := by
 unfold f20
 refine Ens.bind (Q := fun s => Cur ⟨s.1, s.2.1, s.2.2.1⟩ /\ s.2.2.2.length <= 5 /\ In64 s.2.2.2) ?_ fun ⟨b, i, hh, l⟩ ⟨g1, g2, g3⟩ => ?_
 ·refine iter_up (f := f20_0 n) n.toNat (fun v s => Cur ⟨s.1, s.2.1, s.2.2.1⟩ /\ s.2.2.2.1.length <= v /\ In64 s.2.2.2.1 /\ s.2.2.2.2 = 1 + (v : Int)) (fun s => Cur ⟨s.1, s.2.1, s.2.2.1⟩ /\ s.2.2.2.length <= 5 /\ In64 s.2.2.2) (fun v ⟨b, i, hh, x, w⟩ hv ⟨t1, t2, t4, t3⟩ => ?_) (fun ⟨b, i, hh, x, w⟩ ⟨t1, t2, t4, t3⟩ => ?_) _ ⟨h, by simp, fun v hv => by simp at hv, by simp⟩
  ·simp only at t1 t2 t3 t4
   simp only [f20_0]
   rw [if_pos (by omega)]
   refine Ens.bind (onceOk t1) fun o7 h7 => ?_
   refine Ens.bind (Q := fun s => Cur ⟨s.1, s.2.1, s.2.2.1⟩ /\ s.2.2.2.length <= v + 1 /\ In64 s.2.2.2) (Ens.ite (fun hc => ?_) fun _ => Ens.of ⟨h7, by dsimp only; omega, t4⟩) fun ⟨b', i', hh', x'⟩ ⟨u1, u2, u3⟩ => ?_
   ·refine Ens.bind (belowOk h7) fun o12 h12 => ?_
    rw [app_fits (by simp only [List.length_singleton]; omega), bS]
    exact Ens.of ⟨h12.2.2.2, by simp; omega, t4.snoc w64_range⟩
   ·exact Ens.of ⟨u1, u2, u3, by dsimp only; rw [t3, w64_of (by omega)]; omega⟩
  ·simp only at t1 t2 t3 t4
   simp only [f20_0]
   rw [if_neg (by omega)]
   exact ⟨_, rfl, t1, by dsimp only; omega, t4⟩
 ·simp only at g1 g2 g3
  dsimp only
  refine Ens.bind (onceOk g1) fun o26 h26 => ?_
  refine Ens.ite (fun hc => ?_) fun _ => Ens.of ⟨by dsimp only; omega, g3, h26⟩
  refine Ens.bind (pickOk h26 (by simp)) fun o29 h29 => ?_
  rw [app_fits (by simp only [List.length_singleton]; omega), bS]
  refine Ens.of ⟨by simp; omega, g3.snoc ?_, h29.2⟩
  have := h29.1
  simp at this
  omega
end
section
end
section
abbrev Big (n : Nat) : Prop := n <= 9223372036854775806
theorem hasI {l : List Int} {x : Int} (h : Big l.length) : f56 l x = some (l.contains x) := by
 unfold f56
 rw [iter_ex l (fun a => x == a) true (fun i hi => by
  simp only [f56_0]
  rw [if_pos (by omega), ix_nat hi, w64_succ (by omega)]
  simp only [bS]
  by_cases hc : l[i] = x
  ·rw [if_pos hc, if_pos (by simp [hc])]
  ·rw [if_neg hc, if_neg (by simp; exact fun h => hc h.symm)]) (by
  simp only [f56_0]
  rw [if_neg (by omega)])]
 rw [show l.contains x = l.any (fun a => x == a) from List.any_beq.symm]
 by_cases hc : l.any (fun a => x == a) = true
 ·rw [if_pos hc, hc]; rfl
 ·rw [if_neg hc]; simp only [Bool.not_eq_true] at hc; rw [hc]; rfl
theorem indexII {s : List (List Int)} {f : List Int -> Option Bool} {p : List Int -> Bool} (h : Big s.length) (hf : ∀ a ∈ s, f a = some (p a)) : f39 s f = some (s.any p) := by
 unfold f39 f57
 obtain ⟨o, h1, h2⟩ := iter_idx (f := f57_0 s f) s p (fun i hi => by
  simp only [f57_0]
  rw [if_pos (by omega), ix_nat hi, w64_succ (by omega)]
  simp only [bS, hf _ (List.getElem_mem hi)]
  split <;> rfl) (by
  simp only [f57_0]
  rw [if_neg (by omega)])
 rw [h1]
 cases o with
 | inl _ => dsimp only at h2; rw [h2]; rfl
 | inr x => dsimp only at h2; rw [h2.2]; simp; omega
theorem indexI {s : List Int} {f : Int -> Option Bool} {p : Int -> Bool} (h : Big s.length) (hf : ∀ a ∈ s, f a = some (p a)) : f42 s f = some (s.any p) := by
 unfold f42 f58
 obtain ⟨o, h1, h2⟩ := iter_idx (f := f58_0 s f) s p (fun i hi => by
  simp only [f58_0]
  rw [if_pos (by omega), ix_nat hi, w64_succ (by omega)]
  simp only [bS, hf _ (List.getElem_mem hi)]
  split <;> rfl) (by
  simp only [f58_0]
  rw [if_neg (by omega)])
 rw [h1]
 cases o with
 | inl _ => dsimp only at h2; rw [h2]; rfl
 | inr x => dsimp only at h2; rw [h2.2]; simp; omega
theorem containsI {s : List Int} {v : Int} (h : Big s.length) : f44 s v = some (s.contains v) := by
 unfold f44 f59
 obtain ⟨o, h1, h2⟩ := iter_idx (f := f59_0 s v) s (fun a => v == a) (fun i hi => by
  simp only [f59_0]
  rw [if_pos (by omega), ix_nat hi, w64_succ (by omega)]
  simp only [bS, beq_iff_eq]
  split <;> rfl) (by
  simp only [f59_0]
  rw [if_neg (by omega)])
 rw [h1]
 rw [show s.contains v = s.any (fun a => v == a) from List.any_beq.symm]
 cases o with
 | inl _ => dsimp only at h2; rw [h2]; rfl
 | inr x => dsimp only at h2; rw [h2.2]; simp; omega
end
section
def lit (m : List Bool) (x : Int) : Bool :=
 if x > 0 then (if x <= (m.length : Int) then m[(x - 1).toNat]?.getD false else false)
 else if x < 0 then (if x >= -(m.length : Int) then !(m[(-x - 1).toNat]?.getD false) else false) else false
def sat (l : List (List Int)) (m : List Bool) : Bool := l.all fun c => c.any (lit m)
theorem isTrue {m : List Bool} {x : Int} (h : m.length <= 1048576) : f50 m x = some (lit m x) := by
 unfold f50 lit
 by_cases h1 : x > 0
 ·simp only [if_pos h1]
  by_cases h2 : x <= (m.length : Int)
  ·simp only [if_pos h2]
   rw [w64_of (by omega), ix_getD (d := false) (by omega) (by omega)]; rfl
  ·simp only [if_neg h2]; rfl
 ·simp only [if_neg h1]
  by_cases h2 : x < 0
  ·simp only [if_pos h2]
   rw [w64_of (n := -(m.length : Int)) (by omega)]
   by_cases h3 : x >= -(m.length : Int)
   ·simp only [if_pos h3]
    rw [w64_of (n := -x) (by omega), w64_of (by omega), ix_getD (d := false) (by omega) (by omega)]
    simp
   ·simp only [if_neg h3]; rfl
  ·simp only [if_neg h2]; rfl
theorem satImp {l : List (List Int)} {m : List Bool} (h : Big l.length) (h' : ∀ x ∈ l, Big x.length) (hm : m.length <= 1048576) : f31 l m = some (sat l m) := by
 unfold f31
 rw [indexII (p := fun c => !c.any (lit m)) h (fun c hc => by
  unfold f48
  rw [indexI (p := lit m) (h' _ hc) (fun x _ => by
   unfold f49
   rw [isTrue hm]; rfl)]
  simp)]
 rw [any_not]
 simp [sat]
def slit (n v : Int) : Bool := let y := if v < 0 /\ v >= w64 (-n) then w64 (-v) else (if 0 > v then 0 else v); decide (1 <= y) && decide (y <= n)
def ilit (n v : Int) : Bool := !(v == 0) && (decide (w64 (-n) <= v) && decide (v <= n))
def bef (c : List Int) (i : Nat) : Bool := (c.take i).any fun a => a == c.getD i 0 || a == w64 (-(c.getD i 0))
def clS (n : Int) (c : List Int) : Bool := !(List.range c.length).any fun i => !slit n (c.getD i 0) || bef c i
def clI (n : Int) (c : List Int) : Bool := !(List.range c.length).any fun i => !ilit n (c.getD i 0) || bef c i
theorem slit_ilit {n v : Int} (h0 : 0 <= n) (h1 : n <= 14) : slit n v = ilit n v := by
 unfold slit ilit
 have e1 : w64 (-n) = -n := w64_of (by omega)
 rw [e1]
 by_cases h2 : v < 0 /\ v >= -n
 ·have e2 : w64 (-v) = -v := w64_of (by omega)
  rw [if_pos h2, e2]
  rw [Bool.eq_iff_iff]
  simp
  omega
 ·rw [if_neg h2]
  rw [Bool.eq_iff_iff]
  by_cases h3 : 0 > v
  ·rw [if_pos h3]; simp; omega
  ·rw [if_neg h3]; simp; omega
theorem clS_clI {n : Int} {c : List Int} (h0 : 0 <= n) (h1 : n <= 14) : clI n c = clS n c := by
 unfold clS clI
 simp only [slit_ilit h0 h1]
theorem specIn3 {x lo hi : Int} : f46 x lo hi = some (decide (lo <= x) && decide (x <= hi)) := by
 unfold f46
 by_cases h : x >= lo
 ·rw [if_pos h]; simp [h]
 ·rw [if_neg h]; simp [show ¬ lo <= x from h]
theorem implIn {x lo hi : Int} : f38 x lo hi = some (decide (lo <= x) && decide (x <= hi)) := by
 unfold f38
 by_cases h : lo <= x
 ·rw [if_pos h]; simp [h]
 ·rw [if_neg h]; simp [h]
theorem specClause {n : Int} {c : List Int} (h : Big c.length) : f28 n c = some (clS n c) := by
 unfold f28
 rw [iter_ex (List.range c.length) (fun i => !slit n (c.getD i 0) || bef c i) false (fun i hi => by
  simp only [f28_0]
  simp only [List.length_range] at hi
  simp only [List.getElem_range]
  have eg : c.getD i 0 = c[i] := by rw [zD, zE hi]; rfl
  rw [if_pos (by omega), ix_nat hi, w64_succ (by omega), bS]
  have es : ((((if c[i] < 0 then some (decide (c[i] >= (w64 (-n)))) else some false) : Option Bool).bind fun x_5 => ((if x_5 = true then some (w64 (-c[i])) else some (if 0 > c[i] then 0 else c[i])) : Option Int).bind fun v_11 => f46 v_11 1 n) : Option Bool) = some (slit n c[i]) := by
   unfold slit
   by_cases h1 : c[i] < 0
   ·by_cases h2 : c[i] >= w64 (-n)
    ·simp only [if_pos h1, h2, decide_true, bS, if_true, specIn3, and_true]
    ·simp only [if_pos h1, h2, decide_false, bS, specIn3, and_false, if_false, Bool.false_eq_true]
   ·rw [if_neg (show ¬ (c[i] < 0 /\ c[i] >= w64 (-n)) from fun h => h1 h.1)]
    simp only [if_neg h1, bS, specIn3, if_false, Bool.false_eq_true]
  rw [<- Option.bind_assoc] at es
  rw [<- Option.bind_assoc, <- Option.bind_assoc, es, bS]
  rw [eg]
  by_cases hc : slit n c[i] = true
  ·rw [hc, if_neg (by simp)]
   rw [iter_ex (c.take i) (fun a => a == c.getD i 0 || a == w64 (-(c.getD i 0))) false (fun k hk => by
    simp only [f28_1]
    simp only [List.length_take] at hk
    rw [if_pos (by omega), ix_nat (l := c) (i := k) (by omega), w64_succ (by omega), ix_nat hi, eg]
    simp only [bS, List.getElem_take]
    by_cases h1 : c[k] = c[i]
    ·rw [if_pos h1]; simp [h1]
    ·rw [if_neg h1]
     by_cases h2 : c[k] = w64 (-c[i]) <;> simp [h1, h2]) (by
    simp only [f28_1]
    rw [if_neg (by simp; omega)])]
   unfold bef
   cases ((c.take i).any fun a => a == c.getD i 0 || a == w64 (-(c.getD i 0))) <;> rfl
  ·simp only [Bool.not_eq_true] at hc
   rw [hc]; rfl) (by
  simp only [f28_0]
  rw [if_neg (by simp)])]
 unfold clS
 cases ((List.range c.length).any fun i => !slit n (c.getD i 0) || bef c i) <;> rfl
theorem implClause {n : Int} {c : List Int} (h : Big c.length) : f41 n c = some (clI n c) := by
 unfold f41
 rw [iter_ex (List.range c.length) (fun i => !ilit n (c.getD i 0) || bef c i) false (fun i hi => by
  simp only [f41_0]
  simp only [List.length_range] at hi
  simp only [List.getElem_range]
  have eg : c.getD i 0 = c[i] := by rw [zD, zE hi]; rfl
  rw [if_pos (by omega), ix_nat hi, w64_succ (by omega), bS, eg]
  unfold ilit
  by_cases h1 : c[i] = 0
  ·rw [if_pos h1]; simp [h1]
  ·rw [if_neg h1, implIn]
   simp only [bS]
   by_cases h2 : (decide (w64 (-n) <= c[i]) && decide (c[i] <= n)) = true
   ·rw [if_neg (by rw [h2]; simp), cutL_ok (by omega) (by omega) (by omega), bS]
    rw [show (List.take (i : Int).toNat c).drop (0 : Int).toNat = c.take i by simp]
    have hb : Big (c.take i).length := by simp; omega
    rw [containsI hb, containsI hb, h2]
    unfold bef
    rw [eg]
    have e3 : ((c.take i).any fun a => a == c[i] || a == w64 (-c[i])) = ((c.take i).contains c[i] || (c.take i).contains (w64 (-c[i]))) := by
     rw [Bool.eq_iff_iff]; simp only [List.any_eq_true, Bool.or_eq_true, List.contains_iff_mem, beq_iff_eq]
     constructor
     ·rintro ⟨a, ha, h | h⟩
      ·exact .inl (h ▸ ha)
      ·exact .inr (h ▸ ha)
     ·rintro (h | h)
      ·exact ⟨_, h, .inl rfl⟩
      ·exact ⟨_, h, .inr rfl⟩
    rw [e3]
    have h1' : (c[i] == 0) = false := by simpa using h1
    rw [h1']
    cases (c.take i).contains c[i] <;> cases (c.take i).contains (w64 (-c[i])) <;> rfl
   ·rw [if_pos h2]
    simp only [Bool.not_eq_true] at h2
    rw [h2]; simp) (by
  simp only [f41_0]
  rw [if_neg (by simp)])]
 unfold clI
 cases ((List.range c.length).any fun i => !ilit n (c.getD i 0) || bef c i) <;> rfl
def valid (n : Int) (l : List (List Int)) : Bool := l.all (clS n) && ((decide (0 <= n) && decide (n <= 14)) && decide ((l.length : Int) <= 400))
theorem specValid {n : Int} {l : List (List Int)} (h : Big l.length) (h' : ∀ x ∈ l, Big x.length) : f27 n l = some (valid n l) := by
 unfold f27
 rw [iter_ex l (fun c => !clS n c) false (fun i hi => by
  simp only [f27_0]
  rw [if_pos (by omega), ix_nat hi, w64_succ (by omega)]
  simp only [bS, specClause (h' _ (List.getElem_mem hi))]
  cases clS n l[i] <;> rfl) (by
  simp only [f27_0]
  rw [if_neg (by omega)])]
 rw [any_not]
 unfold valid
 cases l.all (clS n)
 ·rfl
 ·rw [if_neg (by simp), bS]
  dsimp only
  rw [specIn3, bS]
  cases (decide (0 <= n) && decide (n <= 14)) <;> simp
theorem implValid {n : Int} {l : List (List Int)} (h : Big l.length) (h' : ∀ x ∈ l, Big x.length) : f21 n l = some (valid n l) := by
 unfold f21 f22 valid
 by_cases h0 : (l.length : Int) <= 400
 ·rw [if_pos h0, implIn, bS]
  by_cases h1 : (decide (0 <= n) && decide (n <= 14)) = true
  ·rw [if_pos h1, h1]
   simp only [Bool.and_eq_true, decide_eq_true_eq] at h1
   rw [indexII (p := fun c => !clS n c) h (fun c hc => by
    unfold f40
    rw [implClause (h' _ hc), clS_clI h1.1 h1.2]; simp), any_not]
   simp [h0]
  ·rw [if_neg h1]
   simp only [Bool.not_eq_true] at h1
   rw [h1]; simp
 ·rw [if_neg h0]; simp [h0]
end
section
abbrev neg (v : Int) : Int := w64 (-v)
def negs (c : List Int) : List Int := c.map neg
theorem negSpec {l : List Int} (h : l.length <= 1048576) : f30 l = some (negs l) := by
 unfold f30
 rw [iter_flat l (fun v => [neg v]) id (fun i hi => by
  have hn := take_flat_le (l := l) (i := i) (g := fun v => [neg v]) (m := 1) (fun _ => by simp)
  simp only [f30_0]
  rw [if_pos (by omega), ix_nat hi, bS, app_fits (by simp only [List.length_singleton]; omega), w64_succ (by omega)]; rfl) (by
  simp only [f30_0]
  rw [if_neg (by omega)]; rfl)]
 rw [bS, negs, List.map_eq_flatMap]; rfl
theorem negImp {l : List Int} (h : l.length <= 1048576) : f25 l = some (negs l) := by
 unfold f25
 rw [iter_flat l (fun v => [neg v]) id (fun i hi => by
  have hn := take_flat_le (l := l) (i := i) (g := fun v => [neg v]) (m := 1) (fun _ => by simp)
  simp only [f25_0]
  rw [if_pos (by omega), ix_nat hi, bS, app_fits (by simp only [List.length_singleton]; omega), w64_succ (by omega)]; rfl) (by
  simp only [f25_0]
  rw [if_neg (by omega)]; rfl)]
 rw [bS, negs, List.map_eq_flatMap]; rfl
def left (out c : List Int) : List Int := c.filter fun v => !out.contains (neg v)
def hit (out c : List Int) : Bool := c.any out.contains
theorem filter_flat {α : Type} {l : List α} {p : α -> Bool} : l.flatMap (fun v => if p v = true then [v] else []) = l.filter p := by
 induction l with
 | nil => rfl
 | cons a l ih => rw [List.flatMap_cons, ih, List.filter_cons]; split <;> rfl
theorem leftSpec {c out : List Int} (h : c.length <= 1048576) (ho : Big out.length) : ∃ o, f47 c out = some o /\ o.2 = hit out c /\ (o.2 = false -> o.1 = left out c) := by
 unfold f47
 obtain ⟨r, e1, e2⟩ := iter_up (f := f47_0 c out) c.length (fun i s => s = (left out (c.take i), (i : Int)) /\ hit out (c.take i) = false) (fun r => match r with | .inl o => o = left out c /\ hit out c = false | .inr (o, b) => b = true /\ hit out c = true) (fun i s hi ⟨hs, hh⟩ => by
  subst hs
  have hl : (left out (c.take i)).length <= i := by
   refine Nat.le_trans (List.length_filter_le _ _) ?_
   rw [List.length_take]; omega
  simp only [f47_0]
  rw [if_pos (by omega), ix_nat hi, bS, hasI ho, bS]
  have et := take_succ' hi
  by_cases hc : out.contains c[i] = true
  ·rw [if_pos hc]
   exact ⟨_, rfl, rfl, List.any_eq_true.2 ⟨_, List.getElem_mem hi, hc⟩⟩
  ·rw [if_neg hc, hasI ho, bS, w64_succ (by omega)]
   simp only [Bool.not_eq_true] at hc
   have h2 : hit out (c.take (i + 1)) = false := by
    unfold hit at hh ⊢; rw [et, List.any_append, hh]; simp [hc]; simpa using hc
   have h3 : left out (c.take (i + 1)) = left out (c.take i) ++ (if !out.contains (neg c[i]) then [c[i]] else []) := by
    unfold left; rw [et, List.filter_append, List.filter_cons]; rfl
   by_cases hn : out.contains (neg c[i]) = true
   ·refine ⟨.inl (left out (c.take i), ((i + 1 : Nat) : Int)), ?_, ?_, h2⟩
    ·rw [if_neg (by simpa using hn)]; rfl
    ·rw [h3, hn]; simp
   ·refine ⟨.inl (left out (c.take i) ++ [c[i]], ((i + 1 : Nat) : Int)), ?_, ?_, h2⟩
    ·rw [if_pos (by simpa using hn), app_fits (by simp only [List.length_singleton]; omega)]; rfl
    ·simp only [Bool.not_eq_true] at hn
     rw [h3, hn]; simp) (fun s ⟨hs, hh⟩ => by
  subst hs
  rw [List.take_of_length_le (Nat.le_refl _)] at hh ⊢
  simp only [f47_0]
  rw [if_neg (by omega)]
  exact ⟨_, rfl, rfl, hh⟩) ([], 0) ⟨by simp [left], by simp [hit]⟩
 rw [e1]
 cases r with
 | inl o => exact ⟨_, rfl, e2.2.symm, fun _ => e2.1⟩
 | inr r => obtain ⟨o, b⟩ := r; exact ⟨_, rfl, e2.1.trans e2.2.symm, fun h => by rw [e2.1] at h; cases h⟩
theorem withoutImp {c b : List Int} (h : c.length <= 1048576) (hb : Big b.length) : f45 c b = some (c.filter fun v => !b.contains v) := by
 unfold f45
 rw [iter_flat c (fun v => if (!b.contains v) = true then [v] else []) id (fun i hi => by
  have hn := take_flat_le (l := c) (i := i) (g := fun v => if (!b.contains v) = true then [v] else []) (m := 1) (fun a => by split <;> simp)
  generalize (c.take i).flatMap (fun v => if (!b.contains v) = true then [v] else []) = out at hn ⊢
  simp only [f45_0]
  rw [if_pos (by omega), ix_nat hi, bS, containsI hb, bS, w64_succ (by omega)]
  cases hc : b.contains c[i]
  ·rw [if_pos (by simp), app_fits (by simp only [List.length_singleton]; omega)]; rfl
  ·rw [if_neg (by simp)]; simp) (by
  simp only [f45_0]
  rw [if_neg (by omega)]; rfl)]
 rw [bS, filter_flat]; rfl
def Lits (n : Int) (c : List Int) : Prop := ∀ v ∈ c, v ≠ 0 /\ -n <= v /\ v <= n
theorem neg_neg {n v : Int} (h : n <= 14) (hv : v ≠ 0 /\ -n <= v /\ v <= n) : neg v = -v := w64_of (by omega)
theorem left_eq {n : Int} {c out : List Int} (hn : n <= 14) (hc : Lits n c) (ho : Lits n out) : (c.filter fun v => !(negs out).contains v) = left out c := by
 unfold left
 apply List.filter_congr
 intro v hv
 have : (negs out).contains v = out.contains (neg v) := by
  rw [Bool.eq_iff_iff, List.contains_iff_mem, List.contains_iff_mem]
  unfold negs
  rw [List.mem_map]
  constructor
  ·rintro ⟨a, ha, rfl⟩
   rw [neg_neg hn (ho a ha)]
   have := ho a ha
   rw [neg_neg hn (by omega), Int.neg_neg]; exact ha
  ·intro h
   refine ⟨_, h, ?_⟩
   have h1 := hc v hv
   rw [neg_neg hn h1, neg_neg hn (by omega), Int.neg_neg]
 rw [this]
def scan (out : List Int) : List (List Int) -> Option (Option Int)
 | [] => none
 | c :: l => if hit out c = true then scan out l else match left out c with
  | [] => some none
  | [v] => some (some v)
  | _ => scan out l
def round (out : List Int) (l : List (List Int)) : (List Int × Bool) ⊕ (List Int × Bool) := match scan out l with
 | none => .inl (out, false)
 | some none => .inr (out, true)
 | some (some v) => .inl (out ++ [v], true)
theorem roundImp {n : Int} {l : List (List Int)} {out : List Int} (hn : n <= 14) (h : l.length <= 1048576) (h' : ∀ c ∈ l, c.length <= 1048576) (hl : ∀ c ∈ l, Lits n c) (ho : Lits n out) (hz : out.length <= 1048576) :
  iter (f24_1 l out) 0 = some (round out l) := by
 obtain ⟨r, e1, e2⟩ := iter_up (f := f24_1 l out) l.length (fun i s => s = (i : Int) /\ scan out (l.drop i) = scan out l) (fun r => r = round out l) (fun i s hi ⟨hs, hh⟩ => by
  subst hs
  simp only [f24_1]
  have hb := h' _ (List.getElem_mem hi)
  have hg : Big (negs out).length := by simp only [negs, List.length_map]; omega
  rw [if_pos (by omega), ix_nat hi, bS, indexI (p := out.contains) (by omega) (fun x _ => by
   unfold f43
   rw [containsI (by omega)]; rfl), bS, negImp hz, bS, withoutImp hb hg, left_eq hn (hl _ (List.getElem_mem hi)) ho, w64_succ (by omega)]
  rw [List.drop_eq_getElem_cons hi] at hh
  rw [scan] at hh
  by_cases hc : hit out l[i] = true
  ·rw [if_pos hc] at hh
   rw [if_pos (show l[i].any out.contains = true from hc)]
   exact ⟨_, rfl, rfl, hh⟩
  ·rw [if_neg hc] at hh
   rw [if_neg (show ¬ l[i].any out.contains = true from hc)]
   cases hv : left out l[i] with
   | nil =>
    rw [hv] at hh
    exact ⟨.inr (.inr (out, true)), rfl, by unfold round; rw [<- hh]⟩
   | cons v t =>
    rw [hv] at hh
    rw [bS, if_neg (by simp only [List.length_cons]; omega)]
    cases t with
    | nil =>
     rw [if_pos (by simp), show ix [v] (0 : Int) = some v from rfl, bS, app_fits (by simp only [List.length_singleton]; omega)]
     exact ⟨.inr (.inl (out ++ [v], true)), rfl, by unfold round; rw [<- hh]⟩
    | cons w t =>
     rw [if_neg (by simp only [List.length_cons]; omega)]
     exact ⟨_, rfl, rfl, hh⟩) (fun s ⟨hs, hh⟩ => by
  subst hs
  simp only [f24_1]
  rw [if_neg (by omega)]
  rw [List.drop_of_length_le (Nat.le_refl _), scan] at hh
  refine ⟨_, rfl, ?_⟩
  unfold round
  rw [<- hh]) 0 ⟨rfl, by simp⟩
 rw [e1, e2]
theorem roundSpec {l : List (List Int)} {out : List Int} (h : l.length <= 1048576) (h' : ∀ c ∈ l, c.length <= 1048576) (hz : out.length <= 1048576) :
  ∃ r, iter (f29_1 l) (out, false, 0) = some r /\ (match r with | .inl (o, m) => round out l = .inl (o, m) | .inr (o, m) => m = true /\ round out l = .inr (o, m)) := by
 refine iter_up (f := f29_1 l) l.length (fun i s => (s = (out, false, (i : Int)) /\ scan out (l.drop i) = scan out l) \/ ∃ v, s = (out ++ [v], true, (i : Int)) /\ scan out l = some (some v)) (fun r => match r with | .inl (o, m) => round out l = .inl (o, m) | .inr (o, m) => m = true /\ round out l = .inr (o, m)) (fun i s hi hs => ?_) (fun s hs => ?_) (out, false, 0) (.inl ⟨rfl, by simp⟩)
 ·rcases hs with ⟨hs, hh⟩ | ⟨v, hs, hh⟩
  ·subst hs
   have hb := h' _ (List.getElem_mem hi)
   obtain ⟨⟨o1, o2⟩, g1, g2, g3⟩ := leftSpec (c := l[i]) (out := out) hb (by omega)
   simp only [f29_1]
   rw [if_pos (by omega), bS, if_pos (by simp), ix_nat hi, bS, g1, bS, w64_succ (by omega)]
   rw [List.drop_eq_getElem_cons hi, scan] at hh
   simp only at g2 g3 ⊢
   by_cases hc : hit out l[i] = true
   ·rw [if_pos hc] at hh
    rw [if_pos (g2.trans hc)]
    exact ⟨_, rfl, .inl ⟨rfl, hh⟩⟩
   ·rw [if_neg hc] at hh
    simp only [Bool.not_eq_true] at hc
    rw [if_neg (by rw [g2, hc]; simp), g3 (g2.trans hc)]
    cases hv : left out l[i] with
    | nil =>
     rw [hv] at hh
     exact ⟨.inr (.inr (out, true)), rfl, rfl, by unfold round; rw [<- hh]⟩
    | cons v t =>
     rw [hv] at hh
     rw [if_neg (by simp only [List.length_cons]; omega)]
     cases t with
     | nil =>
      rw [if_pos (by simp), show ix [v] (0 : Int) = some v from rfl, bS, app_fits (by simp only [List.length_singleton]; omega)]
      exact ⟨.inl (out ++ [v], true, ((i + 1 : Nat) : Int)), rfl, .inr ⟨v, rfl, hh.symm⟩⟩
     | cons w t =>
      rw [if_neg (by simp only [List.length_cons]; omega)]
      exact ⟨_, rfl, .inl ⟨rfl, hh⟩⟩
  ·subst hs
   simp only [f29_1]
   rw [if_pos (by omega), bS, if_neg (by simp)]
   exact ⟨_, rfl, by unfold round; rw [hh]⟩
 ·rcases hs with ⟨hs, hh⟩ | ⟨v, hs, hh⟩
  ·subst hs
   simp only [f29_1]
   rw [if_neg (by omega), bS, if_neg (by simp)]
   rw [List.drop_of_length_le (Nat.le_refl _), scan] at hh
   exact ⟨_, rfl, by unfold round; rw [<- hh]⟩
  ·subst hs
   simp only [f29_1]
   rw [if_neg (by omega), bS, if_neg (by simp)]
   exact ⟨_, rfl, by unfold round; rw [hh]⟩
def Good (n : Int) (c : List Int) : Prop := Lits n c /\ c.Pairwise fun a b => a ≠ b /\ a ≠ -b
theorem pigeon : ∀ (n : Nat) (l : List Nat), l.Nodup -> (∀ x ∈ l, x < n) -> l.length <= n
 | 0, l, _, h => by
  cases l with
  | nil => simp
  | cons a l => exact absurd (h a (by simp)) (by omega)
 | n + 1, l, hd, h => by
  have h1 := pigeon n (l.erase n) (hd.erase n) (fun x hx => by
   have h2 := h x (List.mem_of_mem_erase hx)
   have h3 : x ≠ n := fun e => by subst e; exact hd.not_mem_erase hx
   omega)
  have h4 := List.length_erase (l := l) (a := n)
  split at h4 <;> omega
theorem Good.len {n : Int} {c : List Int} (h : Good n c) : (c.length : Int) <= n \/ c = [] := by
 cases hc : c with
 | nil => exact .inr rfl
 | cons a t =>
  left
  rw [<- hc]
  have h0 := h.1 a (by rw [hc]; simp)
  have := pigeon n.toNat (c.map fun v => v.natAbs - 1) (by
   unfold List.Nodup
   rw [List.pairwise_map]
   refine List.Pairwise.imp_of_mem ?_ h.2
   intro x y hx hy hxy
   have := h.1 x hx
   have := h.1 y hy
   omega) (by
   intro x hx
   rw [List.mem_map] at hx
   obtain ⟨v, hv, rfl⟩ := hx
   have := h.1 v hv
   omega)
  rw [List.length_map] at this
  omega
theorem Good.le14 {n : Int} {c : List Int} (hn : n <= 14) (h : Good n c) : c.length <= 14 := by
 rcases h.len with h | h
 ·omega
 ·subst h; simp
theorem scan_some {out : List Int} : ∀ {l : List (List Int)} {v : Int}, scan out l = some (some v) -> ∃ c ∈ l, hit out c = false /\ left out c = [v]
 | [], v, h => by simp [scan] at h
 | c :: l, v, h => by
  rw [scan] at h
  by_cases hc : hit out c = true
  ·rw [if_pos hc] at h
   obtain ⟨d, hd, g⟩ := scan_some h
   exact ⟨d, by simp [hd], g⟩
  ·rw [if_neg hc] at h
   simp only [Bool.not_eq_true] at hc
   split at h
   ·cases h
   ·rename_i w hw
    simp only [zJ] at h
    subst h
    exact ⟨c, by simp, hc, hw⟩
   ·obtain ⟨d, hd, g⟩ := scan_some h
    exact ⟨d, by simp [hd], g⟩
theorem scan_good {n : Int} {out : List Int} {l : List (List Int)} {v : Int} (hn : n <= 14) (hl : ∀ c ∈ l, Lits n c) (ho : Good n out) (h : scan out l = some (some v)) : Good n (out ++ [v]) := by
 obtain ⟨c, hc, h1, h2⟩ := scan_some h
 have hv : v ∈ left out c := by rw [h2]; simp
 unfold left at hv
 rw [List.mem_filter] at hv
 have hv1 := hl c hc v hv.1
 have hv2 : v ∉ out := fun hm => by
  have : hit out c = true := List.any_eq_true.2 ⟨v, hv.1, by simpa using hm⟩
  rw [this] at h1; cases h1
 have hv3 : -v ∉ out := fun hm => by
  rw [neg_neg hn hv1] at hv
  simp [hm] at hv
 refine ⟨fun x hx => ?_, ?_⟩
 ·rw [List.mem_append, List.mem_singleton] at hx
  rcases hx with hx | hx
  ·exact ho.1 x hx
  ·rw [hx]; exact hv1
 ·rw [List.pairwise_append]
  refine ⟨ho.2, by simp, fun a ha b hb => ?_⟩
  rw [List.mem_singleton] at hb
  subst hb
  exact ⟨fun e => hv2 (e ▸ ha), fun e => hv3 (e ▸ ha)⟩
def prop (l : List (List Int)) : Nat -> List Int -> List Int × Bool
 | 0, out => (out, false)
 | k + 1, out => match round out l with
  | .inl (o, true) => prop l k o
  | .inl (o, false) => (o, false)
  | .inr r => r
theorem round_inl {out o : List Int} {l : List (List Int)} (h : round out l = .inl (o, true)) : ∃ v, o = out ++ [v] /\ scan out l = some (some v) := by
 unfold round at h
 cases hs : scan out l with
 | none => rw [hs] at h; simp at h
 | some x => cases x with
  | none => rw [hs] at h; simp at h
  | some v => rw [hs] at h; simp at h; exact ⟨v, h.symm, rfl⟩
theorem propImp {n : Int} {l : List (List Int)} (hn : n <= 14) (h : l.length <= 1048576) (h' : ∀ c ∈ l, c.length <= 1048576) (hl : ∀ c ∈ l, Lits n c) : ∀ (k : Nat) (out : List Int), Good n out -> 14 < k + out.length ->
  iter (f24_0 l) out = some (prop l k out) := by
 intro k
 induction k with
 | zero => intro out ho hk; exact absurd (ho.le14 hn) (by omega)
 | succ k ih =>
  intro out ho hk
  have hz := ho.le14 hn
  rw [iter_eq]
  simp only [f24_0]
  rw [roundImp hn h h' hl ho.1 (by omega), bS, prop]
  cases hr : round out l with
  | inl o => obtain ⟨o, b⟩ := o; cases b with
   | false => rfl
   | true =>
    obtain ⟨v, hv, hs⟩ := round_inl hr
    have := ih o (by rw [hv]; exact scan_good hn hl ho hs) (by rw [hv]; simp; omega)
    simpa using this
  | inr r => rfl
theorem propSpec {n : Int} {l : List (List Int)} (hn : n <= 14) (h : l.length <= 1048576) (h' : ∀ c ∈ l, c.length <= 1048576) (hl : ∀ c ∈ l, Lits n c) : ∀ (k : Nat) (out : List Int), Good n out -> 14 < k + out.length ->
  ∃ r, iter (f29_0 l) (out, true) = some r /\ (match r with | .inl o => prop l k out = (o, false) | .inr x => prop l k out = x) := by
 intro k
 induction k with
 | zero => intro out ho hk; exact absurd (ho.le14 hn) (by omega)
 | succ k ih =>
  intro out ho hk
  have hz := ho.le14 hn
  rw [iter_eq]
  simp only [f29_0]
  obtain ⟨r, g1, g2⟩ := roundSpec (out := out) h h' (by omega)
  rw [if_pos trivial, g1, bS, prop]
  cases r with
  | inl o => obtain ⟨o, b⟩ := o; cases b with
   | false =>
    simp only at g2
    rw [g2]
    refine ⟨.inl o, ?_, rfl⟩
    simp only
    rw [iter_eq]
    simp only [f29_0]
    rfl
   | true =>
    simp only at g2
    obtain ⟨v, hv, hs⟩ := round_inl g2
    rw [g2]
    obtain ⟨r, e1, e2⟩ := ih o (by rw [hv]; exact scan_good hn hl ho hs) (by rw [hv]; simp; omega)
    exact ⟨r, e1, e2⟩
  | inr r =>
   obtain ⟨o, b⟩ := r
   simp only at g2
   rw [g2.2]
   exact ⟨_, rfl, rfl⟩
theorem slit_ok {n v : Int} (h0 : 0 <= n) (h1 : n <= 14) : slit n v = true ↔ v ≠ 0 /\ -n <= v /\ v <= n := by
 rw [slit_ilit h0 h1]
 unfold ilit
 have e1 : w64 (-n) = -n := w64_of (by omega)
 rw [e1]; simp
theorem clS_good {n : Int} {c : List Int} (h0 : 0 <= n) (h1 : n <= 14) : clS n c = true ↔ Good n c := by
 unfold clS
 have eg : ∀ i (hi : i < c.length), c.getD i 0 = c[i] := fun i hi => by rw [zD, zE hi]; rfl
 have ek : ((!(List.range c.length).any fun i => !slit n (c.getD i 0) || bef c i) = true) ↔ ∀ i (hi : i < c.length), slit n c[i] = true /\ bef c i = false := by
  rw [Bool.not_eq_true', List.any_eq_false]
  constructor
  ·intro h i hi
   have := h i (by simpa using hi)
   rw [eg i hi] at this
   revert this
   cases slit n c[i] <;> cases bef c i <;> simp
  ·intro h i hi
   rw [List.mem_range] at hi
   have := h i hi
   rw [eg i hi, this.1, this.2]; simp
 rw [ek]
 constructor
 ·intro h
  have hl : Lits n c := fun v hv => by
   obtain ⟨i, hi, rfl⟩ := List.getElem_of_mem hv
   exact (slit_ok h0 h1).1 (h i hi).1
  refine ⟨hl, ?_⟩
  rw [List.pairwise_iff_getElem]
  intro i j hi hj hij
  have h2 := (h j hj).2
  unfold bef at h2
  rw [List.any_eq_false] at h2
  have h3 := h2 c[i] (by rw [List.mem_take_iff_getElem]; exact ⟨i, by omega, rfl⟩)
  rw [eg j hj] at h3
  have e2 : w64 (-c[j]) = -c[j] := neg_neg h1 (hl _ (List.getElem_mem hj))
  rw [e2] at h3
  simpa using h3
 ·intro ⟨hl, hp⟩ i hi
  refine ⟨(slit_ok h0 h1).2 (hl _ (List.getElem_mem hi)), ?_⟩
  unfold bef
  rw [List.any_eq_false]
  intro a ha
  rw [List.mem_take_iff_getElem] at ha
  obtain ⟨k, hk, rfl⟩ := ha
  rw [eg i hi]
  have e2 : w64 (-c[i]) = -c[i] := neg_neg h1 (hl _ (List.getElem_mem hi))
  rw [e2]
  have := (List.pairwise_iff_getElem.1 hp) k i (by omega) hi (by omega)
  simpa using this
theorem negs_good {n : Int} {c : List Int} (h1 : n <= 14) (h : Good n c) : Good n (negs c) := by
 have e : negs c = c.map fun v => -v := by
  unfold negs
  apply List.map_congr_left
  intro v hv
  exact neg_neg h1 (h.1 v hv)
 rw [e]
 refine ⟨fun v hv => ?_, ?_⟩
 ·rw [List.mem_map] at hv
  obtain ⟨a, ha, rfl⟩ := hv
  have := h.1 a ha
  omega
 ·rw [List.pairwise_map]
  exact h.2.imp fun {a b} h => ⟨fun e => h.1 (by omega), fun e => h.2 (by omega)⟩
theorem valid_lits {n : Int} {l : List (List Int)} (h : valid n l = true) : 0 <= n /\ n <= 14 /\ l.length <= 400 /\ ∀ c ∈ l, Good n c := by
 unfold valid at h
 simp only [Bool.and_eq_true, decide_eq_true_eq] at h
 refine ⟨h.2.1.1, h.2.1.2, by omega, fun c hc => ?_⟩
 exact (clS_good h.2.1.1 h.2.1.2).1 (List.all_eq_true.1 h.1 c hc)
def rup (n : Int) (l : List (List Int)) (c : List Int) : Bool := if valid n l = true /\ clS n c = true then (prop l 15 (negs c)).2 else false
end
section
theorem prop_good {n : Int} {l : List (List Int)} (hn : n <= 14) (hl : ∀ c ∈ l, Lits n c) : ∀ (k : Nat) (out : List Int), Good n out -> Good n (prop l k out).1 := by
 intro k
 induction k with
 | zero => intro out ho; exact ho
 | succ k ih =>
  intro out ho
  rw [prop]
  cases hr : round out l with
  | inl o =>
   obtain ⟨o, b⟩ := o
   cases b with
   | true =>
    obtain ⟨v, hv, hs⟩ := round_inl hr
    exact ih o (by rw [hv]; exact scan_good hn hl ho hs)
   | false =>
    unfold round at hr
    cases hs : scan out l with
    | none => rw [hs] at hr; simp at hr; exact hr ▸ ho
    | some x => cases x with
     | none => rw [hs] at hr; simp at hr
     | some v => rw [hs] at hr; simp at hr
  | inr r =>
   unfold round at hr
   cases hs : scan out l with
   | none => rw [hs] at hr; simp at hr
   | some x => cases x with
    | none => rw [hs] at hr; simp at hr; rw [<- hr]; exact ho
    | some v => rw [hs] at hr; simp at hr
end
section
theorem shl_two {n : Int} (h0 : 0 <= n) (h1 : n <= 14) : sshl .i64 1 n = ((2 ^ n.toNat : Nat) : Int) /\ 2 ^ n.toNat <= 16384 := by
 have : n = 0 \/ n = 1 \/ n = 2 \/ n = 3 \/ n = 4 \/ n = 5 \/ n = 6 \/ n = 7 \/ n = 8 \/ n = 9 \/ n = 10 \/ n = 11 \/ n = 12 \/ n = 13 \/ n = 14 := by omega
 rcases this with h | h | h | h | h | h | h | h | h | h | h | h | h | h | h <;> subst h <;> decide
theorem nn_ok {n : Int} (h : 0 <= n) : nn n = some () := by unfold nn; rw [if_neg (by omega)]
def bit (k : Int) (v : Nat) : Bool := decide ((band .i64 (sshr .i64 k (v : Int)) 1) = 1)
def mods (n k : Nat) : List Bool := (List.range n).map (bit (k : Int))
theorem mods_len {n k : Nat} : (mods n k).length = n := by simp [mods]
theorem valid_ok {n : Int} {l : List (List Int)} (h : valid n l = true) : 0 <= n /\ n <= 14 /\ l.length <= 400 /\ l.all (clS n) = true := by
 unfold valid at h
 simp only [Bool.and_eq_true, decide_eq_true_eq] at h
 exact ⟨h.2.1.1, h.2.1.2, by omega, h.1⟩
def count (n : Nat) (l : List (List Int)) : Int := (List.range (2 ^ n)).foldl (fun c k => if sat l (mods n k) = true then w64 (c + 1) else c) 0
theorem cntMImp {n : Int} {l : List (List Int)} (h : Big l.length) (h' : ∀ x ∈ l, Big x.length) : f9 n l = some (if valid n l = true then count n.toNat l else 0) := by
 unfold f9
 rw [implValid h h', bS]
 by_cases hv : valid n l = true
 ·obtain ⟨h0, h1, _, _⟩ := valid_ok hv
  obtain ⟨s1, s2⟩ := shl_two h0 h1
  rw [if_neg (by simp [hv]), if_pos hv, mkl_ok h0 (by omega) (by omega), nn_ok h0]
  simp only [bS]
  obtain ⟨r, e1, e2⟩ := iter_up (f := f9_0 n l) (2 ^ n.toNat) (fun i s => ∃ m : List Bool, m.length = n.toNat /\ s = (((List.range (2 ^ n.toNat)).take i).foldl (fun c k => if sat l (mods n.toNat k) = true then w64 (c + 1) else c) 0, m, (i : Int))) (fun r => r = count n.toNat l) (fun k s hk ⟨m, hm, hs⟩ => by
   subst hs
   simp only [f9_0]
   rw [s1, if_pos (by omega), w64_succ (by omega)]
   rw [iter_copy (a := mods n.toNat k) (by rw [mods_len, hm]) (fun v hv out ho => by
    rw [mods_len] at hv
    simp only [f9_1]
    rw [if_pos (by omega), nn_ok (by omega), bS, ix_nat ho, w64_succ (by omega), bS, Int.toNat_natCast]
    simp [mods, bit]) (fun out => by
    simp only [f9_1]
    rw [if_neg (by rw [mods_len, hm]; omega)])]
   rw [bS, satImp h h' (by rw [mods_len]; omega), bS]
   refine ⟨.inl (if sat l (mods n.toNat k) = true then _ else _, _, _), by cases sat l (mods n.toNat k) <;> rfl, mods n.toNat k, mods_len, ?_⟩
   have ht := take_succ' (l := List.range (2 ^ n.toNat)) (i := k) (by simpa using hk)
   rw [ht, List.foldl_append]
   simp only [List.getElem_range]; rfl) (fun s ⟨m, hm, hs⟩ => by
   subst hs
   simp only [f9_0]
   rw [s1, if_neg (by omega)]
   refine ⟨_, rfl, ?_⟩
   unfold count
   rw [List.take_of_length_le (by simp)]) (0, List.replicate n.toNat false, 0) ⟨List.replicate n.toNat false, by simp, by simp⟩
  rw [e1, e2]; rfl
 ·rw [if_pos (by simpa using hv), if_neg hv]
end
section
theorem lit_opp {m : List Bool} {v : Int} (h : v ≠ 0 /\ -(m.length : Int) <= v /\ v <= m.length) : lit m (-v) = !lit m v := by
 unfold lit
 by_cases hp : v > 0
 ·rw [if_neg (by omega), if_pos (by omega), if_pos (by omega), if_pos hp, if_pos (by omega), Int.neg_neg]
 ·rw [if_pos (by omega), if_pos (by omega), if_neg hp, if_pos (by omega), if_pos (by omega), Bool.not_not]
def allLit (m : List Bool) (out : List Int) : Bool := out.all (lit m)
theorem left_true {n : Int} {m : List Bool} {out c : List Int} (hm : (m.length : Int) = n) (hn : n <= 14) (hc : Lits n c) (ho : allLit m out = true) (hs : c.any (lit m) = true) : ∃ v ∈ left out c, lit m v = true := by
 obtain ⟨v, hv, hl⟩ := List.any_eq_true.1 hs
 refine ⟨v, ?_, hl⟩
 unfold left
 rw [List.mem_filter]
 refine ⟨hv, ?_⟩
 have h1 := hc v hv
 rw [neg_neg hn h1]
 simp only [Bool.not_eq_true', List.contains_eq_mem, decide_eq_false_iff_not]
 intro hmem
 have := List.all_eq_true.1 ho _ hmem
 rw [lit_opp (by omega), hl] at this
 cases this
theorem scan_true {n : Int} {m : List Bool} {out : List Int} (hm : (m.length : Int) = n) (hn : n <= 14) (ho : allLit m out = true) : ∀ {l : List (List Int)}, (∀ c ∈ l, Lits n c) -> sat l m = true -> scan out l ≠ some none /\ ∀ v, scan out l = some (some v) -> lit m v = true
 | [], _, _ => by simp [scan]
 | c :: l, hl, hs => by
  unfold sat at hs
  rw [List.all_cons, Bool.and_eq_true] at hs
  have ih := scan_true hm hn ho (l := l) (fun d hd => hl d (by simp [hd])) hs.2
  rw [scan]
  by_cases hc : hit out c = true
  ·rw [if_pos hc]; exact ih
  ·rw [if_neg hc]
   obtain ⟨v, hv, hv'⟩ := left_true hm hn (hl c (by simp)) ho hs.1
   cases he : left out c with
   | nil => rw [he] at hv; simp at hv
   | cons w t =>
    cases t with
    | nil =>
     rw [he] at hv
     simp only [List.mem_singleton] at hv
     subst hv
     refine ⟨by simp, fun x hx => ?_⟩
     simp only [zJ] at hx
     rw [<- hx]; exact hv'
    | cons x t => exact ih
theorem prop_true {n : Int} {m : List Bool} {l : List (List Int)} (hm : (m.length : Int) = n) (hn : n <= 14) (hl : ∀ c ∈ l, Lits n c) (hs : sat l m = true) : ∀ (k : Nat) (out : List Int), allLit m out = true -> (prop l k out).2 = false /\ allLit m (prop l k out).1 = true := by
 intro k
 induction k with
 | zero => intro out ho; exact ⟨rfl, ho⟩
 | succ k ih =>
  intro out ho
  have h1 := scan_true hm hn ho hl hs
  rw [prop]
  unfold round
  cases he : scan out l with
  | none => exact ⟨rfl, ho⟩
  | some x => cases x with
   | none => exact absurd he h1.1
   | some v =>
    refine ih (out ++ [v]) ?_
    unfold allLit at ho ⊢
    rw [List.all_append, ho]
    simp [h1.2 v he]
end
section
theorem scan_none {out : List Int} : ∀ {l : List (List Int)}, scan out l = none -> ∀ c ∈ l, hit out c = true \/ 2 <= (left out c).length
 | [], _, c, hc => by cases hc
 | d :: l, h, c, hc => by
  rw [scan] at h
  by_cases g : hit out d = true
  ·rw [if_pos g] at h
   rcases List.mem_cons.1 hc with rfl | hc
   ·exact .inl g
   ·exact scan_none h c hc
  ·rw [if_neg g] at h
   split at h
   ·cases h
   ·cases h
   ·rename_i h1 h2
    rcases List.mem_cons.1 hc with rfl | hc
    ·right
     match he : left out c with
     | [] => exact absurd he h1
     | [v] => exact absurd he (h2 v)
     | _ :: _ :: _ => simp
    ·exact scan_none h c hc
theorem prop_calm {n : Int} {l : List (List Int)} (hn : n <= 14) (hl : ∀ c ∈ l, Lits n c) : ∀ (k : Nat) (out : List Int), Good n out -> 14 < k + out.length -> (prop l k out).2 = false -> scan (prop l k out).1 l = none := by
 intro k
 induction k with
 | zero => intro out ho hk _; have := ho.le14 hn; omega
 | succ k ih =>
  intro out ho hk
  rw [prop]
  unfold round
  cases hs : scan out l with
  | none => exact fun _ => hs
  | some x => cases x with
   | none => intro h; cases h
   | some v =>
    intro h
    exact ih (out ++ [v]) (scan_good hn hl ho hs) (by simp; omega) h
theorem prop_keeps {l : List (List Int)} : ∀ (k : Nat) (out : List Int), ∀ v ∈ out, v ∈ (prop l k out).1 := by
 intro k
 induction k with
 | zero => intro out v hv; exact hv
 | succ k ih =>
  intro out v hv
  rw [prop]
  unfold round
  cases hs : scan out l with
  | none => exact hv
  | some x => cases x with
   | none => exact hv
   | some w => exact ih (out ++ [w]) v (List.mem_append_left _ hv)
theorem pw_no : ∀ {o : List Int} {v : Int}, o.Pairwise (fun a b => a ≠ b /\ a ≠ -b) -> v ∈ o -> -v ∈ o -> v = 0
 | [], v, _, h, _ => by cases h
 | a :: t, v, hp, h1, h2 => by
  rw [List.pairwise_cons] at hp
  rcases List.mem_cons.1 h1 with e1 | h1 <;> rcases List.mem_cons.1 h2 with e2 | h2
  ·omega
  ·have := (hp.1 _ h2).2; omega
  ·have := (hp.1 _ h1).2; omega
  ·exact pw_no hp.2 h1 h2
theorem Good.no {n : Int} {o : List Int} {v : Int} (h : Good n o) (h1 : v ∈ o) (h2 : -v ∈ o) : False := by
 have := pw_no h.2 h1 h2
 have := (h.1 v h1).1
 omega
theorem negs_snoc {s : List Int} {w : Int} : negs (s ++ [w]) = negs s ++ [neg w] := by simp [negs]
theorem dbl1 {n : Int} {l : List (List Int)} {s o : List Int} {w : Int} (hn : n <= 14) (ho : Good n o) (hs : ∀ v ∈ s, v ∈ o) (hc : scan o l = none) (hw : w ≠ 0 /\ -n <= w /\ w <= n) (hm : negs (s ++ [w]) ∈ l) : -w ∈ o := by
 rcases scan_none hc _ hm with h | h
 ·obtain ⟨x, hx, h1⟩ := List.any_eq_true.1 h
  rw [List.contains_iff_mem] at h1
  rw [negs_snoc, List.mem_append, List.mem_singleton] at hx
  rcases hx with hx | hx
  ·obtain ⟨y, hy, rfl⟩ := List.mem_map.1 hx
   have hy' := hs y hy
   rw [neg_neg hn (ho.1 y hy')] at h1
   exact (ho.no hy' h1).elim
  ·rw [hx, neg_neg hn hw] at h1; exact h1
 ·exfalso
  rw [negs_snoc] at h
  unfold left at h
  rw [List.filter_append] at h
  have e : (negs s).filter (fun v => !o.contains (neg v)) = [] := by
   rw [List.filter_eq_nil_iff]
   intro x hx
   obtain ⟨y, hy, rfl⟩ := List.mem_map.1 hx
   have hy' := hs y hy
   have h2 := ho.1 y hy'
   rw [neg_neg hn h2, neg_neg hn (by omega), Int.neg_neg]
   simp [hy']
  rw [e, List.nil_append] at h
  have := List.length_filter_le (fun v => !o.contains (neg v)) [neg w]
  simp only [List.length_singleton] at this
  omega
theorem dbl {n : Int} {l : List (List Int)} {s : List Int} {w : Int} (hn : n <= 14) (hl : ∀ c ∈ l, Lits n c) (hs : Good n s) (hw : w ≠ 0 /\ -n <= w /\ w <= n) (h1 : negs (s ++ [w]) ∈ l) (h2 : negs (s ++ [-w]) ∈ l) : (prop l 15 s).2 = true := by
 cases h : (prop l 15 s).2
 ·have hc := prop_calm hn hl 15 s hs (by omega) h
  have ho := prop_good hn hl 15 s hs
  have a := dbl1 hn ho (prop_keeps 15 s) hc hw h1
  have b := dbl1 hn ho (prop_keeps 15 s) hc (w := -w) (by omega) h2
  exact (ho.no a b).elim
 ·rfl
def shut (o : List Int) (i : Nat) : Bool := o.contains ((i : Int) + 1) || o.contains (-((i : Int) + 1))
def openV (n : Nat) (o : List Int) : Option Nat := (List.range n).find? fun i => !shut o i
def wlk (C : List (List Int)) (n : Nat) : Nat -> List (List Int) -> List Int -> Option (List Int) × List (List Int)
 | 0, L, _ => (none, L)
 | k + 1, L, s =>
  if (prop (C ++ L) 15 s).2 = true then (none, L ++ [negs s]) else
  match openV n (prop (C ++ L) 15 s).1 with
  | none => (some (prop (C ++ L) 15 s).1, L)
  | some v => match wlk C n k L (s ++ [(v : Int) + 1]) with
   | (some m, L1) => (some m, L1)
   | (none, L1) => match wlk C n k L1 (s ++ [-((v : Int) + 1)]) with
    | (some m, L2) => (some m, L2)
    | (none, L2) => (none, L2 ++ [negs s])
def Rup (C : List (List Int)) (n : Int) (T : List (List Int)) : Prop := ∀ A c B, T = A ++ c :: B -> Good n c /\ (prop (C ++ A) 15 (negs c)).2 = true
theorem Rup.good {C T : List (List Int)} {n : Int} (h : Rup C n T) : ∀ c ∈ T, Good n c := fun c hc => by
 obtain ⟨A, B, e⟩ := List.append_of_mem hc
 exact (h A c B e).1
theorem Rup.snoc {C T : List (List Int)} {n : Int} {c : List Int} (h : Rup C n T) (hc : Good n c) (hp : (prop (C ++ T) 15 (negs c)).2 = true) : Rup C n (T ++ [c]) := by
 intro A d B e
 rcases List.eq_nil_or_concat B with rfl | ⟨B', x, rfl⟩
 ·have := List.append_inj' e rfl
  obtain ⟨rfl, h2⟩ := this
  simp only [List.cons.injEq, and_true] at h2
  subst h2
  exact ⟨hc, hp⟩
 ·rw [List.concat_eq_append, <- List.cons_append, <- List.append_assoc] at e
  have := List.append_inj' e rfl
  exact h A d B' this.1
theorem negs_negs {n : Int} {s : List Int} (hn : n <= 14) (h : Lits n s) : negs (negs s) = s := by
 unfold negs
 rw [List.map_map]
 conv => rhs; rw [<- List.map_id s]
 refine List.map_congr_left fun v hv => ?_
 have := h v hv
 simp only [Function.comp, id]
 rw [neg_neg hn this, neg_neg hn (by omega), Int.neg_neg]
theorem openV_some {n : Nat} {o : List Int} {v : Nat} (h : openV n o = some v) : v < n /\ (v : Int) + 1 ∉ o /\ -((v : Int) + 1) ∉ o := by
 have h1 := List.find?_some h
 have h2 := List.mem_of_find?_eq_some h
 rw [List.mem_range] at h2
 simp only [shut, Bool.not_eq_true', Bool.or_eq_false_iff] at h1
 refine ⟨h2, fun hm => ?_, fun hm => ?_⟩
 ·rw [<- List.contains_iff_mem, h1.1] at hm; cases hm
 ·rw [<- List.contains_iff_mem, h1.2] at hm; cases hm
theorem openV_none {n : Nat} {o : List Int} (h : openV n o = none) : ∀ i, i < n -> (i : Int) + 1 ∈ o \/ -((i : Int) + 1) ∈ o := fun i hi => by
 unfold openV at h
 rw [List.find?_eq_none] at h
 have := h i (List.mem_range.2 hi)
 simp only [shut, Bool.not_eq_true', Bool.not_eq_false, Bool.or_eq_true, List.contains_iff_mem] at this
 exact this
theorem Good.more {n : Int} {s : List Int} {w : Int} (h : Good n s) (hw : w ≠ 0 /\ -n <= w /\ w <= n) (h1 : w ∉ s) (h2 : -w ∉ s) : Good n (s ++ [w]) := by
 refine ⟨fun x hx => ?_, ?_⟩
 ·rw [List.mem_append, List.mem_singleton] at hx
  rcases hx with hx | hx
  ·exact h.1 x hx
  ·rw [hx]; exact hw
 ·rw [List.pairwise_append]
  refine ⟨h.2, by simp, fun a ha b hb => ?_⟩
  rw [List.mem_singleton] at hb
  subst hb
  exact ⟨fun e => h1 (e ▸ ha), fun e => h2 (e ▸ ha)⟩
structure Srch (C : List (List Int)) (n k : Nat) (L : List (List Int)) (s : List Int) (o : Option (List Int) × List (List Int)) : Prop where
 rup : Rup C n o.2
 ext : ∃ T, o.2 = L ++ T /\ T.length + 1 <= 2 ^ k
 no : o.1 = none -> ∃ T, o.2 = T ++ [negs s]
 yes : ∀ m, o.1 = some m -> Good n m /\ (∀ i, i < n -> (i : Int) + 1 ∈ m \/ -((i : Int) + 1) ∈ m) /\ ∀ c ∈ C, hit m c = true
theorem all_hit {n : Nat} {l : List (List Int)} {o : List Int} (hn : (n : Int) <= 14) (hl : ∀ c ∈ l, Lits n c) (ho : ∀ i, i < n -> (i : Int) + 1 ∈ o \/ -((i : Int) + 1) ∈ o) (hc : scan o l = none) : ∀ c ∈ l, hit o c = true := fun c hm => by
 rcases scan_none hc c hm with h | h
 ·exact h
 ·obtain ⟨x, hx⟩ := List.exists_mem_of_length_pos (l := left o c) (by omega)
  unfold left at hx
  rw [List.mem_filter] at hx
  have hl' := hl c hm x hx.1
  rw [neg_neg hn hl'] at hx
  refine List.any_eq_true.2 ⟨x, hx.1, ?_⟩
  rw [List.contains_iff_mem]
  have h2 : -x ∉ o := fun h => by
   have := hx.2
   rw [<- List.contains_iff_mem] at h
   rw [h] at this; cases this
  rcases Int.lt_or_gt_of_ne hl'.1 with g | g
  ·have := ho (-x - 1).toNat (by omega)
   rw [show ((-x - 1).toNat : Int) + 1 = -x by omega, Int.neg_neg] at this
   exact this.resolve_left h2
  ·have := ho (x - 1).toNat (by omega)
   rw [show ((x - 1).toNat : Int) + 1 = x by omega] at this
   exact this.resolve_right h2
theorem wlk_ok {C : List (List Int)} {n : Nat} (hn : (n : Int) <= 14) (hC : ∀ c ∈ C, Good n c) : ∀ (k : Nat) (L : List (List Int)) (s : List Int), Good n s -> n < k + s.length -> Rup C n L -> Srch C n k L s (wlk C n k L s)
 | 0, L, s, hs, hk, hL => by
  have := hs.len
  rcases this with h | h
  ·omega
  ·subst h; simp at hk
 | k + 1, L, s, hs, hk, hL => by
  have hl : ∀ c ∈ C ++ L, Lits n c := fun c hc => by
   rcases List.mem_append.1 hc with hc | hc
   ·exact (hC c hc).1
   ·exact (hL.good c hc).1
  have hns := negs_good hn hs
  have hnn := negs_negs hn hs.1
  have h2 : 2 <= 2 ^ (k + 1) := by have := Nat.one_le_two_pow (n := k); omega
  rw [wlk]
  by_cases hc : (prop (C ++ L) 15 s).2 = true
  ·rw [if_pos hc]
   exact ⟨hL.snoc hns (by rw [hnn]; exact hc), ⟨_, rfl, by simp only [List.length_singleton]; omega⟩, fun _ => ⟨L, rfl⟩, fun m h => (by cases h)⟩
  ·rw [if_neg hc]
   simp only [Bool.not_eq_true] at hc
   have calm := prop_calm hn hl 15 s hs (by omega) hc
   have good := prop_good hn hl 15 s hs
   cases hv : openV n (prop (C ++ L) 15 s).1 with
   | none =>
    dsimp only
    have ho := openV_none hv
    exact ⟨hL, ⟨[], by simp, by simp; omega⟩, fun h => by simp at h, fun m h => by
     simp only [zJ] at h
     subst h
     exact ⟨good, ho, fun c hcc => all_hit hn hl ho calm c (List.mem_append_left _ hcc)⟩⟩
   | some v =>
    dsimp only
    obtain ⟨v1, v2, v3⟩ := openV_some hv
    have w2 : (v : Int) + 1 ∉ s := fun h => v2 (prop_keeps 15 s _ h)
    have w3 : -((v : Int) + 1) ∉ s := fun h => v3 (prop_keeps 15 s _ h)
    have hw : (v : Int) + 1 ≠ 0 /\ -(n : Int) <= (v : Int) + 1 /\ (v : Int) + 1 <= n := by omega
    have g1 := wlk_ok hn hC k L _ (hs.more hw w2 w3) (by simp; omega) hL
    cases e1 : wlk C n k L (s ++ [(v : Int) + 1]) with
    | mk o1 L1 =>
    rw [e1] at g1
    obtain ⟨r1, ⟨T1, x1, z1⟩, n1, y1⟩ := g1
    simp only at r1 x1 n1 y1
    cases o1 with
    | some m => exact ⟨r1, ⟨T1, x1, by rw [Nat.pow_succ]; omega⟩, fun h => (by cases h), fun m' h => y1 m' h⟩
    | none =>
     dsimp only
     have g2 := wlk_ok hn hC k L1 _ (hs.more (w := -((v : Int) + 1)) (by omega) w3 (by rw [Int.neg_neg]; exact w2)) (by simp; omega) r1
     cases e2 : wlk C n k L1 (s ++ [-((v : Int) + 1)]) with
     | mk o2 L2 =>
     rw [e2] at g2
     obtain ⟨r2, ⟨T2, x2, z2⟩, n2, y2⟩ := g2
     simp only at r2 x2 n2 y2
     cases o2 with
     | some m => exact ⟨r2, ⟨T1 ++ T2, by rw [x2, x1, List.append_assoc], by rw [Nat.pow_succ]; simp; omega⟩, fun h => (by cases h), fun m' h => y2 m' h⟩
     | none =>
      dsimp only
      obtain ⟨A1, a1⟩ := n1 rfl
      obtain ⟨A2, a2⟩ := n2 rfl
      have hl2 : ∀ c ∈ C ++ L2, Lits n c := fun c hc => by
       rcases List.mem_append.1 hc with hc | hc
       ·exact (hC c hc).1
       ·exact (r2.good c hc).1
      have conf := dbl hn hl2 hs hw (List.mem_append_right _ (by rw [x2, a1]; simp)) (List.mem_append_right _ (by rw [a2]; simp))
      refine ⟨r2.snoc hns (by rw [hnn]; exact conf), ⟨T1 ++ T2 ++ [negs s], ?_, ?_⟩, fun _ => ⟨L2, rfl⟩, fun m h => (by cases h)⟩
      ·show L2 ++ [negs s] = _
       rw [x2, x1]; simp only [List.append_assoc]
      ·rw [Nat.pow_succ]; simp; omega
end
section
def follows : List (List Int) -> List (List Int) -> Bool
 | known, [] => true
 | known, c :: ps => (prop known 15 (negs c)).2 && follows (known ++ [c]) ps
def lastNil (p : List (List Int)) : Bool := decide ((p.getD (p.length - 1) []).length = 0)
def proofOk (n : Int) (l p : List (List Int)) : Bool := valid n l && (decide (p.length ≠ 0) && lastNil p) && (p.all (clS n) && follows l p)
theorem unitsOk {n : Int} {known : List (List Int)} {c : List Int} (hn : n <= 14) (hk : known.length <= 1048576) (hg : ∀ d ∈ known, Good n d) (hc : Good n c) : ∃ r, f29 known (negs c) = some r /\ r.2 = (prop known 15 (negs c)).2 := by
 have hz := negs_good hn hc
 have hl := hz.le14 hn
 unfold f29
 rw [app_fits (by simp only [List.length_nil]; omega), List.nil_append, bS]
 obtain ⟨r, e1, e2⟩ := propSpec hn hk (fun d hd => by have := (hg d hd).le14 hn; omega) (fun d hd => (hg d hd).1) 15 (negs c) hz (by omega)
 rw [e1, bS]
 cases r with
 | inl o => simp only at e2; exact ⟨_, rfl, by rw [e2]⟩
 | inr x => simp only at e2; exact ⟨_, rfl, by rw [e2]⟩
theorem propOk {n : Int} {known : List (List Int)} {c : List Int} (hn : n <= 14) (hk : known.length <= 1048576) (hg : ∀ d ∈ known, Good n d) (hc : Good n c) : f24 known (negs c) = some (prop known 15 (negs c)) := by
 have hz := negs_good hn hc
 have hl := hz.le14 hn
 unfold f24
 rw [app_fits (by simp only [List.length_nil]; omega), List.nil_append, bS]
 rw [propImp hn hk (fun d hd => by have := (hg d hd).le14 hn; omega) (fun d hd => (hg d hd).1) 15 (negs c) hz (by omega)]
 rfl
theorem last_ix {p : List (List Int)} (h : p.length ≠ 0) (hb : Big p.length) : ix p (w64 ((p.length : Int) - 1)) = some (p.getD (p.length - 1) []) := by
 rw [w64_of (by omega), show (p.length : Int) - 1 = ((p.length - 1 : Nat) : Int) by omega, ix_nat (by omega), zD, zE (by omega)]; rfl
theorem specProof {n : Int} {l p : List (List Int)} (h : l.length + p.length <= 1048576) (h' : ∀ x ∈ l, x.length <= 1048576) (h'' : ∀ x ∈ p, x.length <= 1048576) : f8 n l p = some (proofOk n l p) := by
  unfold f8 proofOk
  rw [specValid (by omega) (fun x hx => by have := h' x hx; omega), bS]
  by_cases hv : valid n l = true
  · obtain ⟨h0, h1, h2, h3⟩ := valid_lits hv
    rw [if_neg (by simp [hv]), hv]
    by_cases hp : p.length = 0
    · rw [if_pos (by omega)]; simp [hp]
    · rw [if_neg (by omega), last_ix hp (by omega)]
      simp only [bS]
      by_cases hl : lastNil p = true
      · have hl' : (p.getD (p.length - 1) []).length = 0 := of_decide_eq_true hl
        rw [if_neg (by simp only [hl', decide_eq_true_eq]; omega), app_fits (by simp only [List.length_nil]; omega), List.nil_append, bS, hl]
        obtain ⟨r, e1, e2⟩ := iter_up (f := f8_0 n p) p.length (fun i s => s = (l ++ p.take i, (i : Int)) /\ (∀ d ∈ l ++ p.take i, Good n d) /\ ((p.drop i).all (clS n) && follows (l ++ p.take i) (p.drop i)) = (p.all (clS n) && follows l p))
            (fun r => match r with | .inl _ => (p.all (clS n) && follows l p) = true | .inr b => b = (p.all (clS n) && follows l p)) (fun i s hi ⟨hs, hg, hf⟩ => by
          subst hs
          have hb := h'' _ (List.getElem_mem hi)
          simp only [f8_0]
          rw [if_pos (by omega), ix_nat hi, bS, specClause (by omega), bS]
          rw [List.drop_eq_getElem_cons hi, List.all_cons, follows] at hf
          by_cases hc : clS n p[i] = true
          · have hgc := (clS_good h0 h1).1 hc
            have hk : (l ++ p.take i).length <= 1048576 := by simp; omega
            obtain ⟨r, g1, g2⟩ := unitsOk h1 hk hg hgc
            rw [if_neg (by simp [hc]), negSpec hb, bS, g1, bS]
            rw [hc] at hf
            cases hr : (prop (l ++ p.take i) 15 (negs p[i])).2
            · rw [hr] at hf g2
              rw [if_pos (by simp [g2])]
              refine ⟨_, rfl, ?_⟩
              simp only; rw [<- hf]; simp
            · rw [hr] at hf g2
              rw [if_neg (by simp [g2]), app_fits (by simp at hk ⊢; omega), bS, w64_succ (by omega)]
              have et : l ++ p.take i ++ [p[i]] = l ++ p.take (i + 1) := by rw [take_succ' hi, List.append_assoc]
              rw [et] at hf ⊢
              refine ⟨_, rfl, rfl, fun d hd => ?_, ?_⟩
              · rw [<- et, List.mem_append, List.mem_singleton] at hd
                rcases hd with hd | hd
                · exact hg d hd
                · rw [hd]; exact hgc
              · rw [<- hf]; simp
          · simp only [Bool.not_eq_true] at hc
            rw [if_pos (by simp [hc])]
            rw [hc] at hf
            refine ⟨_, rfl, ?_⟩
            simp only; rw [<- hf]; simp) (fun s ⟨hs, hg, hf⟩ => by
          subst hs
          simp only [f8_0]
          rw [if_neg (by omega)]
          refine ⟨_, rfl, ?_⟩
          rw [List.drop_of_length_le (Nat.le_refl _), follows] at hf
          simp only; rw [<- hf]; rfl) (l, 0) ⟨by simp, by simpa using h3, by simp⟩
        rw [e1, bS]
        cases r with
        | inl u => simp only at e2; simp only [e2]; simp [hp]
        | inr b => simp only at e2; simp only [e2]; simp [hp]
      · have hl' : ¬ (p.getD (p.length - 1) []).length = 0 := fun e => hl (decide_eq_true e)
        simp only [Bool.not_eq_true] at hl
        rw [if_pos (by simp only [decide_eq_true_eq]; omega), hl]; simp
  · simp only [Bool.not_eq_true] at hv
    rw [hv]; rfl
theorem implProof {n : Int} {l p : List (List Int)} (h : l.length + p.length <= 1048576) (h' : ∀ x ∈ l, x.length <= 1048576) (h'' : ∀ x ∈ p, x.length <= 1048576) : f6 n l p = some (proofOk n l p) := by
  unfold f6 proofOk
  rw [implValid (by omega) (fun x hx => by have := h' x hx; omega), bS]
  by_cases hv : valid n l = true
  · obtain ⟨h0, h1, h2, h3⟩ := valid_lits hv
    rw [if_neg (by simp [hv]), hv]
    by_cases hp : p.length = 0
    · rw [if_pos (by omega)]; simp [hp]
    · rw [if_neg (by omega)]
      have ea : f22 n p = some (p.all (clS n)) := by
        unfold f22
        rw [implIn, bS, if_pos (by simp [h0, h1])]
        rw [indexII (p := fun c => !clS n c) (show Big p.length by omega) (fun c hc => by
          unfold f40
          rw [implClause (by have := h'' c hc; omega), clS_clI h0 h1]; simp), any_not]
        simp
      rw [ea]
      simp only [bS]
      by_cases hall : p.all (clS n) = true
      · rw [if_neg (by simp [hall]), hall]
        unfold f23
        rw [app_fits (by simp only [List.length_nil]; omega), List.nil_append]
        simp only [bS]
        obtain ⟨r, e1, e2⟩ := iter_up (f := f6_0 p) p.length (fun i s => s = (l ++ p.take i, (i : Int)) /\ (∀ d ∈ l ++ p.take i, Good n d) /\ follows (l ++ p.take i) (p.drop i) = follows l p)
            (fun r => match r with | .inl _ => follows l p = true | .inr b => b = false /\ follows l p = false) (fun i s hi ⟨hs, hg, hf⟩ => by
          subst hs
          have hb := h'' _ (List.getElem_mem hi)
          have hgc := (clS_good h0 h1).1 (List.all_eq_true.1 hall _ (List.getElem_mem hi))
          have hk : (l ++ p.take i).length <= 1048576 := by simp; omega
          simp only [f6_0]
          rw [if_pos (by omega), ix_nat hi, bS, negImp hb, bS, propOk h1 hk hg hgc, bS]
          rw [List.drop_eq_getElem_cons hi, follows] at hf
          cases hr : (prop (l ++ p.take i) 15 (negs p[i])).2
          · rw [hr] at hf
            rw [if_pos (by simp)]
            refine ⟨_, rfl, rfl, ?_⟩
            rw [<- hf]; rfl
          · rw [hr] at hf
            rw [if_neg (by simp), app_fits (by simp at hk ⊢; omega), bS, w64_succ (by omega)]
            have et : l ++ p.take i ++ [p[i]] = l ++ p.take (i + 1) := by rw [take_succ' hi, List.append_assoc]
            rw [et] at hf ⊢
            refine ⟨_, rfl, rfl, fun d hd => ?_, ?_⟩
            · rw [<- et, List.mem_append, List.mem_singleton] at hd
              rcases hd with hd | hd
              · exact hg d hd
              · rw [hd]; exact hgc
            · rw [<- hf]; rfl) (fun s ⟨hs, hg, hf⟩ => by
          subst hs
          simp only [f6_0]
          rw [if_neg (by omega)]
          refine ⟨_, rfl, ?_⟩
          rw [List.drop_of_length_le (Nat.le_refl _), follows] at hf
          exact hf.symm) (l, 0) ⟨by simp, by simpa using h3, by simp⟩
        rw [e1, bS]
        cases r with
        | inl u =>
          simp only at e2
          simp only
          rw [last_ix hp (by omega), bS, e2]
          simp [hp, lastNil]
        | inr b => simp only at e2; simp only [e2.1, e2.2]; simp
      · simp only [Bool.not_eq_true] at hall
        rw [hall, if_pos (by simp)]; simp
  · simp only [Bool.not_eq_true] at hv
    rw [hv]; rfl
end
section
def mdl (n : Nat) (o : List Int) : List Bool := (List.range n).map fun (i : Nat) => o.contains (((i : Nat) : Int) + 1)
theorem mdl_len {n : Nat} {o : List Int} : (mdl n o).length = n := by simp [mdl]
theorem count_eq {n : Nat} {l : List (List Int)} (hn : n <= 14) : count n l = ((List.range (2 ^ n)).countP fun k => sat l (mods n k) : Nat) := by
 have g : ∀ (L : List Nat) (c : Nat), c + L.length <= 1048576 -> L.foldl (fun c k => if sat l (mods n k) = true then w64 (c + 1) else c) (c : Int) = ((c + L.countP fun k => sat l (mods n k) : Nat) : Int) := by
  intro L
  induction L with
  | nil => intro c _; simp
  | cons a L ih =>
   intro c hc
   rw [List.length_cons] at hc
   rw [List.foldl_cons, List.countP_cons]
   by_cases h : sat l (mods n a) = true
   ·rw [if_pos h, if_pos h, w64_succ (by omega), ih (c + 1) (by omega)]; congr 1; omega
   ·rw [if_neg h, if_neg h, ih c (by omega)]; rfl
 have := Nat.pow_le_pow_right (n := 2) (by omega) hn
 unfold count
 have := g (List.range (2 ^ n)) 0 (by simp; omega)
 simpa using this
theorem count_zero {n : Nat} {l : List (List Int)} (hn : n <= 14) (hs : ∀ m : List Bool, m.length = n -> sat l m = false) : count n l = 0 := by
 rw [count_eq hn]
 have : ((List.range (2 ^ n)).countP fun k => sat l (mods n k)) = 0 := by
  rw [List.countP_eq_zero]
  intro k _
  rw [hs _ mods_len]; simp
 omega
theorem sat_snoc {l : List (List Int)} {c : List Int} {m : List Bool} : sat (l ++ [c]) m = (sat l m && sat [c] m) := by unfold sat; rw [List.all_append]
theorem rup_sat {C : List (List Int)} {n : Nat} {m : List Bool} (hn : (n : Int) <= 14) (hC : ∀ c ∈ C, Good n c) (hm : m.length = n) (hs : sat C m = true) : ∀ (T A : List (List Int)), Rup C n (A ++ T) -> sat (C ++ A) m = true -> sat (C ++ A ++ T) m = true
 | [], A, _, h => by rwa [List.append_nil]
 | c :: T, A, hR, h => by
  obtain ⟨hg, hp⟩ := hR A c T rfl
  have hl : ∀ d ∈ C ++ A, Lits n d := fun d hd => by
   rcases List.mem_append.1 hd with hd | hd
   ·exact (hC d hd).1
   ·exact (hR.good d (List.mem_append_left _ hd)).1
  have h1 : sat [c] m = true := by
   cases hc : sat [c] m
   ·exfalso
    have hall : allLit m (negs c) = true := by
     unfold allLit negs
     rw [List.all_map, List.all_eq_true]
     intro v hv
     have h4 := hg.1 v hv
     have h5 : lit m v = false := by
      simp only [sat, List.all_cons, List.all_nil, Bool.and_true] at hc
      rw [List.any_eq_false] at hc
      simpa using hc v hv
     simp only [Function.comp]
     rw [neg_neg hn h4, lit_opp (by omega), h5]; rfl
    have := (prop_true (by omega) hn hl h 15 (negs c) hall).1
    rw [this] at hp; cases hp
   ·rfl
  have := rup_sat hn hC hm hs T (A ++ [c]) (by simpa using hR) (by rw [<- List.append_assoc, sat_snoc, h, h1]; rfl)
  simpa using this
theorem follows_rup {C : List (List Int)} {n : Int} : ∀ (T A : List (List Int)), Rup C n (A ++ T) -> follows (C ++ A) T = true
 | [], A, h => rfl
 | c :: T, A, h => by
  rw [follows, (h A c T rfl).2, Bool.true_and, List.append_assoc]
  exact follows_rup T (A ++ [c]) (by simpa using h)
def sol (C : List (List Int)) (n : Nat) : Option (List Int) × List (List Int) := wlk C n (n + 1) [] []
theorem sol_ok {C : List (List Int)} {n : Nat} (hn : (n : Int) <= 14) (hC : ∀ c ∈ C, Good n c) : Srch C n (n + 1) [] [] (sol C n) :=
 wlk_ok hn hC (n + 1) [] [] ⟨fun _ h => by (cases h), List.Pairwise.nil⟩ (by simp) fun A c B e => by
  have := congrArg List.length e
  simp at this
theorem sol_unsat {C : List (List Int)} {n : Nat} (hv : valid n C = true) (h : (sol C n).1 = none) : ∀ m : List Bool, m.length = n -> sat C m = false := fun m hm => by
 obtain ⟨h0, hn, h2, hC⟩ := valid_lits hv
 have S := sol_ok hn hC
 obtain ⟨T, e⟩ := S.no h
 have e' : (sol C n).2 = T ++ [[]] := e
 cases hs : sat C m
 ·rfl
 ·have := rup_sat hn hC hm hs (sol C n).2 [] S.rup (by simpa using hs)
  rw [e', <- List.append_assoc, sat_snoc] at this
  simp [sat] at this
theorem sol_no {C : List (List Int)} {n : Nat} (hv : valid n C = true) (h : (sol C n).1 = none) : proofOk n C (sol C n).2 = true /\ count n C = 0 /\ (sol C n).2.length <= 32767 := by
 obtain ⟨h0, hn, h2, hC⟩ := valid_lits hv
 have S := sol_ok hn hC
 obtain ⟨T, e⟩ := S.no h
 have R := S.rup
 obtain ⟨T', x, z⟩ := S.ext
 have p2 := Nat.pow_le_pow_right (n := 2) (by omega) (show n + 1 <= 15 by omega)
 have len : (sol C n).2.length = T'.length := by rw [x, List.nil_append]
 have e' : (sol C n).2 = T ++ [[]] := e
 refine ⟨?_, ?_, by omega⟩
 ·unfold proofOk lastNil
  rw [hv]
  simp only [Bool.true_and, Bool.and_eq_true, decide_eq_true_eq]
  refine ⟨⟨by rw [e']; simp, by rw [e']; simp⟩, List.all_eq_true.2 fun c hc => (clS_good h0 hn).2 (R.good c hc), ?_⟩
  have := follows_rup (C := C) (sol C n).2 [] R
  rwa [List.append_nil] at this
 ·exact count_zero (by omega) (sol_unsat hv h)
end
section
theorem cnfOk2 {c : L1Cur} (h : Cur c) : Ens (f16 c) fun r => 1 <= r.1 /\ r.1 <= 5 /\ r.2.1.length <= 10 /\ (∀ x ∈ r.2.1, x.length <= 4 /\ In64 x) /\ Cur r.2.2 := by
 unfold f16
 refine Ens.bind (belowOk h) fun o1 ⟨n0, _, n1, hc1⟩ => ?_
 have n2 := n1 (by omega)
 refine Ens.bind (belowOk hc1) fun o3 ⟨m0, _, m1, hc3⟩ => ?_
 have m2 := m1 (by omega)
 have en : w64 (1 + o1.1) = 1 + o1.1 := w64_of (by omega)
 refine Ens.bind (Q := fun s => Cur ⟨s.1, s.2.1, s.2.2.1⟩ /\ s.2.2.2.length <= 10 /\ ∀ x ∈ s.2.2.2, x.length <= 3 /\ In64 x) ?_ fun ⟨b, i, hh, l⟩ ⟨g1, g2, g3⟩ => ?_
 ·refine iter_up (f := f16_0 o1) o3.1.toNat (fun k s => Cur ⟨s.1, s.2.1, s.2.2.1⟩ /\ s.2.2.2.1.length <= k /\ (∀ x ∈ s.2.2.2.1, x.length <= 3 /\ In64 x) /\ s.2.2.2.2 = o3.1 - (k : Int)) (fun s => Cur ⟨s.1, s.2.1, s.2.2.1⟩ /\ s.2.2.2.length <= 10 /\ ∀ x ∈ s.2.2.2, x.length <= 3 /\ In64 x) (fun k ⟨b, i, hh, l, q⟩ hk ⟨s1, s2, s3, s4⟩ => ?_) (fun ⟨b, i, hh, l, q⟩ ⟨s1, s2, s3, s4⟩ => ?_) _ ⟨hc3, by simp, by simp, by simp⟩
  ·simp only at s1 s2 s3 s4
   simp only [f16_0]
   rw [if_pos (by omega)]
   have : Ens (iter (f16_1 o1) (b, i, hh, [], 1)) fun s => Cur ⟨s.1, s.2.1, s.2.2.1⟩ /\ (s.2.2.2.length <= 3 /\ In64 s.2.2.2) := by
    refine iter_up (f := f16_1 o1) (o1.1 + 1).toNat (fun v s => Cur ⟨s.1, s.2.1, s.2.2.1⟩ /\ (s.2.2.2.1.length <= 3 /\ In64 s.2.2.2.1) /\ s.2.2.2.2 = 1 + (v : Int)) (fun s => Cur ⟨s.1, s.2.1, s.2.2.1⟩ /\ (s.2.2.2.length <= 3 /\ In64 s.2.2.2)) (fun v ⟨b, i, hh, x, w⟩ hv ⟨t1, t2, t3⟩ => ?_) (fun ⟨b, i, hh, x, w⟩ ⟨t1, t2, t3⟩ => ?_) _ ⟨s1, ⟨by simp, fun v hv => by cases hv⟩, by simp⟩
    ·simp only at t1 t2 t3
     simp only [f16_1]
     rw [en, if_pos (by omega)]
     refine Ens.bind (onceOk t1) fun o17 h17 => ?_
     refine Ens.bind (Q := fun z => z = true -> x.length < 3) (Ens.ite (fun _ => Ens.of fun hz => by simp at hz; omega) fun _ => Ens.of fun hz => by cases hz) fun z hz => ?_
     refine Ens.bind (Q := fun s => Cur ⟨s.1, s.2.1, s.2.2.1⟩ /\ (s.2.2.2.length <= 3 /\ In64 s.2.2.2)) (Ens.ite (fun hc => ?_) fun _ => Ens.of ⟨h17, t2⟩) fun ⟨b', i', hh', x'⟩ ⟨u1, u2⟩ => ?_
     ·refine Ens.bind (belowOk h17) fun o25 h25 => ?_
      have := hz hc
      rw [app_fits (by simp only [List.length_singleton]; omega), bS]
      exact Ens.of ⟨h25.2.2.2, ⟨by simp; omega, t2.2.snoc w64_range⟩⟩
     ·exact Ens.of ⟨u1, u2, by dsimp only; rw [t3, w64_of (by omega)]; omega⟩
    ·simp only at t1 t2 t3
     simp only [f16_1]
     rw [en, if_neg (by omega)]
     exact ⟨_, rfl, t1, t2⟩
   refine Ens.bind this fun ⟨b', i', hh', x⟩ ⟨u1, u2⟩ => ?_
   dsimp only
   rw [app_fits (by simp only [List.length_singleton]; omega), bS]
   refine Ens.of ⟨u1, by simp; omega, fun y hy => ?_, by dsimp only; rw [s4, w64_of (by omega)]; omega⟩
   dsimp only at hy
   rw [List.mem_append, List.mem_singleton] at hy
   rcases hy with hy | hy
   ·exact s3 y hy
   ·rw [hy]; exact u2
  ·simp only at s1 s2 s3 s4
   simp only [f16_0]
   rw [if_neg (by omega)]
   exact ⟨_, rfl, s1, by dsimp only; omega, s3⟩
 ·dsimp only
  simp only at g1 g2 g3
  refine Ens.bind (Q := fun s => Cur ⟨s.1, s.2.1, s.2.2.1⟩ /\ (s.2.2.2 = true -> 0 < l.length)) (Ens.ite (fun hl => Ens.bind (onceOk g1) fun o53 h53 => Ens.of ⟨h53, fun _ => by omega⟩) fun _ => Ens.of ⟨g1, fun h => by cases h⟩) fun ⟨b', i', hh', z⟩ ⟨u1, u2⟩ => ?_
  dsimp only
  refine Ens.bind (Q := fun s => Cur ⟨s.1, s.2.1, s.2.2.1⟩ /\ s.2.2.2.length <= 10 /\ ∀ x ∈ s.2.2.2, x.length <= 4 /\ In64 x) (Ens.ite (fun hz => ?_) fun _ => Ens.of ⟨u1, g2, fun x hx => ⟨by have := g3 x hx; omega, (g3 x hx).2⟩⟩) fun ⟨b'', i'', hh'', l'⟩ ⟨w1, w2, w3⟩ => ?_
  ·have hl := u2 hz
   rw [show ix l (0 : Int) = ix l ((0 : Nat) : Int) from rfl, ix_nat hl, bS]
   refine Ens.bind (pickOk u1 (by simp)) fun o60 h60 => ?_
   have := g3 _ (List.getElem_mem hl)
   rw [app_fits (by simp only [List.length_singleton]; omega), bS]
   refine Ens.of ⟨h60.2, by simp; omega, fun x hx => ?_⟩
   rcases List.mem_or_eq_of_mem_set hx with hx | hx
   ·exact ⟨by have := g3 x hx; omega, (g3 x hx).2⟩
   ·rw [hx]
    refine ⟨by simp; omega, this.2.snoc ?_⟩
    have := h60.1
    simp at this; omega
  ·exact Ens.of ⟨by rw [en]; dsimp only; omega, by rw [en]; dsimp only; omega, w2, w3, w1⟩
theorem follows_sat {n : Int} {m : List Bool} (hm : (m.length : Int) = n) (hn : n <= 14) : ∀ (T known : List (List Int)), follows known T = true -> (∀ c ∈ T, Good n c) -> (∀ d ∈ known, Good n d) -> sat known m = true -> sat (known ++ T) m = true
 | [], known, _, _, _, h => by rwa [List.append_nil]
 | c :: T, known, hf, hT, hk, h => by
  rw [follows, Bool.and_eq_true] at hf
  have hg := hT c (by simp)
  have h1 : sat [c] m = true := by
   cases hc : sat [c] m
   ·exfalso
    have hall : allLit m (negs c) = true := by
     unfold allLit negs
     rw [List.all_map, List.all_eq_true]
     intro v hv
     have h4 := hg.1 v hv
     have h5 : lit m v = false := by
      simp only [sat, List.all_cons, List.all_nil, Bool.and_true] at hc
      rw [List.any_eq_false] at hc
      simpa using hc v hv
     simp only [Function.comp]
     rw [neg_neg hn h4, lit_opp (by omega), h5]; rfl
    have := (prop_true hm hn (fun d hd => (hk d hd).1) h 15 (negs c) hall).1
    rw [this] at hf; cases hf.1
   ·rfl
  have := follows_sat hm hn T (known ++ [c]) hf.2 (fun d hd => hT d (by simp [hd])) (fun d hd => by
   rcases List.mem_append.1 hd with hd | hd
   ·exact hk d hd
   ·rw [List.mem_singleton] at hd; rw [hd]; exact hg) (by rw [sat_snoc, h, h1]; rfl)
  simpa using this
theorem proof_none {n : Int} {l p : List (List Int)} (h : proofOk n l p = true) : count n.toNat l = 0 /\ valid n l = true := by
 unfold proofOk at h
 simp only [Bool.and_eq_true, decide_eq_true_eq] at h
 obtain ⟨⟨hv, hp, hl⟩, hall, hf⟩ := h
 obtain ⟨h0, hn, _, hC⟩ := valid_lits hv
 refine ⟨count_zero (by omega) fun m hm => ?_, hv⟩
 cases hs : sat l m
 ·rfl
 ·have h1 := follows_sat (n := n) (m := m) (by omega) hn p l hf (fun c hc => (clS_good h0 hn).1 (List.all_eq_true.1 hall c hc)) hC hs
  have hlast : (p.getD (p.length - 1) []).length = 0 := of_decide_eq_true hl
  have hne : p.getD (p.length - 1) [] = [] := List.length_eq_zero_iff.1 hlast
  have hmem : ([] : List Int) ∈ l ++ p := by
   refine List.mem_append_right _ ?_
   rw [<- hne, zD, zE (by omega)]
   exact List.getElem_mem _
  have := List.all_eq_true.1 h1 [] hmem
  simp at this
end
section
theorem unitsS {n : Int} {known : List (List Int)} {s : List Int} (hn : n <= 14) (hk : known.length <= 1048576) (hg : ∀ d ∈ known, Good n d) (hs : Good n s) : f29 known s = some (prop known 15 s) := by
 have hl := hs.le14 hn
 unfold f29
 rw [app_fits (by simp only [List.length_nil]; omega), List.nil_append, bS]
 obtain ⟨r, e1, e2⟩ := propSpec hn hk (fun d hd => by have := (hg d hd).le14 hn; omega) (fun d hd => (hg d hd).1) 15 s hs (by omega)
 rw [e1, bS]
 cases r with
 | inl o => simp only at e2; rw [e2]
 | inr x => simp only at e2; rw [e2]
theorem negN {i : Nat} (h : i <= 14) : w64 (-((i : Int) + 1)) = -((i : Int) + 1) := w64_of (by omega)
theorem up_open {ρ : Type} {n : Nat} {o : List Int} {f : Int -> Option (Int ⊕ (Unit ⊕ ρ))} {R : ρ -> Prop} (hn : n <= 14) (he : f ((n : Int) + 1) = some (.inr (.inl ())))
  (hs : ∀ i, i < n -> shut o i = true -> f ((i : Int) + 1) = some (.inl ((i : Int) + 2))) (ho : ∀ i, i < n -> shut o i = false -> openV n o = some i -> Ens (f ((i : Int) + 1)) fun z => ∃ r, z = .inr (.inr r) /\ R r) :
  Ens (iter f 1) fun z => match openV n o with | none => z = .inl () | some _ => ∃ r, z = .inr r /\ R r := by
 refine iter_up (f := f) n (fun i s => s = (i : Int) + 1 /\ ∀ j, j < i -> shut o j = true) _ (fun i s hi ⟨s1, s2⟩ => ?_) (fun s ⟨s1, s2⟩ => ?_) _ ⟨rfl, fun j hj => by omega⟩
 ·subst s1
  cases h : shut o i
  ·have hv : openV n o = some i := by
    unfold openV
    rw [List.find?_eq_some_iff_getElem]
    refine ⟨by simp [h], i, by simpa using hi, by simp, fun j hj => ?_⟩
    simp [s2 j hj]
   obtain ⟨z, e, r, rfl, hr⟩ := ho i hi h hv
   exact ⟨_, e, by rw [hv]; exact ⟨r, rfl, hr⟩⟩
  ·refine ⟨_, hs i hi h, by omega, fun j hj => ?_⟩
   by_cases e : j = i
   ·subst e; exact h
   ·exact s2 j (by omega)
 ·subst s1
  refine ⟨_, he, ?_⟩
  have : openV n o = none := by
   unfold openV
   rw [List.find?_eq_none]
   intro k hk
   rw [List.mem_range] at hk
   simp [s2 k hk]
  rw [this]
section
variable {C : List (List Int)} {n : Nat}
theorem learnSpec {L P : List (List Int)} {M : List Bool} {s : List Int} (hL : L.length <= 1000000) (hP : P.length <= 1000000) (hs : s.length <= 14) : f55 ⟨n, L, P, M⟩ s = some ⟨n, L ++ [negs s], P ++ [negs s], M⟩ := by
 unfold f55
 rw [negSpec (by omega), bS, app_fits (by simp; omega), bS, app_fits (by simp; omega)]; rfl
theorem rup_all (hC : ∀ c ∈ C, Good n c) {L : List (List Int)} (hL : Rup C n L) : ∀ d ∈ C ++ L, Good n d := fun d hd => by
 rcases List.mem_append.1 hd with hd | hd
 ·exact hC d hd
 ·exact hL.good d hd
theorem modelSpec {l p : List (List Int)} {o : List Int} (hn : n <= 14) (ho : o.length <= 14) {b : Bool} : iter (f36_1 (o, b)) ((n : Int), l, p, [], 1) = some ((n : Int), l, p, mdl n o) := by
 have := iter_steps (f := f36_1 (o, b)) (fun i => ((n : Int), l, p, mdl i o, (i : Int) + 1)) n ((n : Int), l, p, mdl n o) (fun i hi => by
  have e : mdl (i + 1) o = mdl i o ++ [o.contains ((i : Int) + 1)] := by
   unfold mdl
   rw [List.range_succ, List.map_append]; rfl
  have hl := mdl_len (n := i) (o := o)
  simp only [f36_1]
  rw [if_pos (by omega), hasI (by omega), bS, app_fits (by simp; omega), bS, w64_of (by omega), e]
  rw [show ((i + 1 : Nat) : Int) + 1 = (i : Int) + 1 + 1 by omega]) (by
  simp only [f36_1]
  rw [if_neg (by omega)])
 exact this
theorem walkSpec (hn : n <= 14) (hC : ∀ c ∈ C, Good n c) (hc : C.length <= 400) : ∀ (k K : Nat) (L : List (List Int)) (s : List Int), k <= K -> Good n s -> n < k + s.length -> Rup C n L -> L.length + 2 ^ k <= 900000 -> f36 K ⟨n, C ++ L, L, []⟩ s = some (match wlk C n k L s with
   | (some m, L1) => (true, ⟨n, C ++ L1, L1, mdl n m⟩)
   | (none, L1) => (false, ⟨n, C ++ L1, L1, []⟩))
 | 0, K, L, s, hK, hs, hk, hL, hz => by
  rcases hs.len with h | h
  ·omega
  ·subst h; simp at hk
 | k + 1, 0, L, s, hK, hs, hk, hL, hz => by omega
 | k + 1, K + 1, L, s, hK, hs, hk, hL, hz => by
  have hn' : (n : Int) <= 14 := by omega
  have hz1 := hs.le14 hn'
  rw [Nat.pow_succ] at hz
  have hall := rup_all hC hL
  have hl : ∀ c ∈ C ++ L, Lits n c := fun c hc => (hall c hc).1
  rw [f36, wlk]
  dsimp only
  rw [unitsS hn' (by simp; omega) hall hs, bS]
  by_cases hp : (prop (C ++ L) 15 s).2 = true
  ·rw [if_pos hp, if_pos hp, learnSpec (by simp; omega) (by omega) (by omega), bS]
   simp
  rw [if_neg hp, if_neg hp]
  have hg := prop_good hn' hl 15 s hs
  have hg14 := hg.le14 hn'
  have hkeep := prop_keeps (l := C ++ L) 15 s
  have two : ∀ v : Nat, openV n (prop (C ++ L) 15 s).1 = some v -> Good n (s ++ [(v : Int) + 1]) /\ Good n (s ++ [-((v : Int) + 1)]) := fun v hv => by
   obtain ⟨v1, v2, v3⟩ := openV_some hv
   have w2 : (v : Int) + 1 ∉ s := fun h => v2 (hkeep _ h)
   have w3 : -((v : Int) + 1) ∉ s := fun h => v3 (hkeep _ h)
   exact ⟨hs.more (w := (v : Int) + 1) (by omega) w2 w3, hs.more (w := -((v : Int) + 1)) (by omega) w3 (by rw [Int.neg_neg]; exact w2)⟩
  obtain ⟨z, ez, hz'⟩ := up_open (n := n) (o := (prop (C ++ L) 15 s).1) (f := f36_0 ⟨n, C ++ L, L, []⟩ s (f36 K) (prop (C ++ L) 15 s))
   (R := fun r => ∀ v, openV n (prop (C ++ L) 15 s).1 = some v -> r = (match wlk C n k L (s ++ [(v : Int) + 1]) with
    | (some m, L1) => ((n : Int), C ++ L1, L1, mdl n m, true)
    | (none, L1) => match wlk C n k L1 (s ++ [-((v : Int) + 1)]) with
     | (some m, L2) => ((n : Int), C ++ L2, L2, mdl n m, true)
     | (none, L2) => ((n : Int), C ++ (L2 ++ [negs s]), L2 ++ [negs s], [], false) : Int × List (List Int) × List (List Int) × List Bool × Bool)) hn (by
   simp only [f36_0]
   rw [if_neg (by omega)]) (fun i hi h => by
   simp only [f36_0]
   rw [if_pos (by omega), hasI (by omega), bS, negN (by omega), hasI (by omega), w64_of (by omega)]
   unfold shut at h
   cases hh : (prop (C ++ L) 15 s).1.contains ((i : Int) + 1)
   ·rw [hh, Bool.false_or] at h
    rw [h]; simp; omega
   ·simp; omega) (fun i hi h hv => by
   obtain ⟨g1, g2⟩ := two i hv
   have z1 := g1.le14 hn'
   rw [List.length_append, List.length_singleton] at z1
   simp only [f36_0]
   rw [if_pos (by omega), hasI (by omega), bS, negN (by omega), hasI (by omega)]
   unfold shut at h
   rw [Bool.or_eq_false_iff] at h
   rw [h.1, h.2, if_neg (by simp), bS, bS, if_neg (by simp), app_fits (by simp; omega), bS, List.nil_append, app_fits (by simp; omega), bS, walkSpec hn hC hc k K L _ (by omega) g1 (by simp; omega) hL (by omega), bS]
   have k1 := wlk_ok hn' hC k L _ g1 (by simp; omega) hL
   cases e1 : wlk C n k L (s ++ [(i : Int) + 1]) with
   | mk o1 L1 =>
   rw [e1] at k1
   obtain ⟨r1, ⟨T1, x1, y1⟩, _, _⟩ := k1
   simp only at r1 x1
   have l1 := congrArg List.length x1
   rw [List.length_append] at l1
   cases o1 with
   | some m => exact ⟨_, rfl, _, rfl, fun v hv' => by rw [hv, zJ] at hv'; subst hv'; rw [e1]⟩
   | none =>
    dsimp only
    have k2 := wlk_ok hn' hC k L1 _ g2 (by simp; omega) r1
    rw [if_neg (by simp), app_fits (by simp; omega), bS, walkSpec hn hC hc k K L1 _ (by omega) g2 (by simp; omega) r1 (by omega), bS]
    cases e2 : wlk C n k L1 (s ++ [-((i : Int) + 1)]) with
    | mk o2 L2 =>
    rw [e2] at k2
    obtain ⟨r2, ⟨T2, x2, y2⟩, _, _⟩ := k2
    simp only at r2 x2
    have l2 := congrArg List.length x2
    rw [List.length_append] at l2
    cases o2 with
    | some m => exact ⟨_, rfl, _, rfl, fun v hv' => by rw [hv, zJ] at hv'; subst hv'; rw [e1]; simp only [e2]⟩
    | none =>
     simp only [bS]
     rw [if_neg (by simp), learnSpec (by simp; omega) (by omega) (by omega), bS]
     exact ⟨_, rfl, _, rfl, fun v hv' => by rw [hv, zJ] at hv'; subst hv'; rw [e1]; simp only [e2, List.append_assoc]⟩)
  rw [ez, bS]
  cases hv : openV n (prop (C ++ L) 15 s).1 with
  | none =>
   rw [hv] at hz'; subst hz'
   dsimp only
   have := modelSpec (l := C ++ L) (p := L) (b := (prop (C ++ L) 15 s).2) hn hg14
   rw [this]; rfl
  | some v =>
   rw [hv] at hz'
   obtain ⟨r, rfl, hr⟩ := hz'
   have := hr v rfl
   dsimp only
   rw [this]
   cases e1 : wlk C n k L (s ++ [(v : Int) + 1]) with
   | mk o1 L1 =>
   cases o1 with
   | some m => rfl
   | none =>
    dsimp only
    cases e2 : wlk C n k L1 (s ++ [-((v : Int) + 1)]) with
    | mk o2 L2 =>
    cases o2 with
    | some m => rfl
    | none => rfl
def slv (n : Int) (C : List (List Int)) : List Bool × List (List Int) × Bool :=
 if valid n C = true then match sol C n.toNat with
  | (some m, _) => (mdl n.toNat m, [], true)
  | (none, L) => ([], L, false)
 else ([], [], false)
theorem solveSpec {m : Int} (h : C.length <= 1048576) (h' : ∀ x ∈ C, x.length <= 1048576) : f17 m C = some (slv m C) := by
 unfold f17 slv
 rw [specValid (by omega) (fun x hx => by have := h' x hx; omega), bS]
 by_cases hv : valid m C = true
 ·obtain ⟨h0, h1, h2, hC⟩ := valid_lits hv
  obtain ⟨n, rfl⟩ : ∃ n : Nat, m = n := ⟨m.toNat, by omega⟩
  have p2 := Nat.pow_le_pow_right (n := 2) (by omega) (show n + 1 <= 15 by omega)
  rw [if_neg (by simp [hv]), if_pos hv, app_fits (by simp; omega), bS]
  have := walkSpec (by omega) hC (by omega) (n + 1) 64 [] [] (by omega) ⟨fun _ h => by (cases h), List.Pairwise.nil⟩ (by simp) (fun A c B e => by
   have := congrArg List.length e
   simp at this) (by simp; omega)
  rw [List.append_nil] at this
  rw [List.nil_append, this, bS, Int.toNat_natCast]
  unfold sol
  cases e : wlk C n (n + 1) [] [] with
  | mk o L => cases o <;> simp
 ·rw [if_pos (by simpa using hv), if_neg hv]
end
end
section
theorem slv_fits {n : Int} {C : List (List Int)} : (slv n C).1.length <= 14 /\ (slv n C).2.1.length <= 32767 /\ ∀ x ∈ (slv n C).2.1, x.length <= 14 := by
 unfold slv
 by_cases hv : valid n C = true
 ·obtain ⟨h0, h1, h2, hC⟩ := valid_lits hv
  obtain ⟨n, rfl⟩ : ∃ k : Nat, n = k := ⟨n.toNat, by omega⟩
  rw [if_pos hv, Int.toNat_natCast]
  have S := sol_ok h1 hC
  have e := fun h => sol_no (C := C) (n := n) hv h
  cases hs : sol C n with
  | mk o L =>
  rw [hs] at S e
  cases o with
  | some m => refine ⟨by dsimp only; rw [mdl_len]; omega, by simp, by simp⟩
  | none => exact ⟨by simp, (e rfl).2.2, fun x hx => (S.rup.good x hx).le14 h1⟩
 ·rw [if_neg hv]; simp
end
section
def dgs (n : Int) : List UInt8 := if n = 0 then [] else Lib.decDigits n.natAbs
theorem dgs_step {n : Int} (h : n ≠ 0) : dgs n = dgs (n.tdiv 10) ++ [UInt8.ofNat (48 + n.natAbs % 10)] := by
 unfold dgs
 have e : (n.tdiv 10).natAbs = n.natAbs / 10 := by rw [Int.natAbs_tdiv]; rfl
 rw [if_neg h, Lib.decDigits]
 by_cases c : n.natAbs < 10
 ·have e0 : n.tdiv 10 = 0 := Int.natAbs_eq_zero.1 (by rw [e]; omega)
  rw [dif_pos c, if_pos e0, List.nil_append, Nat.mod_eq_of_lt c]
 ·have e0 : ¬ n.tdiv 10 = 0 := fun h0 => by rw [h0] at e; simp at e; omega
  rw [dif_neg c, if_neg e0, e]
theorem fmt_loop : ∀ (m : Nat) (n : Int) (out : List UInt8), (-9223372036854775808 <= n /\ n <= 9223372036854775807) -> n.natAbs < 10 ^ m -> out.length + m <= 100 -> iter f33_0 (n, out) = some (dgs n ++ out) := by
 intro m
 induction m with
 | zero =>
  intro n out _ hn _
  have : n = 0 := by simp at hn; omega
  subst this
  rw [iter_eq]
  simp [f33_0, dgs]
 | succ m ih =>
  intro n out hm hn ho
  by_cases h : n = 0
  ·subst h
   rw [iter_eq]
   simp [f33_0, dgs]
  ·rw [iter_eq]
   simp only [f33_0]
   rw [if_pos h]
   have e1 : (n.tmod 10).natAbs = n.natAbs % 10 := by rw [Int.natAbs_tmod]; rfl
   have e2 : (n.tdiv 10).natAbs = n.natAbs / 10 := by rw [Int.natAbs_tdiv]; rfl
   have hd : (if n.tmod 10 < 0 then some (w64 (-(n.tmod 10))) else some (n.tmod 10) : Option Int) = some ((n.natAbs % 10 : Nat) : Int) := by
    split
    ·rw [w64_of (by omega)]; congr 1; omega
    ·congr 1; omega
   have hlt : n.natAbs % 10 < 10 := Nat.mod_lt _ (by decide)
   have hb : ∀ d : Nat, d < 10 -> UInt8.ofNat (w8 (w64 (48 + (d : Int)))).toNat = UInt8.ofNat (48 + d) := by
    intro d hd
    rw [w64_of (by omega)]
    have : d = 0 \/ d = 1 \/ d = 2 \/ d = 3 \/ d = 4 \/ d = 5 \/ d = 6 \/ d = 7 \/ d = 8 \/ d = 9 := by omega
    rcases this with rfl | rfl | rfl | rfl | rfl | rfl | rfl | rfl | rfl | rfl <;> rfl
   rw [hd, bS, hb _ hlt, cat_ok (by simp; omega), bS]
   rw [w64_of (by omega)]
   dsimp only
   rw [ih _ _ (by omega) (by rw [e2]; rw [Nat.pow_succ] at hn; omega) (by simp; omega), dgs_step h, List.append_assoc]
theorem fmtI {n : Int} (h0 : -9223372036854775808 <= n) (h1 : n <= 9223372036854775807) : f33 n = some (Lib.itoa n) := by
 unfold f33 Lib.itoa
 by_cases h : n = 0
 ·subst h
  rw [if_pos rfl, if_neg (by decide), Lib.decDigits]; rfl
 ·have hl : (dgs n).length <= 40 := by
   unfold dgs
   rw [if_neg h, Lib.decDigits_length]
   have := Lib.nDigits_le20 n.natAbs (by omega)
   omega
  rw [if_neg h, fmt_loop 20 n [] ⟨h0, h1⟩ (by omega) (by simp), bS, List.append_nil]
  by_cases c : n < 0
  ·rw [if_pos c, if_pos c, cat_ok (by simp; omega), bS]
   unfold dgs
   rw [if_neg h]; rfl
  ·rw [if_neg c, if_neg c]
   unfold dgs
   rw [if_neg h, show n.natAbs = n.toNat by omega]
theorem itoI {n : Int} (h0 : -9223372036854775808 <= n) (h1 : n <= 9223372036854775807) : f32 n = some (Lib.itoa n) := by
 unfold f32 f51 itoaN
 rw [if_pos ⟨h0, h1⟩]; rfl
theorem join_snoc (L : List (List UInt8)) (x sep : List UInt8) : Lib.join (L ++ [x]) sep = if L = [] then x else Lib.join L sep ++ sep ++ x := by
 cases L with
 | nil => rw [if_pos rfl, List.nil_append, Lib.join_one]
 | cons a r =>
  rw [if_neg (by simp), List.cons_append, Lib.join_cons, Lib.join_cons]
  simp [Lib.joinTail]
theorem flatK {K : Nat} : ∀ {L : List (List UInt8)}, (∀ x ∈ L, x.length <= K) -> L.flatten.length <= K * L.length
 | [], _ => by simp
 | x :: L, h => by
  have h1 := h x (by simp)
  have h2 := flatK (L := L) fun y hy => h y (by simp [hy])
  simp only [List.flatten_cons, List.length_append, List.length_cons, Nat.mul_succ]
  omega
theorem join_len {K : Nat} {sep : List UInt8} {L : List (List UInt8)} (h : ∀ x ∈ L, x.length <= K) : (Lib.join L sep).length <= (K + sep.length) * L.length := by
 cases L with
 | nil => simp [Lib.join_nil]
 | cons a r =>
  have h1 := h a (by simp)
  have h2 : (Lib.joinTail sep r).length <= (K + sep.length) * r.length := by
   unfold Lib.joinTail
   have := flatK (K := K + sep.length) (L := r.map (sep ++ ·)) (fun x hx => by
    obtain ⟨y, hy, rfl⟩ := List.mem_map.1 hx
    have := h y (by simp [hy])
    simp; omega)
   simpa using this
  rw [Lib.join_cons, List.length_append, List.length_cons, Nat.mul_succ]
  omega
theorem joinI {xs : List (List UInt8)} {sep : List UInt8} (h1 : xs.length <= 140737488355328) (h2 : (Lib.join xs sep).length <= 140737488355328) : f34 xs sep = some (Lib.join xs sep) := by
 unfold f34 joinN
 rw [if_pos ⟨h1, h2⟩]
end
section
theorem iter_wordsP {f : List UInt8 × Int -> Option ((List UInt8 × Int) ⊕ List UInt8)} (p : List UInt8) (L : List (List UInt8)) (K : Nat) (hK : ∀ x ∈ L, x.length <= K)
  (hs : ∀ (i : Nat) (h : i < L.length) (s : List UInt8), s.length <= p.length + (K + 1) * i -> f (s, (i : Int)) = some (.inl ((if i = 0 then s else s ++ [32]) ++ L[i], ((i + 1 : Nat) : Int)))) (he : ∀ s, f (s, (L.length : Int)) = some (.inr s)) :
  iter f (p, 0) = some (p ++ Lib.join L [32]) := by
 have := iter_steps (f := f) (fun i => (p ++ Lib.join (L.take i) [32], (i : Int))) L.length (p ++ Lib.join L [32]) (fun i hi => by
  have hj := join_len (sep := [32]) (L := L.take i) fun x hx => hK x (List.mem_of_mem_take hx)
  rw [List.length_take, show min i L.length = i by omega, List.length_singleton] at hj
  rw [hs i hi _ (by rw [List.length_append]; omega), take_succ' hi, join_snoc]
  congr 3
  by_cases c : i = 0
  ·subst c; simp [Lib.join_nil]
  ·rw [if_neg c, if_neg (fun e => by
    have := congrArg List.length e
    rw [List.length_take, List.length_nil] at this; omega)]
   simp) (by
  rw [he, List.take_of_length_le (Nat.le_refl _)])
 simpa [Lib.join_nil] using this
def cTxt (c : List Int) : List UInt8 := [40] ++ Lib.join (c.map Lib.itoa) [32] ++ [41]
theorem itoas_len {c : List Int} (ho : ∀ v ∈ c, ok v) : ∀ x ∈ c.map Lib.itoa, x.length <= 21 := by
 intro x hx
 obtain ⟨v, hv, rfl⟩ := List.mem_map.1 hx
 exact Lib.itoa_length_le v (ho v hv).1 (ho v hv).2
theorem cTxt_len {c : List Int} (ho : ∀ v ∈ c, ok v) (hl : c.length <= 1048576) : (cTxt c).length <= 23068674 := by
 unfold cTxt
 have := join_len (sep := [32]) (itoas_len ho)
 rw [List.length_map, List.length_singleton] at this
 simp only [List.length_append, List.length_singleton]; omega
theorem specCl {c : List Int} (ho : ∀ v ∈ c, ok v) (hl : c.length <= 1048576) : f14 c = some (cTxt c) := by
 unfold f14 cTxt
 have hj := join_len (sep := [32]) (itoas_len ho)
 rw [List.length_map, List.length_singleton] at hj
 rw [iter_wordsP [40] (c.map Lib.itoa) 21 (itoas_len ho) (fun i hi s hs => by
  rw [List.length_map] at hi
  have hv := ho _ (List.getElem_mem hi)
  have hk := Lib.itoa_length_le c[i] hv.1 hv.2
  rw [List.length_singleton] at hs
  simp only [f14_0]
  have e : (if (i : Int) > 0 then (cat s [32]).bind fun s_17 => some s_17 else some s : Option (List UInt8)) = some (if i = 0 then s else s ++ [32]) := by
   by_cases c : i = 0
   ·rw [if_neg (by omega), if_pos c]
   ·rw [if_pos (by omega), if_neg c, cat_ok (by simp; omega)]; rfl
  have e2 : (if i = 0 then s else s ++ [32]).length <= s.length + 1 := by split <;> simp
  rw [List.getElem_map, if_pos (by omega), e, bS, ix_nat hi, bS, fmtI hv.1 hv.2, bS, cat_ok (by omega), bS, w64_succ (by omega)]) (fun s => by
  simp only [f14_0]
  rw [List.length_map, if_neg (by omega)]), bS, cat_ok (by simp only [List.length_append, List.length_singleton]; omega), bS]
theorem impCl {c : List Int} (ho : ∀ v ∈ c, ok v) (hl : c.length <= 1048576) : f12 c = some (cTxt c) := by
 unfold f12 cTxt
 have hj := join_len (sep := [32]) (itoas_len ho)
 rw [List.length_map, List.length_singleton] at hj
 have it := iter_steps (f := f12_0 c) (fun i => ((c.take i).map Lib.itoa, (i : Int))) c.length (c.map Lib.itoa) (fun i hi => by
  have hv := ho _ (List.getElem_mem hi)
  simp only [f12_0]
  rw [if_pos (by omega), ix_nat hi, bS, itoI hv.1 hv.2, bS, app_fits (by simp; omega), bS, w64_succ (by omega), take_succ' hi, List.map_append, List.map_singleton]) (by
  simp only [f12_0]
  rw [if_neg (by omega), List.take_of_length_le (Nat.le_refl _)])
 simp only [List.take_zero, List.map_nil, Int.natCast_zero, Int.ofNat_zero] at it
 rw [it, bS, joinI (by rw [List.length_map]; omega) (by omega), bS, cat_ok (by rw [List.length_singleton]; omega), bS, cat_ok (by simp only [List.length_append, List.length_singleton]; omega), bS]
def clsTxt (n : Int) (l : List (List Int)) : List UInt8 := if valid n l = true then Lib.itoa n ++ [58] ++ (l.map cTxt).flatten else []
theorem valid_few {n : Int} {l : List (List Int)} (h : valid n l = true) : l.length <= 400 /\ 0 <= n /\ n <= 14 := by
 unfold valid at h
 simp only [Bool.and_eq_true, decide_eq_true_eq] at h
 omega
theorem specCls {n : Int} {l : List (List Int)} (hl : l.length <= 1048576) (hx : ∀ x ∈ l, x.length <= 1048576) (ho : ∀ x ∈ l, ∀ v ∈ x, ok v) : f11 n l = some (clsTxt n l) := by
 unfold f11 clsTxt
 rw [specValid (n := n) (show Big l.length by omega) (fun x h => by have := hx x h; omega), bS]
 cases hv : valid n l
 ·simp
 ·obtain ⟨h4, n0, n1⟩ := valid_few hv
  have hn := Lib.itoa_length_le n (by omega) (by omega)
  have hK : ∀ x ∈ l.map cTxt, x.length <= 23068674 := fun x h => by
   obtain ⟨c, hc, rfl⟩ := List.mem_map.1 h
   exact cTxt_len (ho c hc) (hx c hc)
  rw [if_neg (by simp), fmtI (by omega) (by omega), bS, cat_ok (by rw [List.length_singleton]; omega), bS]
  have it := iter_steps (f := f11_0 l) (fun i => (Lib.itoa n ++ [58] ++ ((l.take i).map cTxt).flatten, (i : Int))) l.length (Lib.itoa n ++ [58] ++ (l.map cTxt).flatten) (fun i hi => by
   have h1 := flatK (L := (l.take i).map cTxt) (K := 23068674) fun x h => by
    obtain ⟨c, hc, rfl⟩ := List.mem_map.1 h
    exact hK _ (List.mem_map.2 ⟨c, List.mem_of_mem_take hc, rfl⟩)
   rw [List.length_map, List.length_take] at h1
   have h2 := cTxt_len (ho _ (List.getElem_mem hi)) (hx _ (List.getElem_mem hi))
   simp only [f11_0]
   rw [if_pos (by omega), ix_nat hi, bS, specCl (ho _ (List.getElem_mem hi)) (hx _ (List.getElem_mem hi)), bS, cat_ok (by simp only [List.length_append, List.length_singleton]; omega), bS, w64_succ (by omega), take_succ' hi, List.map_append, List.flatten_append, List.map_singleton, List.flatten_singleton, <- List.append_assoc]) (by
   simp only [f11_0]
   rw [if_neg (by omega), List.take_of_length_le (Nat.le_refl _)])
  simp only [List.take_zero, List.map_nil, List.flatten_nil, List.append_nil, Int.natCast_zero, Int.ofNat_zero] at it
  rw [it, bS, if_pos rfl]
theorem impCls {n : Int} {l : List (List Int)} (hl : l.length <= 1048576) (hx : ∀ x ∈ l, x.length <= 1048576) (ho : ∀ x ∈ l, ∀ v ∈ x, ok v) : f10 n l = some (clsTxt n l) := by
 unfold f10 clsTxt
 rw [implValid (n := n) (show Big l.length by omega) (fun x h => by have := hx x h; omega), bS]
 cases hv : valid n l
 ·simp
 ·obtain ⟨h4, n0, n1⟩ := valid_few hv
  have hn := Lib.itoa_length_le n (by omega) (by omega)
  have hK : ∀ x ∈ l.map cTxt, x.length <= 23068674 := fun x h => by
   obtain ⟨c, hc, rfl⟩ := List.mem_map.1 h
   exact cTxt_len (ho c hc) (hx c hc)
  rw [if_neg (by simp), itoI (by omega) (by omega), bS, cat_ok (by rw [List.length_singleton]; omega), bS]
  have it := iter_steps (f := f10_0 l) (fun i => (Lib.itoa n ++ [58] ++ ((l.take i).map cTxt).flatten, (i : Int))) l.length (Lib.itoa n ++ [58] ++ (l.map cTxt).flatten) (fun i hi => by
   have h1 := flatK (L := (l.take i).map cTxt) (K := 23068674) fun x h => by
    obtain ⟨c, hc, rfl⟩ := List.mem_map.1 h
    exact hK _ (List.mem_map.2 ⟨c, List.mem_of_mem_take hc, rfl⟩)
   rw [List.length_map, List.length_take] at h1
   have h2 := cTxt_len (ho _ (List.getElem_mem hi)) (hx _ (List.getElem_mem hi))
   simp only [f10_0]
   rw [if_pos (by omega), ix_nat hi, bS, impCl (ho _ (List.getElem_mem hi)) (hx _ (List.getElem_mem hi)), bS, cat_ok (by simp only [List.length_append, List.length_singleton]; omega), bS, w64_succ (by omega), take_succ' hi, List.map_append, List.flatten_append, List.map_singleton, List.flatten_singleton, <- List.append_assoc]) (by
   simp only [f10_0]
   rw [if_neg (by omega), List.take_of_length_le (Nat.le_refl _)])
  simp only [List.take_zero, List.map_nil, List.flatten_nil, List.append_nil, Int.natCast_zero, Int.ofNat_zero] at it
  rw [it, bS, if_pos rfl]
end
section
theorem drawCls {code : List Int} (h : code.length <= 1048576) : Ens (f7 code) fun r => r.2.length <= 10 /\ ∀ x ∈ r.2, x.length <= 4 /\ In64 x := by
 unfold f7 f26
 refine Ens.bind (Q := fun r : Int × List (List Int) => r.2.length <= 10 /\ ∀ x ∈ r.2, x.length <= 4 /\ In64 x) ?_ fun o ho => Ens.of ho
 refine Ens.bind (newOk h) fun c hc => ?_
 exact Ens.bind (cnfOk2 hc) fun o ho => Ens.of ⟨ho.2.2.1, ho.2.2.2.1⟩
theorem drawCl {code : List Int} (h : code.length <= 1048576) : Ens (f13 code) fun r => r.length <= 4 /\ In64 r := by
 unfold f13
 refine Ens.bind (newOk h) fun c hc => ?_
 refine Ens.bind (cnfOk2 hc) fun o ho => ?_
 refine Ens.ite (fun _ => Ens.of ⟨by simp, fun v hv => by cases hv⟩) fun hl => ?_
 have hl' : 0 < o.2.1.length := by omega
 rw [show ix o.2.1 (0 : Int) = ix o.2.1 ((0 : Nat) : Int) from rfl, ix_nat hl', bS]
 exact Ens.of (ho.2.2.2.1 _ (List.getElem_mem hl'))
theorem drawProof {code : List Int} (h : code.length <= 1048576) : Ens (f5 code) fun r => r.2.1.length <= 10 /\ (∀ x ∈ r.2.1, x.length <= 4) /\ r.2.2.length <= 32767 /\ ∀ x ∈ r.2.2, x.length <= 14 := by
 unfold f5
 refine Ens.bind (newOk h) fun c hc => ?_
 refine Ens.bind (cnfOk hc) fun o ⟨a1, a2, a3, a4, hc1⟩ => ?_
 obtain ⟨f1, f2, f3⟩ := slv_fits (n := o.1) (C := o.2.1)
 rw [solveSpec (by omega) (fun x hx => by have := a4 x hx; omega), bS]
 generalize slv o.1 o.2.1 = u at f1 f2 f3
 refine Ens.bind (Q := fun s : List Int × Int × Int × Bool => Cur ⟨s.1, s.2.1, s.2.2.1⟩ /\ (s.2.2.2 = true -> 0 < u.2.1.length)) (Ens.ite (fun hp => Ens.bind (onceOk hc1) fun p hp' => Ens.of ⟨hp', fun _ => by omega⟩) fun _ => Ens.of ⟨hc1, by simp⟩) fun ⟨b, i, hh, z⟩ ⟨g1, g2⟩ => ?_
 dsimp only at g1 g2 ⊢
 refine Ens.bind (Q := fun p : List (List Int) => p.length <= 32767 /\ ∀ x ∈ p, x.length <= 14) (Ens.ite (fun hz => ?_) fun _ => Ens.of ⟨f2, f3⟩) fun p hp => Ens.of ⟨a3, a4, hp⟩
 have hpos := g2 hz
 refine Ens.bind (belowOk g1) fun k ⟨k1, _, k2, hc2⟩ => ?_
 have k3 := k2 (by omega)
 refine Ens.bind (onceOk hc2) fun w hc3 => ?_
 refine Ens.bind (Q := fun p : List (List Int) => p.length <= 32767 /\ ∀ x ∈ p, x.length <= 14) (Ens.ite (fun _ => ?_) fun _ => ?_) fun p hp => Ens.of hp
 ·refine Ens.bind (setOk hc3 a1 a2) fun s hs => ?_
  rw [ix_of k1, zE (by omega), bS]
  refine Ens.of ⟨by rw [List.length_set]; exact f2, fun x hx => ?_⟩
  rcases List.mem_or_eq_of_mem_set hx with hx | hx
  ·exact f3 x hx
  ·rw [hx]; have := hs.1; omega
 ·unfold dlk
  rw [if_pos ⟨k1, k3, by omega⟩, bS]
  exact Ens.of ⟨Nat.le_trans (List.length_eraseIdx_le _ _) f2, fun x hx => f3 x (List.mem_of_mem_eraseIdx hx)⟩
theorem lawFnProofSoundness (code : List Int) (hcode : ok code) : f3 code = some true := by
 unfold f3 f4
 rw [bS]
 by_cases hb : (code.length : Int) > 1048576
 ·rw [if_pos (by simpa using hb)]
 rw [if_neg (by simpa using hb)]
 obtain ⟨⟨n, l, p⟩, e, a1, a2, a3, a4⟩ := drawProof (code := code) (by omega)
 simp only at a1 a2 a3 a4
 obtain ⟨⟨k, m⟩, ek, b1, b2⟩ := drawCls (code := code) (by omega)
 simp only at b1 b2
 obtain ⟨s, es, c1, c2⟩ := drawCl (code := code) (by omega)
 have q : ∀ x ∈ l, Big x.length := fun x hx => by have := a2 x hx; omega
 have q2 : ∀ x ∈ l, x.length <= 1048576 := fun x hx => by have := a2 x hx; omega
 have p2 : ∀ x ∈ p, x.length <= 1048576 := fun x hx => by have := a4 x hx; omega
 have m2 : ∀ x ∈ m, x.length <= 1048576 := fun x hx => by have := (b2 x hx).1; omega
 have bl : Big l.length := by omega
 have om : ∀ x ∈ m, ∀ v ∈ x, ok v := fun x hx v hv => (b2 x hx).2 v hv
 have os : ∀ v ∈ s, ok v := fun v hv => c2 v hv
 simp only [e, ek, es, bS, implProof (n := n) (l := l) (p := p) (by omega) q2 p2, specProof (n := n) (l := l) (p := p) (by omega) q2 p2, cntMImp (n := n) bl q, impCls (n := k) (l := m) (by omega) m2 om, specCls (n := k) (l := m) (by omega) m2 om, impCl (c := s) os (by omega), specCl (c := s) os (by omega)]
 cases hp : proofOk n l p
 ·simp
 ·obtain ⟨h0, hv⟩ := proof_none hp
  simp [h0]
end
end Go.Proofs.YtbpdhmbdpjafeaaDoorH
