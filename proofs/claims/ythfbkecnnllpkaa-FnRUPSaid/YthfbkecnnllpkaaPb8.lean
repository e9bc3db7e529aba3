/- Plain laws: draws end, and what they give is small. -/
import Derived.Test.YthfbkecnnllpkaaTd1
import Derived.Test.YthfbkecnnllpkaaPl4
set_option linter.unusedVariables false
set_option linter.unusedSimpArgs false
namespace Go.Proofs.YthfbkecnnllpkaaH
open Go
/-- A reader that stands within its code. -/
def Cur (c : L1Cur) : Prop := 0 ≤ c.i ∧ c.i ≤ c.b.length ∧ c.b.length ≤ 1048576
theorem newOk {code : List Int} (h : code.length ≤ 1048576) : Ens (f67 code) Cur := by
  unfold f67
  refine Ens.bind (Q := fun _ => True) ?_ fun a _ => Ens.of ⟨by simp, by simp, h⟩
  refine iter_up (f := f67_0 code) code.length (fun i s => ∃ x, s = (x, (i : Int))) (fun _ => True) (fun i s hi ⟨x, hs⟩ => ?_) (fun s ⟨x, hs⟩ => ?_) _ ⟨_, rfl⟩
  · subst hs
    simp only [f67_0]
    rw [if_pos (by omega), Option.bind_some]
    by_cases h4 : (i : Int) < 4000
    · rw [if_pos (by simpa using h4), ix_nat hi, Option.bind_some, w64_succ (by omega)]
      exact ⟨_, rfl, _, rfl⟩
    · rw [if_neg (by simpa using h4)]
      exact ⟨_, rfl, trivial⟩
  · subst hs
    simp only [f67_0]
    rw [if_neg (by omega), Option.bind_some, if_neg (by simp)]
    exact ⟨_, rfl, trivial⟩
theorem byteOk {c : L1Cur} (h : Cur c) : Ens (f84 c) fun r => 0 ≤ r.1 ∧ r.1 ≤ 255 ∧ Cur r.2 := by
  unfold f84
  obtain ⟨h0, h1, h2⟩ := h
  refine Ens.bind (Q := fun x : Int × Int => 0 ≤ x.1 ∧ x.1 ≤ (c.b.length : Int) ∧ 0 ≤ x.2 ∧ x.2 ≤ 255) ?_ fun a ha => Ens.of ⟨ha.2.2.1, ha.2.2.2, ha.1, ha.2.1, h2⟩
  refine Ens.ite (fun hc => ?_) fun hc => Ens.of ⟨h0, h1, band_255⟩
  rw [ix_getD (d := 0) h0 hc, Option.bind_some]
  refine Ens.of ⟨?_, ?_, band_255⟩
  · rw [w64_of (by omega)]; omega
  · rw [w64_of (by omega)]; dsimp only; omega
theorem belowOk {c : L1Cur} {n : Int} (h : Cur c) : Ens (f80 c n) fun r => 0 ≤ r.1 ∧ (n ≤ 0 → r.1 = 0) ∧ (0 < n → r.1 < n) ∧ Cur r.2 := by
  unfold f80
  refine Ens.ite (fun hc => Ens.of ⟨by simp, fun _ => rfl, fun h => by omega, h⟩) fun hc => ?_
  refine Ens.ite (fun hd => ?_) fun hd => ?_
  · refine Ens.bind (byteOk h) fun a ⟨a0, a1, a2⟩ => ?_
    rw [nz_ok (by omega), Option.bind_some]
    have := tmod_lt (n := n) a0 (by omega)
    exact Ens.of ⟨this.1, fun h => by omega, fun _ => this.2, a2⟩
  · refine Ens.bind (byteOk h) fun a ⟨a0, a1, a2⟩ => ?_
    refine Ens.bind (byteOk a2) fun b ⟨b0, b1, b2⟩ => ?_
    refine Ens.bind (byteOk b2) fun c ⟨c0, c1, c2⟩ => ?_
    refine Ens.bind (byteOk c2) fun d ⟨d0, d1, d2⟩ => ?_
    rw [nz_ok (by omega), Option.bind_some]
    rw [w64_of (n := a.1 * 16777216) (by omega), w64_of (n := b.1 * 65536) (by omega), w64_of (n := c.1 * 256) (by omega), w64_of (n := a.1 * 16777216 + b.1 * 65536) (by omega), w64_of (n := a.1 * 16777216 + b.1 * 65536 + c.1 * 256) (by omega), w64_of (by omega)]
    have := tmod_lt (n := n) (a := a.1 * 16777216 + b.1 * 65536 + c.1 * 256 + d.1) (by omega) (by omega)
    exact Ens.of ⟨this.1, fun h => by omega, fun _ => this.2, d2⟩
theorem onceOk {c : L1Cur} {n : Int} (h : Cur c) : Ens (f81 c n) fun r => Cur r.2 := by
  unfold f81
  exact Ens.bind (belowOk h) fun a ha => Ens.of ha.2.2.2
theorem pickOk {c : L1Cur} {l : List Int} (h : Cur c) (hl : 0 < l.length) : Ens (f82 c l) fun r => r.1 ∈ l ∧ Cur r.2 := by
  unfold f82
  refine Ens.bind (belowOk h) fun a ha => ?_
  have h1 := ha.1
  have h2 := ha.2.2.1 (by omega)
  rw [ix_of h1, List.getElem?_eq_getElem (by omega), Option.bind_some]
  exact Ens.of ⟨List.getElem_mem _, ha.2.2.2⟩
/-- Numbers of 64 bits. -/
def In64 (l : List Int) : Prop := ∀ v ∈ l, -9223372036854775808 ≤ v ∧ v ≤ 9223372036854775807
theorem In64.snoc {l : List Int} {v : Int} (h : In64 l) (hv : -9223372036854775808 ≤ v ∧ v ≤ 9223372036854775807) : In64 (l ++ [v]) := by
  intro x hx
  rw [List.mem_append, List.mem_singleton] at hx
  rcases hx with hx | hx
  · exact h x hx
  · rw [hx]; exact hv
theorem cnfOk {c : L1Cur} (h : Cur c) : Ens (f68 c) fun r => 1 ≤ r.1 ∧ r.1 ≤ 5 ∧ r.2.1.length ≤ 10 ∧ (∀ x ∈ r.2.1, x.length ≤ 4) ∧ Cur r.2.2 := by
  unfold f68
  refine Ens.bind (belowOk h) fun o1 ⟨n0, _, n1, hc1⟩ => ?_
  have n2 := n1 (by omega)
  refine Ens.bind (belowOk hc1) fun o3 ⟨m0, _, m1, hc3⟩ => ?_
  have m2 := m1 (by omega)
  have en : w64 (1 + o1.1) = 1 + o1.1 := w64_of (by omega)
  refine Ens.bind (Q := fun s => Cur ⟨s.1, s.2.1, s.2.2.1⟩ ∧ s.2.2.2.length ≤ 10 ∧ ∀ x ∈ s.2.2.2, x.length ≤ 3) ?_ fun ⟨b, i, hh, l⟩ ⟨g1, g2, g3⟩ => ?_
  · refine iter_up (f := f68_0 o1) o3.1.toNat (fun k s => Cur ⟨s.1, s.2.1, s.2.2.1⟩ ∧ s.2.2.2.1.length ≤ k ∧ (∀ x ∈ s.2.2.2.1, x.length ≤ 3) ∧ s.2.2.2.2 = o3.1 - (k : Int)) (fun s => Cur ⟨s.1, s.2.1, s.2.2.1⟩ ∧ s.2.2.2.length ≤ 10 ∧ ∀ x ∈ s.2.2.2, x.length ≤ 3) (fun k ⟨b, i, hh, l, q⟩ hk ⟨s1, s2, s3, s4⟩ => ?_) (fun ⟨b, i, hh, l, q⟩ ⟨s1, s2, s3, s4⟩ => ?_) _ ⟨hc3, by simp, by simp, by simp⟩
    · simp only at s1 s2 s3 s4
      simp only [f68_0]
      rw [if_pos (by omega)]
      have : Ens (iter (f68_1 o1) (b, i, hh, [], 1)) fun s => Cur ⟨s.1, s.2.1, s.2.2.1⟩ ∧ s.2.2.2.length ≤ 3 := by
        refine iter_up (f := f68_1 o1) (o1.1 + 1).toNat (fun v s => Cur ⟨s.1, s.2.1, s.2.2.1⟩ ∧ s.2.2.2.1.length ≤ 3 ∧ s.2.2.2.2 = 1 + (v : Int)) (fun s => Cur ⟨s.1, s.2.1, s.2.2.1⟩ ∧ s.2.2.2.length ≤ 3) (fun v ⟨b, i, hh, x, w⟩ hv ⟨t1, t2, t3⟩ => ?_) (fun ⟨b, i, hh, x, w⟩ ⟨t1, t2, t3⟩ => ?_) _ ⟨s1, by simp, by simp⟩
        · simp only at t1 t2 t3
          simp only [f68_1]
          rw [en, if_pos (by omega)]
          refine Ens.bind (onceOk t1) fun o17 h17 => ?_
          refine Ens.bind (Q := fun z => z = true → x.length < 3) (Ens.ite (fun _ => Ens.of fun hz => by simp at hz; omega) fun _ => Ens.of fun hz => by cases hz) fun z hz => ?_
          refine Ens.bind (Q := fun s => Cur ⟨s.1, s.2.1, s.2.2.1⟩ ∧ s.2.2.2.length ≤ 3) (Ens.ite (fun hc => ?_) fun _ => Ens.of ⟨h17, t2⟩) fun ⟨b', i', hh', x'⟩ ⟨u1, u2⟩ => ?_
          · refine Ens.bind (belowOk h17) fun o25 h25 => ?_
            have := hz hc
            rw [app_fits (by simp only [List.length_singleton]; omega), Option.bind_some]
            exact Ens.of ⟨h25.2.2.2, by simp; omega⟩
          · exact Ens.of ⟨u1, u2, by dsimp only; rw [t3, w64_of (by omega)]; omega⟩
        · simp only at t1 t2 t3
          simp only [f68_1]
          rw [en, if_neg (by omega)]
          exact ⟨_, rfl, t1, t2⟩
      refine Ens.bind this fun ⟨b', i', hh', x⟩ ⟨u1, u2⟩ => ?_
      dsimp only
      rw [app_fits (by simp only [List.length_singleton]; omega), Option.bind_some]
      refine Ens.of ⟨u1, by simp; omega, fun y hy => ?_, by dsimp only; rw [s4, w64_of (by omega)]; omega⟩
      dsimp only at hy
      rw [List.mem_append, List.mem_singleton] at hy
      rcases hy with hy | hy
      · exact s3 y hy
      · rw [hy]; exact u2
    · simp only at s1 s2 s3 s4
      simp only [f68_0]
      rw [if_neg (by omega)]
      exact ⟨_, rfl, s1, by dsimp only; omega, s3⟩
  · dsimp only
    simp only at g1 g2 g3
    refine Ens.bind (Q := fun s => Cur ⟨s.1, s.2.1, s.2.2.1⟩ ∧ (s.2.2.2 = true → 0 < l.length)) (Ens.ite (fun hl => Ens.bind (onceOk g1) fun o53 h53 => Ens.of ⟨h53, fun _ => by omega⟩) fun _ => Ens.of ⟨g1, fun h => by cases h⟩) fun ⟨b', i', hh', z⟩ ⟨u1, u2⟩ => ?_
    dsimp only
    refine Ens.bind (Q := fun s => Cur ⟨s.1, s.2.1, s.2.2.1⟩ ∧ s.2.2.2.length ≤ 10 ∧ ∀ x ∈ s.2.2.2, x.length ≤ 4) (Ens.ite (fun hz => ?_) fun _ => Ens.of ⟨u1, g2, fun x hx => by have := g3 x hx; omega⟩) fun ⟨b'', i'', hh'', l'⟩ ⟨w1, w2, w3⟩ => ?_
    · have hl := u2 hz
      rw [show ix l (0 : Int) = ix l ((0 : Nat) : Int) from rfl, ix_nat hl, Option.bind_some]
      refine Ens.bind (pickOk u1 (by simp)) fun o60 h60 => ?_
      have := g3 _ (List.getElem_mem hl)
      rw [app_fits (by simp only [List.length_singleton]; omega), Option.bind_some]
      refine Ens.of ⟨h60.2, by simp; omega, fun x hx => ?_⟩
      rcases List.mem_or_eq_of_mem_set hx with hx | hx
      · have := g3 x hx; omega
      · rw [hx]; simp; omega
    · exact Ens.of ⟨by rw [en]; dsimp only; omega, by rw [en]; dsimp only; omega, w2, w3, w1⟩
theorem setOk {c : L1Cur} {n : Int} (h : Cur c) (h1 : 1 ≤ n) (h5 : n ≤ 5) : Ens (f69 c n) fun r => r.1.length ≤ 6 ∧ In64 r.1 ∧ Cur r.2 := by
  unfold f69
  refine Ens.bind (Q := fun s => Cur ⟨s.1, s.2.1, s.2.2.1⟩ ∧ s.2.2.2.length ≤ 5 ∧ In64 s.2.2.2) ?_ fun ⟨b, i, hh, l⟩ ⟨g1, g2, g3⟩ => ?_
  · refine iter_up (f := f69_0 n) n.toNat (fun v s => Cur ⟨s.1, s.2.1, s.2.2.1⟩ ∧ s.2.2.2.1.length ≤ v ∧ In64 s.2.2.2.1 ∧ s.2.2.2.2 = 1 + (v : Int)) (fun s => Cur ⟨s.1, s.2.1, s.2.2.1⟩ ∧ s.2.2.2.length ≤ 5 ∧ In64 s.2.2.2) (fun v ⟨b, i, hh, x, w⟩ hv ⟨t1, t2, t4, t3⟩ => ?_) (fun ⟨b, i, hh, x, w⟩ ⟨t1, t2, t4, t3⟩ => ?_) _ ⟨h, by simp, fun v hv => by simp at hv, by simp⟩
    · simp only at t1 t2 t3 t4
      simp only [f69_0]
      rw [if_pos (by omega)]
      refine Ens.bind (onceOk t1) fun o7 h7 => ?_
      refine Ens.bind (Q := fun s => Cur ⟨s.1, s.2.1, s.2.2.1⟩ ∧ s.2.2.2.length ≤ v + 1 ∧ In64 s.2.2.2) (Ens.ite (fun hc => ?_) fun _ => Ens.of ⟨h7, by dsimp only; omega, t4⟩) fun ⟨b', i', hh', x'⟩ ⟨u1, u2, u3⟩ => ?_
      · refine Ens.bind (belowOk h7) fun o12 h12 => ?_
        rw [app_fits (by simp only [List.length_singleton]; omega), Option.bind_some]
        exact Ens.of ⟨h12.2.2.2, by simp; omega, t4.snoc w64_range⟩
      · exact Ens.of ⟨u1, u2, u3, by dsimp only; rw [t3, w64_of (by omega)]; omega⟩
    · simp only at t1 t2 t3 t4
      simp only [f69_0]
      rw [if_neg (by omega)]
      exact ⟨_, rfl, t1, by dsimp only; omega, t4⟩
  · simp only at g1 g2 g3
    dsimp only
    refine Ens.bind (onceOk g1) fun o26 h26 => ?_
    refine Ens.ite (fun hc => ?_) fun _ => Ens.of ⟨by dsimp only; omega, g3, h26⟩
    refine Ens.bind (pickOk h26 (by simp)) fun o29 h29 => ?_
    rw [app_fits (by simp only [List.length_singleton]; omega), Option.bind_some]
    refine Ens.of ⟨by simp; omega, g3.snoc ?_, h29.2⟩
    have := h29.1
    simp at this
    omega
theorem drawOk {code : List Int} (h : code.length ≤ 1048576) : Ens (f48 code) fun r => 1 ≤ r.1 ∧ r.1 ≤ 5 ∧ r.2.1.length ≤ 10 ∧ (∀ x ∈ r.2.1, x.length ≤ 4) ∧ r.2.2.length ≤ 6 ∧ In64 r.2.2 := by
  unfold f48
  refine Ens.bind (newOk h) fun o1 h1 => ?_
  refine Ens.bind (cnfOk h1) fun o3 ⟨a1, a2, a3, a4, a5⟩ => ?_
  refine Ens.bind (setOk a5 a1 a2) fun o5 ⟨b1, b2, b3⟩ => ?_
  exact Ens.of ⟨a1, a2, a3, a4, b1, b2⟩
end Go.Proofs.YthfbkecnnllpkaaH

