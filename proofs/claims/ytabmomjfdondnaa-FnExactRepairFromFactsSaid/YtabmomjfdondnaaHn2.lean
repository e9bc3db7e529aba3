/- Arguments that are data, read as numbers, lists and structs. -/
import Derived.Test.YtabmomjfdondnaaHn1
import Derived.Test.YtabmomjfdondnaaHm31
set_option linter.unusedVariables false
set_option linter.unusedSimpArgs false
namespace Go.Proofs.YtabmomjfdondnaaH
open Go Go.ChangeShapes

/-- Sizes that the machine can hold. -/
class Sz (α : Type) where
  ok : α → Prop
abbrev ok {α : Type} [Sz α] (a : α) : Prop := Sz.ok a
instance : Sz Int := ⟨fun n => -9223372036854775808 ≤ n ∧ n ≤ 9223372036854775807⟩
instance : Sz Bool := ⟨fun _ => True⟩
instance : Sz UInt8 := ⟨fun _ => True⟩
instance {α : Type} [Sz α] : Sz (List α) := ⟨fun l => l.length ≤ 9223372036854775807 ∧ ∀ a ∈ l, ok a⟩

section
variable {H : Type} {enc : TypeId × Value → H} {P : Program} {W : World} {held : Bool} {α : Type} [Sz α]
/-- A type's data stand for values. -/
def Reads (enc : TypeId × Value → H) (P : Program) (W : World) (held : Bool) (E : En α) (t : TypeId) : Prop :=
  ∀ n cs y, DataW.trod enc P W 0 (fun _ => true) held n t cs = some y → ∃ a, RdVs W (E.c false a) cs ∧ ok a
theorem reads_int {k : IntKind} {t : TypeId} (ht : P.underlying t = some (.int k)) (hk : -9223372036854775808 ≤ k.min ∧ k.max ≤ 9223372036854775807 := by decide) : Reads enc P W held (eInt k) t := by
  intro n cs y h
  obtain ⟨m, rfl, _, hm⟩ := DataW.trod_int ht h
  simp only [Lit.wf, Bool.and_eq_true, decide_eq_true_eq] at hm
  exact ⟨m, by rw [eInt_c]; exact rdvs_one (by rw [RdV]), by have := hm.1; omega, by have := hm.2; omega⟩
theorem reads_bool {t : TypeId} (ht : P.underlying t = some .bool) : Reads enc P W held eB t := by
  intro n cs y h
  obtain ⟨b, rfl, _⟩ := DataW.trod_bool ht h
  exact ⟨b, by rw [eB_c]; exact rdvs_one (by rw [RdV]), trivial⟩
theorem str_le {s : ByteArray} (h : s.size ≤ maxLen) : s.data.toList.length ≤ 9223372036854775807 := by
  rw [Array.length_toList]; exact h
theorem reads_str {t : TypeId} (ht : P.underlying t = some .string) : Reads enc P W held eS t := by
  intro n cs y h
  obtain ⟨s, rfl, _, hs⟩ := DataW.trod_string ht h
  exact ⟨s.data.toList, by rw [eS_c]; exact rdvs_one (by rw [RdV]; exact ⟨s, rfl, rfl⟩), str_le hs, fun _ _ => trivial⟩
theorem rdvs_drop {W : World} : ∀ {ts : List T} {vs : List Value}, RdVs W ts vs → vs.length = ts.length
  | [], vs, h => by rw [RdVs] at h; simp [h]
  | t :: ts, vs, h => by
    rw [RdVs] at h
    obtain ⟨v, vs', rfl, _, h2⟩ := h
    simp [rdvs_drop h2]
theorem rd_elems {E : En α} {a : Addr} : ∀ (n : Nat), (∀ i, i < n → ∃ x cs, RdVs W (E.c false x) cs ∧ ok x ∧ ∀ j, j < E.w → W.cell? (a.add (i * E.w + j)) = cs[j]?) →
    ∃ (l : List α) (vs : List Value), l.length = n ∧ vs.length = n * E.w ∧ (∀ j v, vs[j]? = some v → W.cell? (a.add j) = some v) ∧ RdVs W (arr E false l) vs ∧ ∀ x ∈ l, ok x
  | 0, _ => ⟨[], [], rfl, by simp, by simp, by rw [arr_nil, RdVs], by simp⟩
  | n + 1, h => by
    obtain ⟨l, vs, h1, h2, h3, h4, h5⟩ := rd_elems n fun i hi => h i (by omega)
    obtain ⟨x, cs, g1, g3, g2⟩ := h n (by omega)
    have hl := rdvs_drop g1
    rw [E.hw] at hl
    refine ⟨l ++ [x], vs ++ cs, by simp [h1], by rw [List.length_append, h2, hl, Nat.add_mul]; omega, ?_, by rw [← arr_snoc]; exact h4.append g1, by intro y hy; rw [List.mem_append, List.mem_singleton] at hy; rcases hy with hy | hy; exact h5 y hy; rw [hy]; exact g3⟩
    intro j v hj
    by_cases hlt : j < n * E.w
    · rw [List.getElem?_append_left (by omega)] at hj; exact h3 j v hj
    · rw [List.getElem?_append_right (by omega), h2] at hj
      have hjw : j - n * E.w < E.w := by
        have := (List.getElem?_eq_some_iff.1 hj).1; omega
      have := g2 (j - n * E.w) hjw
      rw [hj] at this
      rwa [show n * E.w + (j - n * E.w) = j by omega] at this
theorem addr_add_add {a : Addr} {i j : Nat} (h : j = 0 → (a.add i).spot = none ∨ True) : True := trivial
theorem cell_add {a : Addr} {i j : Nat} {v : Value} (h : W.cell? ((a.add i).add j) = some v) : W.cell? (a.add (i + j)) = some v := by
  unfold Addr.add at h ⊢
  by_cases hj : j = 0
  · subst hj
    simpa using h
  · by_cases hi : i = 0
    · subst hi
      simpa [hj] using h
    · rw [if_neg (by omega)]
      simp only [if_neg hi, if_neg hj] at h
      rw [Nat.add_assoc] at h
      exact h
theorem reads_slice {E : En α} {t e : TypeId} (ht : P.underlying t = some (.slice e)) (hc : P.cellsOf e = E.w) (one : Reads enc P W held E e) : Reads enc P W held (eL E) t := by
  intro fuel cs x h
  rcases DataW.trod_slice ht h with ⟨rfl, _⟩ | ⟨a, len, cap, elems, rest, n, _, rfl, _, hb, hl, hm, hlen, hel, hsp, hns⟩
  · refine ⟨[], ?_⟩
    rw [eL_cf]
    exact ⟨rdvs_one (by rw [RdV]; exact ⟨rfl, rfl, E.hp, .inl ⟨rfl, rfl, rfl⟩⟩), by simp, by simp⟩
  · have hw := E.hp
    have each : ∀ i, i < cap → ∃ x cs, RdVs W (E.c false x) cs ∧ ok x ∧ ∀ j, j < E.w → W.cell? (a.add (i * E.w + j)) = cs[j]? := by
      intro i hi
      have hb' : ∃ y, (W.cells? 0 (a.add (i * P.cellsOf e)) (P.cellsOf e)).bind (DataW.trod enc P W 0 (fun _ => true) held n e) = some y := by
        by_cases hil : i < len
        · exact ⟨elems[i]'(by omega), by rw [hel i hil, List.getElem?_eq_getElem (by omega)]⟩
        · obtain ⟨hrl, hr⟩ := hsp rfl
          have := hr (i - len) (by omega)
          rw [show len + (i - len) = i by omega] at this
          exact ⟨rest[i - len]'(by omega), by rw [this, List.getElem?_eq_getElem (by omega)]⟩
      obtain ⟨y, hy⟩ := hb'
      rw [Option.bind_eq_some_iff] at hy
      obtain ⟨cs', hcs', hy'⟩ := hy
      obtain ⟨x, hx, hx'⟩ := one _ _ _ hy'
      obtain ⟨_, c1, c2⟩ := World.cells?_some hcs'
      rw [hc] at c1 c2
      refine ⟨x, cs', hx, hx', fun j hj => ?_⟩
      have h1 := c2 j hj
      rw [List.getElem?_eq_getElem (by omega)] at h1 ⊢
      exact cell_add h1
    obtain ⟨l, vs, h1, h2, h3, h4, h5⟩ := rd_elems (a := a) (W := W) len fun i hi => each i (by omega)
    refine ⟨l, ?_, by have hm' : cap ≤ 9223372036854775807 := hm
                      omega, h5⟩
    rw [eL_cf]
    refine rdvs_one ?_
    rw [RdV]
    refine ⟨rfl, rfl, hw, .inr ⟨a, len, cap, rfl, hl, by rw [arr_len, h1], fun hcap => ?_, vs, by rw [h2, arr_len, h1], fun j w hj => ?_, h4⟩⟩
    · obtain ⟨x, cs', e1, _, e2⟩ := each 0 hcap
      have := e2 0 hw
      have hl := rdvs_drop e1
      rw [E.hw] at hl
      rw [List.getElem?_eq_getElem (by omega)] at this
      simp [Addr.add] at this
      exact spot_of_cell this
    · have e1 := h3 j w hj
      unfold Addr.add at e1
      split at e1
      · rename_i hj0; subst hj0
        have hs := spot_of_cell e1
        cases a; simp at hs; subst hs; simpa using e1
      · exact e1
/-- A value that takes one cell. -/
theorem reads_val {E : En α} {t : TypeId} (h : Reads enc P W held E t) {v : Value} {y : DataW H × List MemPlace} {n : Nat} (hy : DataW.trod enc P W 0 (fun _ => true) held n t [v] = some y) : ∃ a, RdVs W (E.c false a) [v] ∧ ok a := h _ _ _ hy
end

end Go.Proofs.YtabmomjfdondnaaH
