/- Arguments that are data read as trees. -/
import Derived.Test.YthfbkecnnllpkaaHm30
import Derived.ChangeSlices
set_option linter.unusedVariables false
set_option linter.unusedSimpArgs false
namespace Go.Proofs.YthfbkecnnllpkaaH
open Go Go.ChangeShapes

theorem RdVs.append {W : World} : ∀ {ts us : List T} {vs ws : List Value}, RdVs W ts vs → RdVs W us ws → RdVs W (ts ++ us) (vs ++ ws)
  | [], us, vs, ws, h, h' => by rw [RdVs] at h; subst h; simpa using h'
  | t :: ts, us, vs, ws, h, h' => by
    rw [RdVs] at h
    obtain ⟨v, vs', rfl, h1, h2⟩ := h
    rw [List.cons_append, List.cons_append, RdVs]
    exact ⟨v, vs' ++ ws, rfl, h1, RdVs.append h2 h'⟩
theorem rdvs_one {W : World} {t : T} {v : Value} (h : RdV W t v) : RdVs W [t] [v] := by
  rw [RdVs]; exact ⟨v, [], rfl, h, by rw [RdVs]⟩

theorem spot_of_cell {W : World} {a : Addr} {v : Value} (h : W.cell? a = some v) : a.spot = none := by
  unfold World.cell? at h
  split at h
  · split at h
    · simp at h
    · rename_i hs; simpa using hs
  · simp at h

theorem rd_cells {W : World} {a : Addr} {G : T → Prop} : ∀ (n : Nat), (∀ i, i < n → ∃ u v, G u ∧ W.cell? (a.add i) = some v ∧ RdV W u v) →
    ∃ us vs, us.length = n ∧ vs.length = n ∧ (∀ u ∈ us, G u) ∧ (∀ j v, vs[j]? = some v → W.cell? (a.add j) = some v) ∧ RdVs W us vs
  | 0, _ => ⟨[], [], rfl, rfl, by simp, by simp, by rw [RdVs]⟩
  | n + 1, h => by
    obtain ⟨us, vs, h1, h2, h3, h4, h5⟩ := rd_cells n fun i hi => h i (by omega)
    obtain ⟨u, v, g1, g2, g3⟩ := h n (by omega)
    refine ⟨us ++ [u], vs ++ [v], by simp [h1], by simp [h2], ?_, ?_, h5.append (rdvs_one g3)⟩
    · intro x hx
      rcases List.mem_append.1 hx with hx | hx
      · exact h3 x hx
      · simp at hx; subst hx; exact g1
    · intro j w hj
      by_cases hlt : j < n
      · rw [List.getElem?_append_left (by omega)] at hj; exact h4 j w hj
      · rw [List.getElem?_append_right (by omega)] at hj
        have hjn : j = n := by
          have := (List.getElem?_eq_some_iff.1 hj).1; simp at this; omega
        subst hjn
        simp [h2] at hj
        subst hj; exact g2

section
variable {H : Type} {enc : TypeId × Value → H} {P : Program} {W : World} {held : Bool}
theorem rd_slice {G : T → Prop} {t e : TypeId} {fuel : Nat} {v : Value} {x : DataW H × List MemPlace} (ht : P.underlying t = some (.slice e)) (hc : P.cellsOf e = 1)
    (one : ∀ n v y, DataW.trod enc P W 0 (fun _ => true) held n e [v] = some y → ∃ u, G u ∧ RdV W u v) (h : DataW.trod enc P W 0 (fun _ => true) held fuel t [v] = some x) :
    (RdV W .nils v) ∨ ∃ us, (∀ u ∈ us, G u) ∧ RdV W (.sl false false 1 0 us) v := by
  rcases DataW.trod_slice ht h with ⟨h0, _⟩ | ⟨a, len, cap, elems, rest, n, _, hcs, _, hb, hl, hm, hlen, hel, hsp, hns⟩
  · refine .inl ?_
    simp only [List.cons.injEq, and_true] at h0
    rw [RdV]; exact h0
  · right
    simp only [List.cons.injEq, and_true] at hcs
    have each : ∀ i, i < cap → ∃ w y, W.cell? (a.add i) = some w ∧ DataW.trod enc P W 0 (fun _ => true) held n e [w] = some y := by
      intro i hi
      have hb' : ∃ y, (W.cells? 0 (a.add (i * P.cellsOf e)) (P.cellsOf e)).bind (DataW.trod enc P W 0 (fun _ => true) held n e) = some y := by
        by_cases hil : i < len
        · exact ⟨elems[i]'(by omega), by rw [hel i hil, List.getElem?_eq_getElem (by omega)]⟩
        · obtain ⟨hrl, hr⟩ := hsp rfl
          have := hr (i - len) (by omega)
          rw [show len + (i - len) = i by omega] at this
          exact ⟨rest[i - len]'(by omega), by rw [this, List.getElem?_eq_getElem (by omega)]⟩
      obtain ⟨y, hy⟩ := hb'
      rw [hc, Nat.mul_one, Option.bind_eq_some_iff] at hy
      obtain ⟨cs', hcs', hy'⟩ := hy
      have hlen1 := (World.cells?_some hcs').2.1
      match cs', hlen1, hcs', hy' with
      | [w], _, hcs', hy' => exact ⟨w, y, cell_of_cells?_one hcs', hy'⟩
    obtain ⟨us, vs, h1, h2, h3, h4, h5⟩ := rd_cells (W := W) (a := a) (G := G) len fun i hi => by
      obtain ⟨w, y, e1, e2⟩ := each i (by omega)
      obtain ⟨u, e3, e4⟩ := one n w y e2
      exact ⟨u, w, e3, e1, e4⟩
    refine ⟨us, h3, ?_⟩
    rw [RdV]
    refine ⟨rfl, rfl, by omega, a, len, cap, hcs, hl, by omega, fun hcap => ?_, vs, by omega, fun j w hj => ?_, h5⟩
    · obtain ⟨w, _, e1, _⟩ := each 0 hcap
      rw [Addr.add] at e1
      simp at e1
      exact spot_of_cell e1
    · have e1 := h4 j w hj
      unfold Addr.add at e1
      split at e1
      · rename_i hj0; subst hj0
        have hs := spot_of_cell e1
        cases a; simp at hs; subst hs; simpa using e1
      · exact e1
end

end Go.Proofs.YthfbkecnnllpkaaH
