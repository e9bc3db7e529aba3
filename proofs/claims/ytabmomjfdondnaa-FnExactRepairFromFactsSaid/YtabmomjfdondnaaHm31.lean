/- Arguments that are data read as trees. -/
import Derived.Test.YtabmomjfdondnaaHm30
import Derived.ChangeSlices
set_option linter.unusedVariables false
set_option linter.unusedSimpArgs false
namespace Go.Proofs.YtabmomjfdondnaaH
open Go Go.ChangeShapes

theorem RdVs.append {W : World} : ∀ {ts us : List T} {vs ws : List Value}, RdVs W ts vs → RdVs W us ws → RdVs W (ts ++ us) (vs ++ ws)
  | [], us, vs, ws, h, h' => by rw [RdVs] at h; subst h; simpa using h'
  | t :: ts, us, vs, ws, h, h' => by
    rw [RdVs] at h
    obtain ⟨v, vs', rfl, h1, h2⟩ := h
    rw [List.cons_append, List.cons_append, RdVs]
    exact ⟨v, vs' ++ ws, rfl, h1, RdVs.append h2 h'⟩
theorem rdvs_one {W : World} {t : T} {v : Value} (h : RdV W t v) : RdVs W [t] [v] := by
  rw [RdVs]; exact ⟨v, [], rfl, h, by rw [RdVs]⟩

theorem spot_of_cell {W : World} {a : Addr} {v : Value} (h : W.cell? a = some v) : a.spot = none := by
  unfold World.cell? at h
  split at h
  · split at h
    · simp at h
    · rename_i hs; simpa using hs
  · simp at h

theorem rd_cells {W : World} {a : Addr} {G : T → Prop} : ∀ (n : Nat), (∀ i, i < n → ∃ u v, G u ∧ W.cell? (a.add i) = some v ∧ RdV W u v) →
    ∃ us vs, us.length = n ∧ vs.length = n ∧ (∀ u ∈ us, G u) ∧ (∀ j v, vs[j]? = some v → W.cell? (a.add j) = some v) ∧ RdVs W us vs
  | 0, _ => ⟨[], [], rfl, rfl, by simp, by simp, by rw [RdVs]⟩
  | n + 1, h => by
    obtain ⟨us, vs, h1, h2, h3, h4, h5⟩ := rd_cells n fun i hi => h i (by omega)
    obtain ⟨u, v, g1, g2, g3⟩ := h n (by omega)
    refine ⟨us ++ [u], vs ++ [v], by simp [h1], by simp [h2], ?_, ?_, h5.append (rdvs_one g3)⟩
    · intro x hx
      rcases List.mem_append.1 hx with hx | hx
      · exact h3 x hx
      · simp at hx; subst hx; exact g1
    · intro j w hj
      by_cases hlt : j < n
      · rw [List.getElem?_append_left (by omega)] at hj; exact h4 j w hj
      · rw [List.getElem?_append_right (by omega)] at hj
        have hjn : j = n := by
          have := (List.getElem?_eq_some_iff.1 hj).1; simp at this; omega
        subst hjn
        simp [h2] at hj
        subst hj; exact g2

end Go.Proofs.YtabmomjfdondnaaH
