/- The plain law of FnUnitPropagation. -/
import Derived.Test.YthfbkecnnllpkaaTd1
import Derived.Test.YthfbkecnnllpkaaPb8
import Derived.Test.YthfbkecnnllpkaaPb9
set_option linter.unusedVariables false
set_option linter.unusedSimpArgs false
namespace Go.Proofs.YthfbkecnnllpkaaH
open Go
theorem sameI {a : List Int} (h : a.length ≤ 9223372036854775807) : f49 a a = some true := by
  unfold f49
  rw [if_neg (by simp)]
  rw [iter_ex (List.range a.length) (fun _ => false) false (fun i hi => by
    simp only [f49_0]
    simp only [List.length_range] at hi
    rw [if_pos (by omega), ix_nat hi, w64_succ (by omega)]
    simp) (by
    simp only [f49_0]
    rw [if_neg (by simp)])]
  simp
theorem negs_negs {s : List Int} (h : In64 s) : negs (negs s) = s := by
  unfold negs
  rw [List.map_map]
  conv => rhs; rw [← List.map_id s]
  apply List.map_congr_left
  intro v hv
  have := h v hv
  simp only [Function.comp, id, neg]
  by_cases hm : v = -9223372036854775808
  · subst hm; decide
  · rw [w64_of (n := -v) (by omega), w64_of (by omega), Int.neg_neg]
theorem lawFnUnitPropagation (code : List Int) (hcode : ok code) : f13 code = some true := by
  unfold f13 f47
  rw [Option.bind_some]
  by_cases hb : (code.length : Int) > 1048576
  · rw [if_pos (by simpa using hb)]
  rw [if_neg (by simpa using hb)]
  obtain ⟨o, e, a1, a2, a3, a4, a5, a6⟩ := drawOk (code := code) (by omega)
  rw [e, Option.bind_some]
  obtain ⟨n, l, s⟩ := o
  simp only at a1 a2 a3 a4 a5 a6 ⊢
  have q : ∀ x ∈ l, Big x.length := fun x hx => by have := a4 x hx; omega
  have hu := up_len (n := n) (l := l) (s := s) (by omega)
  rw [upImp (show Big l.length by omega) q (by omega)]
  simp only [Option.bind_some, upSpec (n := n) (s := s) (show Big l.length by omega) q (by omega), negImp (l := s) (by omega), negImp (l := negs s) (by simp only [negs, List.length_map]; omega), negs_negs a6,
    sameI (a := s) (by omega), sameI (a := (up n l s).1) (by omega), implValid (n := n) (l := l) (show Big l.length by omega) q, specValid (n := n) (l := l) (show Big l.length by omega) q]
  simp only [bne_self_eq_false, Bool.false_eq_true, if_false, not_true_eq_false, Option.bind_some]
  by_cases hv : valid n l = true
  · rw [if_neg (by simp [hv])]
    obtain ⟨s1, s2⟩ := shl_two (n := n) (by omega) (by omega)
    rw [iter_ex (List.range (2 ^ n.toNat)) (fun _ => false) false (fun k hk => by
      simp only [List.length_range] at hk
      simp only [f13_0]
      rw [nn_ok (by omega), Option.bind_some, s1, if_pos (by omega), mkl_ok (by omega) (by omega) (by omega), Option.bind_some]
      rw [iter_copy (a := mods n.toNat k) (by rw [mods_len]; simp) (fun v hv out ho => by
        rw [mods_len] at hv
        simp only [f13_1]
        rw [if_pos (by omega), nn_ok (by omega), Option.bind_some, ix_nat ho, w64_succ (by omega), Option.bind_some, Int.toNat_natCast]
        simp [mods, bit]) (fun out => by
        simp only [f13_1]
        rw [if_neg (by rw [mods_len]; omega)]), Option.bind_some]
      have hm : ((mods n.toNat k).length : Int) = n := by rw [mods_len]; omega
      rw [iter_flat s (fun v => [[v]]) id (fun i hi => by
        have hn := take_flat_le (l := s) (i := i) (g := fun v => [[v]]) (m := 1) (fun _ => by simp)
        simp only [f13_2]
        rw [if_pos (by omega), ix_nat hi, Option.bind_some, app_fits (by simp only [List.length_singleton]; omega), w64_succ (by omega)]; rfl) (by
        simp only [f13_2]
        rw [if_neg (by omega)]; rfl), Option.bind_some]
      rw [iter_flat (up n l s).1 (fun v => [[v]]) id (fun i hi => by
        have hn := take_flat_le (l := (up n l s).1) (i := i) (g := fun v => [[v]]) (m := 1) (fun _ => by simp)
        simp only [f13_3]
        rw [if_pos (by omega), ix_nat hi, Option.bind_some, app_fits (by simp only [List.length_singleton]; omega), w64_succ (by omega)]; rfl) (by
        simp only [f13_3]
        rw [if_neg (by omega)]; rfl), Option.bind_some]
      have e1 : ∀ t : List Int, (t.flatMap fun v => [[v]]) = ones t := fun t => (List.map_eq_flatMap).symm
      have e2 : ∀ t : List Int, ∀ x ∈ ones t, Big x.length := fun t x hx => by
        unfold ones at hx; rw [List.mem_map] at hx; obtain ⟨v, _, rfl⟩ := hx; simp
      have e3 : ∀ t : List Int, (ones t).length = t.length := fun t => by simp [ones]
      simp only [id, e1]
      rw [satSpec (show Big l.length by omega) q (by omega), Option.bind_some, w64_succ (by omega)]
      simp only [satSpec (l := ones s) (m := mods n.toNat k) (by rw [e3]; omega) (e2 s) (by omega), satSpec (l := ones (up n l s).1) (m := mods n.toNat k) (by rw [e3]; omega) (e2 _) (by omega), Option.bind_some, ones_sat]
      cases hs : sat l (mods n.toNat k)
      · simp
      · cases ho : allLit (mods n.toNat k) s
        · simp
        · obtain ⟨g1, g2⟩ := up_true hv hm hs ho
          rw [g1, g2]; simp) (by
      simp only [f13_0]
      rw [nn_ok (by omega), Option.bind_some, s1, if_neg (by simp)])]
    have := up_longer (n := n) (l := l) (s := s)
    simp; omega
  · rw [if_pos (by simpa using hv), up_bad hv]; simp
end Go.Proofs.YthfbkecnnllpkaaH

