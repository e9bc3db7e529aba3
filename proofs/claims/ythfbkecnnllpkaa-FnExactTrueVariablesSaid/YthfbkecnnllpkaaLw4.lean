/- The program's TrueVariables returns what the reference's returns, for all arguments. -/
import Derived.Test.YthfbkecnnllpkaaRows
import Derived.Test.YthfbkecnnllpkaaEx7
import Derived.Test.YthfbkecnnllpkaaHm31
import Derived.WalkKit
import Derived.ProofKit
import Derived.OpenShut
import Derived.ShutString
import Derived.ChangeOld
import Derived.Below
import Derived.SizedLaws
namespace Go.Proofs.Ythfbkecnnllpkaa.fnExactTrueVariables
open Go.ChangeShapes Go.WideShapes Go.ChangeAt Go.RowKit Go.Proofs.YthfbkecnnllpkaaH
open Go.ChangeMaps (open_string shut_string)
set_option linter.unusedVariables false
theorem own : ownKnob Try.prog.godebug = none := by kernel_rfl
theorem laidOut : laidOutB Try.prog = true := by kernel_rfl
theorem bools_of : ∀ {us : List T}, (∀ u ∈ us, ∃ b, u = .bool b) → ∃ xs, us = bools xs
  | [], _ => ⟨[], rfl⟩
  | u :: us, h => by
    obtain ⟨b, rfl⟩ := h u (by simp)
    obtain ⟨xs, hxs⟩ := bools_of (us := us) fun w hw => h w (by simp [hw])
    exact ⟨b :: xs, by rw [hxs]; rfl⟩
set_option maxRecDepth 100000 in
theorem lifted (os : Os) (started : os.Started) (H : Type) (enc : TypeId × Value → H) :
    ReturnsInHanded {} Try.checked os 4 .any (Rows.fnExactTrueVariablesSpec.pre6 enc Try.prog Try.f4 Rows.fnExactTrueVariablesRow.domain false) (Rows.fnExactTrueVariablesSpec.post enc Try.prog Try.f4 false true false false) := by
  refine returnsInHanded_of_change_sized (C := Try.checked) own started (by kernel_rfl) Try.func4
    (ChangeSpec.witness6 (enc := enc) (C := Try.checked) false ⟨#[], #[.slice none 0 0], []⟩ 8 (by kernel_rfl) (by kernel_rfl) (by kernel_rfl) (by kernel_rfl)) ?_
  intro W base args ds gs before hval0 hW hcnd hsz0 _
  have hsz : (DataW.weightsEach Try.prog (Try.f4.params.toList ++ Rows.fnExactTrueVariablesSpec.plain.varTypes Try.prog) (ds ++ gs)).all (· ≤ reachBytes) = true := hsz0
  have hval : ∀ (j : Nat) t v, Try.f4.params[j]? = some t → args[j]? = some v → Value.okWide Try.prog W .any base t v := hval0
  have hW' := hW
  obtain ⟨p, q, hA0, hV, rfl, hfz, hnd⟩ := hW
  have hA : DataW.TrodAll enc Try.prog W 0 (fun _ => true) true Try.f4.params.toList args.toList ds p := hA0
  rw [Try.params4] at hA hval hsz
  obtain ⟨v0, vs0, d0, ds0, p0, q0, hargs, rfl, rfl, h0, r0⟩ := trodAll_cons hA
  obtain ⟨rfl, rfl, rfl⟩ := trodAll_nil r0
  obtain rfl : args = #[v0] := by cases args; simp_all
  obtain ⟨rfl, rfl⟩ := trodVars_none hV
  have k0 := h0
  have lt0 : ∀ x ∈ p0, x.block < W.heap.size := by obtain ⟨m, hm⟩ := k0; exact DataW.trod_lt m _ _ _ hm
  obtain ⟨a0, len0, cap0, rfl⟩ := okWide_slice Try.underlying27 (hval 0 27 v0 rfl rfl)
  obtain ⟨t, ht, hrd⟩ : ∃ t : T, (∃ xs, IsB t xs) ∧ RdV W t (.slice a0 len0 cap0) := by
    obtain ⟨fuel, hf⟩ := h0
    rcases rd_slice (G := fun u => ∃ b, u = .bool b) Try.underlying27 (by kernel_rfl) (fun n v y h => by
      obtain ⟨b, hb, _⟩ := DataW.trod_bool Try.underlying4 h
      simp only [List.cons.injEq, and_true] at hb
      exact ⟨.bool b, ⟨b, rfl⟩, by rw [RdV]; exact hb⟩) (v := .slice a0 len0 cap0) hf with h1 | ⟨us, h1, h2⟩
    · exact ⟨.nils, ⟨[], .inr ⟨rfl, rfl⟩⟩, h1⟩
    · obtain ⟨xs, rfl⟩ := bools_of h1
      exact ⟨_, ⟨xs, .inl rfl⟩, h2⟩
  clear hA0 hval0 hsz0 hsz
  obtain ⟨xs, hx⟩ := ht
  have hv : VJx cx (.ca 4 [t] (.bool true) []) := by
    rcases hx with rfl | ⟨rfl, hx⟩
    · exact law4 xs
    · exact law4n xs hx
  refine (law_calls (P := Try.prog) (X := fun _ _ _ _ _ => False) Try.checked.mixed tabOk (fun _ _ _ _ _ h => h.elim) (fun _ _ _ _ h => h.elim) hv (W := W) (args := #[.slice a0 len0 cap0]) (by rw [RdVs]; exact ⟨_, [], rfl, hrd, by rw [RdVs]⟩)).mono fun e W' ⟨he, bel⟩ => ?_
  subst he
  exact ⟨_, rfl, _, _, _, [], _, [], hW', trodAll_mk1 (shut_bool Try.underlying4 _), (trodAll_cons_mk (Below.trod laidOut (by kernel_rfl) (of_decide_eq_true (by kernel_rfl)) k0 bel lt0) trodAll_mk0), rfl, bel.frame _, fun h => by cases h⟩
theorem over : Rows.fnExactTrueVariablesRow.holds Try.pinned (OpenSpec.ofChange Rows.fnExactTrueVariablesSpec) :=
  OpenClaim.holds_of_wide 4 Try.f4 rfl rfl rfl rfl rfl rfl rfl ⟨rfl, rfl, rfl, rfl, rfl⟩ rfl rfl rfl rfl rfl (by kernel_rfl) Try.func4 (by kernel_rfl)
    (of_decide_eq_true (by kernel_rfl)) (by unfold Func.isWrapper; first | (rw [if_pos (by decide +kernel)]; kernel_rfl) | (rw [if_neg (by decide +kernel)]; exact ⟨rfl, rfl⟩))
    (fun os started H enc _ => lifted os started H enc)
theorem proved : Rows.FnExactTrueVariablesSaid := over
#print axioms proved
end Go.Proofs.Ythfbkecnnllpkaa.fnExactTrueVariables
namespace Go.Proofs.Ythfbkecnnllpkaa
/-- The row, under a short name, for the claim. -/
theorem fnExactTrueVariables_holds : Rows.FnExactTrueVariablesSaid := fnExactTrueVariables.proved
end Go.Proofs.Ythfbkecnnllpkaa
