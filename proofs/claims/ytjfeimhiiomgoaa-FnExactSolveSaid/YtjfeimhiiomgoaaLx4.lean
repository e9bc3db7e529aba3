import Derived.Test.YtjfeimhiiomgoaaRows
import Derived.Test.YtjfeimhiiomgoaaTg1
import Derived.Test.YtjfeimhiiomgoaaP1
import Derived.Test.YtjfeimhiiomgoaaX3
import Derived.WalkKit
import Derived.ProofKit
import Derived.OpenShut
import Derived.ShutString
import Derived.ChangeOld
import Derived.Below
import Derived.SizedLaws
namespace Go.Proofs.Ytjfeimhiiomgoaa.fnExactSolve
open Go.ChangeShapes Go.WideShapes Go.ChangeAt Go.RowKit Go.Proofs.YtjfeimhiiomgoaaH
open Go.ChangeMaps (open_string shut_string)
set_option linter.unusedVariables false
theorem own : ownKnob Try.prog.godebug = none := by kernel_rfl
theorem laidOut : laidOutB Try.prog = true := by kernel_rfl
set_option maxRecDepth 100000 in
theorem lifted (os : Os) (started : os.Started) (H : Type) (enc : TypeId × Value → H) :
    ReturnsInHanded {} Try.checked os 4 .any (Rows.fnExactSolveSpec.pre6 enc Try.prog Try.f4 Rows.fnExactSolveRow.domain false) (Rows.fnExactSolveSpec.post enc Try.prog Try.f4 false true false false) := by
  refine returnsInHanded_of_change_sized (C := Try.checked) own started (by kernel_rfl) Try.func4
    (ChangeSpec.witness6 (enc := enc) (C := Try.checked) false ⟨#[], #[.int .i64 0, .slice none 0 0], []⟩ 8 (by kernel_rfl) (by kernel_rfl) (by kernel_rfl) (by kernel_rfl)) ?_
  intro W base args ds gs before hval0 hW hcnd hsz0 _
  have hval : ∀ (j : Nat) t v, Try.f4.params[j]? = some t → args[j]? = some v → Value.okWide Try.prog W .any base t v := hval0
  have hW' := hW
  obtain ⟨p, q, hA0, hV, rfl, hfz, hnd⟩ := hW
  have hA : DataW.TrodAll enc Try.prog W 0 (fun _ => true) true Try.f4.params.toList args.toList ds p := hA0
  rw [Try.params4] at hA hval
  obtain ⟨v0, vs0, d0, ds0, p0, q0, hargs, rfl, rfl, h0, r0⟩ := trodAll_cons hA
  obtain ⟨v1, vs1, d1, ds1, p1, q1, rfl, rfl, rfl, h1, r1⟩ := trodAll_cons r0
  obtain ⟨rfl, rfl, rfl⟩ := trodAll_nil r1
  obtain rfl : args = #[v0, v1] := by cases args; simp_all
  obtain ⟨rfl, rfl⟩ := trodVars_none hV
  have k0 := h0
  have lt0 : ∀ x ∈ p0, x.block < W.heap.size := by obtain ⟨m, hm⟩ := k0; exact DataW.trod_lt m _ _ _ hm
  obtain ⟨m0, rfl⟩ := okWide_int Try.underlying3 (hval 0 3 v0 rfl rfl)
  obtain ⟨x0, y0, s0⟩ : ∃ a, RdVs W (En.c eI false a) (Value.cells (.int .i64 m0)).toList ∧ ok a := by
    obtain ⟨fuel, hf⟩ := h0
    exact (reads_int Try.underlying3) _ _ _ hf
  have k1 := h1
  have lt1 : ∀ x ∈ p1, x.block < W.heap.size := by obtain ⟨m, hm⟩ := k1; exact DataW.trod_lt m _ _ _ hm
  obtain ⟨a1, len1, cap1, rfl⟩ := okWide_slice Try.underlying24 (hval 1 24 v1 rfl rfl)
  obtain ⟨x1, y1, s1⟩ : ∃ a, RdVs W (En.c (eL (eL eI)) false a) (Value.cells (.slice a1 len1 cap1)).toList ∧ ok a := by
    obtain ⟨fuel, hf⟩ := h1
    exact (reads_slice Try.underlying24 (by kernel_rfl) (reads_slice Try.underlying42 (by kernel_rfl) (reads_int Try.underlying3))) _ _ _ hf
  clear hA0 hval0 hsz0
  have hv := run_ (x := cx) (lawFnExactSolve x0 s0 x1 s1)
  refine (law_calls (P := Try.prog) (X := noExt) Try.checked.mixed tabOk (fun _ _ _ _ _ h => h.elim) (fun _ _ _ _ h => h) hv (W := W) (args := #[.int .i64 m0, .slice a1 len1 cap1]) (RdVs.append y0 (RdVs.append y1 (show RdVs W [] [] by rw [RdVs])))).mono fun e W' ⟨he, bel⟩ => ?_
  subst he
  exact ⟨_, rfl, _, _, _, [], _, [], hW', trodAll_mk1 (shut_bool Try.underlying4 _), (trodAll_cons_mk (Below.trod laidOut (by kernel_rfl) (of_decide_eq_true (by kernel_rfl)) k0 bel lt0) (trodAll_cons_mk (Below.trod laidOut (by kernel_rfl) (of_decide_eq_true (by kernel_rfl)) k1 bel lt1) trodAll_mk0)), rfl, bel.frame _, fun h => by cases h⟩
theorem over : Rows.fnExactSolveRow.holds Try.pinned (OpenSpec.ofChange Rows.fnExactSolveSpec) :=
  OpenClaim.holds_of_wide 4 Try.f4 rfl rfl rfl rfl rfl rfl rfl ⟨rfl, rfl, rfl, rfl, rfl⟩ rfl rfl rfl rfl rfl (by kernel_rfl) Try.func4 (by kernel_rfl)
    (of_decide_eq_true (by kernel_rfl)) (by unfold Func.isWrapper; first | (rw [if_pos (by decide +kernel)]; kernel_rfl) | (rw [if_neg (by decide +kernel)]; exact ⟨rfl, rfl⟩))
    (fun os started H enc _ => lifted os started H enc)
theorem proved : Rows.FnExactSolveSaid := over
#print axioms proved
end Go.Proofs.Ytjfeimhiiomgoaa.fnExactSolve
namespace Go.Proofs.Ytjfeimhiiomgoaa
theorem fnExactSolve_holds : Rows.FnExactSolveSaid := fnExactSolve.proved
end Go.Proofs.Ytjfeimhiiomgoaa
