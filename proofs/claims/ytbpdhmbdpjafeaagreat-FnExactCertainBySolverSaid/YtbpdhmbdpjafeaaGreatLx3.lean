import Derived.Test.YtbpdhmbdpjafeaaGreatRd1
import Derived.Test.YtbpdhmbdpjafeaaGreatSh1
import Derived.Test.YtbpdhmbdpjafeaaGreatRows
import Derived.Test.YtbpdhmbdpjafeaaGreatTg1
import Derived.Test.YtbpdhmbdpjafeaaGreatP1
import Derived.Test.YtbpdhmbdpjafeaaGreatX3
import Derived.WalkKit
import Derived.ProofKit
import Derived.OpenShut
import Derived.ShutString
import Derived.ChangeOld
import Derived.Below
import Derived.SizedLaws
namespace Go.Proofs.YtbpdhmbdpjafeaaGreat.fnExactCertainBySolver
open Go.ChangeShapes Go.WideShapes Go.ChangeAt Go.RowKit Go.Proofs.YtbpdhmbdpjafeaaGreatH
open Go.ChangeMaps (open_string shut_string)
set_option linter.unusedVariables false
theorem own : ownKnob Tryz.prog.godebug = none := by kernel_rfl
theorem laidOut : laidOutB Tryz.prog = true := by kernel_rfl
set_option maxRecDepth 100000 in
theorem lifted (os : Os) (started : os.Started) (H : Type) (enc : TypeId × Value → H) :
    ReturnsInHanded {} Tryz.checked os 3 .any (Rows.fnExactCertainBySolverSpec.pre6 enc Tryz.prog Tryz.f3 Rows.fnExactCertainBySolverRow.domain false) (Rows.fnExactCertainBySolverSpec.post enc Tryz.prog Tryz.f3 false true false false) := by
  refine returnsInHanded_of_change_sized (C := Tryz.checked) own started (by kernel_rfl) Tryz.func3
    (ChangeSpec.witness6 (enc := enc) (C := Tryz.checked) false ⟨#[], #[.agg #[.slice none 0 0, .slice none 0 0], .agg #[.int .i64 0, .slice none 0 0, .slice none 0 0]], []⟩ 8 (by kernel_rfl) (by kernel_rfl) (by kernel_rfl) (by kernel_rfl)) ?_
  intro W base args ds gs before hval0 hW hcnd hsz0 _
  have hval : ∀ (j : Nat) t v, Tryz.f3.params[j]? = some t → args[j]? = some v → Value.okWide Tryz.prog W .any base t v := hval0
  have hW' := hW
  obtain ⟨p, q, hA0, hV, rfl, hfz, hnd⟩ := hW
  have hA : DataW.TrodAll enc Tryz.prog W 0 (fun _ => true) true Tryz.f3.params.toList args.toList ds p := hA0
  rw [Tryz.params3] at hA hval
  obtain ⟨v0, vs0, d0, ds0, p0, q0, hargs, rfl, rfl, h0, r0⟩ := trodAll_cons hA
  obtain ⟨v1, vs1, d1, ds1, p1, q1, rfl, rfl, rfl, h1, r1⟩ := trodAll_cons r0
  obtain ⟨rfl, rfl, rfl⟩ := trodAll_nil r1
  obtain rfl : args = #[v0, v1] := by cases args; simp_all
  obtain ⟨rfl, rfl⟩ := trodVars_none hV
  have k0 := h0
  have lt0 : ∀ x ∈ p0, x.block < W.heap.size := by obtain ⟨m, hm⟩ := k0; exact DataW.trod_lt m _ _ _ hm
  obtain ⟨m0, rfl, _⟩ := okWide_struct Tryz.underlying25 (hval 0 25 v0 rfl rfl)
  obtain ⟨x0, y0, s0⟩ : ∃ a, RdVs W (En.c eDatabase false a) (Value.cells (.agg m0)).toList ∧ ok a := by
    obtain ⟨fuel, hf⟩ := h0
    exact (reads_Database (by kernel_rfl) (by kernel_rfl) (by exact ⟨_, rfl, rfl, rfl, by kernel_rfl⟩) (by exact ⟨_, rfl, rfl, rfl, by kernel_rfl⟩) Tryz.underlying25 (reads_slice Tryz.underlying22 (by kernel_rfl) (reads_Relation (by kernel_rfl) (by kernel_rfl) (by exact ⟨_, rfl, rfl, rfl, by kernel_rfl⟩) (by exact ⟨_, rfl, rfl, rfl, by kernel_rfl⟩) (by exact ⟨_, rfl, rfl, rfl, by kernel_rfl⟩) Tryz.underlying76 (reads_str Tryz.underlying9) (reads_int Tryz.underlying3) (reads_int Tryz.underlying3))) (reads_slice Tryz.underlying23 (by kernel_rfl) (reads_Fact (by kernel_rfl) (by kernel_rfl) (by exact ⟨_, rfl, rfl, rfl, by kernel_rfl⟩) (by exact ⟨_, rfl, rfl, rfl, by kernel_rfl⟩) Tryz.underlying79 (reads_int Tryz.underlying3) (reads_slice Tryz.underlying27 (by kernel_rfl) (reads_int Tryz.underlying3))))) _ _ _ hf
  have k1 := h1
  have lt1 : ∀ x ∈ p1, x.block < W.heap.size := by obtain ⟨m, hm⟩ := k1; exact DataW.trod_lt m _ _ _ hm
  obtain ⟨m1, rfl, _⟩ := okWide_struct Tryz.underlying29 (hval 1 29 v1 rfl rfl)
  obtain ⟨x1, y1, s1⟩ : ∃ a, RdVs W (En.c eQuery false a) (Value.cells (.agg m1)).toList ∧ ok a := by
    obtain ⟨fuel, hf⟩ := h1
    exact (reads_Query (by kernel_rfl) (by kernel_rfl) (by exact ⟨_, rfl, rfl, rfl, by kernel_rfl⟩) (by exact ⟨_, rfl, rfl, rfl, by kernel_rfl⟩) (by exact ⟨_, rfl, rfl, rfl, by kernel_rfl⟩) Tryz.underlying29 (reads_int Tryz.underlying3) (reads_slice Tryz.underlying26 (by kernel_rfl) (reads_Atom (by kernel_rfl) (by kernel_rfl) (by exact ⟨_, rfl, rfl, rfl, by kernel_rfl⟩) (by exact ⟨_, rfl, rfl, rfl, by kernel_rfl⟩) Tryz.underlying82 (reads_int Tryz.underlying3) (reads_slice Tryz.underlying27 (by kernel_rfl) (reads_int Tryz.underlying3)))) (reads_slice Tryz.underlying27 (by kernel_rfl) (reads_int Tryz.underlying3))) _ _ _ hf
  clear hA0 hval0 hsz0
  have hv := run_ (x := cx) (lawFnExactCertainBySolver x0 s0 x1 s1)
  refine (law_calls (P := Tryz.prog) (X := noExt) Tryz.checked.mixed tabOk extOk (fun _ _ _ _ h => h) hv (W := W) (args := #[.agg m0, .agg m1]) (RdVs.append (rdvs_agg y0) (RdVs.append (rdvs_agg y1) (show RdVs W [] [] by rw [RdVs])))).mono fun e W' ⟨he, bel⟩ => ?_
  subst he
  exact ⟨_, rfl, _, _, _, [], _, [], hW', trodAll_mk1 (shut_bool Tryz.underlying4 _), (trodAll_cons_mk (Below.trod laidOut (by kernel_rfl) (of_decide_eq_true (by kernel_rfl)) k0 bel lt0) (trodAll_cons_mk (Below.trod laidOut (by kernel_rfl) (of_decide_eq_true (by kernel_rfl)) k1 bel lt1) trodAll_mk0)), rfl, bel.frame _, fun h => by cases h⟩
theorem over : Rows.fnExactCertainBySolverRow.holds Tryz.pinned (OpenSpec.ofChange Rows.fnExactCertainBySolverSpec) :=
  OpenClaim.holds_of_wide 3 Tryz.f3 rfl rfl rfl rfl rfl rfl rfl ⟨rfl, rfl, rfl, rfl, rfl⟩ rfl rfl rfl rfl rfl (by kernel_rfl) Tryz.func3 (by kernel_rfl)
    (of_decide_eq_true (by kernel_rfl)) (by unfold Func.isWrapper; first | (rw [if_pos (by decide +kernel)]; kernel_rfl) | (rw [if_neg (by decide +kernel)]; exact ⟨rfl, rfl⟩))
    (fun os started H enc _ => lifted os started H enc)
theorem proved : Rows.FnExactCertainBySolverSaid := over
#print axioms proved
end Go.Proofs.YtbpdhmbdpjafeaaGreat.fnExactCertainBySolver
namespace Go.Proofs.YtbpdhmbdpjafeaaGreat
theorem fnExactCertainBySolver_holds : Rows.FnExactCertainBySolverSaid := fnExactCertainBySolver.proved
end Go.Proofs.YtbpdhmbdpjafeaaGreat
