import Derived.Test.YtcllfkplpdppiaaGreatRd1
import Derived.Test.YtcllfkplpdppiaaGreatRows
import Derived.Test.YtcllfkplpdppiaaGreatTg1
import Derived.Test.YtcllfkplpdppiaaGreatP1
import Derived.Test.YtcllfkplpdppiaaGreatX3
import Derived.WalkKit
import Derived.ProofKit
import Derived.OpenShut
import Derived.ShutString
import Derived.ChangeOld
import Derived.Below
import Derived.SizedLaws
namespace Go.Proofs.YtcllfkplpdppiaaGreat.fnExactEvaluateRewriting
open Go.ChangeShapes Go.WideShapes Go.ChangeAt Go.RowKit Go.Proofs.YtcllfkplpdppiaaGreatH
open Go.ChangeMaps (open_string shut_string)
set_option linter.unusedVariables false
theorem own : ownKnob Tryz.prog.godebug = none := by kernel_rfl
theorem laidOut : laidOutB Tryz.prog = true := by kernel_rfl
set_option maxRecDepth 100000 in
theorem lifted (os : Os) (started : os.Started) (H : Type) (enc : TypeId × Value → H) :
    ReturnsInHanded {} Tryz.checked os 3 .any (Rows.fnExactEvaluateRewritingSpec.pre6 enc Tryz.prog Tryz.f3 Rows.fnExactEvaluateRewritingRow.domain false) (Rows.fnExactEvaluateRewritingSpec.post enc Tryz.prog Tryz.f3 false true false false) := by
  refine returnsInHanded_of_change_sized (C := Tryz.checked) own started (by kernel_rfl) Tryz.func3
    (ChangeSpec.witness6 (enc := enc) (C := Tryz.checked) false ⟨#[], #[.agg #[.slice none 0 0, .slice none 0 0], .slice none 0 0, .slice none 0 0], []⟩ 8 (by kernel_rfl) (by kernel_rfl) (by kernel_rfl) (by kernel_rfl)) ?_
  intro W base args ds gs before hval0 hW hcnd hsz0 _
  have hval : ∀ (j : Nat) t v, Tryz.f3.params[j]? = some t → args[j]? = some v → Value.okWide Tryz.prog W .any base t v := hval0
  have hW' := hW
  obtain ⟨p, q, hA0, hV, rfl, hfz, hnd⟩ := hW
  have hA : DataW.TrodAll enc Tryz.prog W 0 (fun _ => true) true Tryz.f3.params.toList args.toList ds p := hA0
  rw [Tryz.params3] at hA hval
  obtain ⟨v0, vs0, d0, ds0, p0, q0, hargs, rfl, rfl, h0, r0⟩ := trodAll_cons hA
  obtain ⟨v1, vs1, d1, ds1, p1, q1, rfl, rfl, rfl, h1, r1⟩ := trodAll_cons r0
  obtain ⟨v2, vs2, d2, ds2, p2, q2, rfl, rfl, rfl, h2, r2⟩ := trodAll_cons r1
  obtain ⟨rfl, rfl, rfl⟩ := trodAll_nil r2
  obtain rfl : args = #[v0, v1, v2] := by cases args; simp_all
  obtain ⟨rfl, rfl⟩ := trodVars_none hV
  have k0 := h0
  have lt0 : ∀ x ∈ p0, x.block < W.heap.size := by obtain ⟨m, hm⟩ := k0; exact DataW.trod_lt m _ _ _ hm
  obtain ⟨m0, rfl, _⟩ := okWide_struct Tryz.underlying25 (hval 0 25 v0 rfl rfl)
  obtain ⟨x0, y0, s0⟩ : ∃ a, RdVs W (En.c eDatabase false a) (Value.cells (.agg m0)).toList ∧ ok a := by
    obtain ⟨fuel, hf⟩ := h0
    exact (reads_Database (by kernel_rfl) (by kernel_rfl) (by exact ⟨_, rfl, rfl, rfl, by kernel_rfl⟩) (by exact ⟨_, rfl, rfl, rfl, by kernel_rfl⟩) Tryz.underlying25 (reads_slice Tryz.underlying22 (by kernel_rfl) (reads_Relation (by kernel_rfl) (by kernel_rfl) (by exact ⟨_, rfl, rfl, rfl, by kernel_rfl⟩) (by exact ⟨_, rfl, rfl, rfl, by kernel_rfl⟩) (by exact ⟨_, rfl, rfl, rfl, by kernel_rfl⟩) Tryz.underlying114 (reads_str Tryz.underlying9) (reads_int Tryz.underlying3) (reads_int Tryz.underlying3))) (reads_slice Tryz.underlying23 (by kernel_rfl) (reads_Fact (by kernel_rfl) (by kernel_rfl) (by exact ⟨_, rfl, rfl, rfl, by kernel_rfl⟩) (by exact ⟨_, rfl, rfl, rfl, by kernel_rfl⟩) Tryz.underlying156 (reads_int Tryz.underlying3) (reads_slice Tryz.underlying27 (by kernel_rfl) (reads_int Tryz.underlying3))))) _ _ _ hf
  have k1 := h1
  have lt1 : ∀ x ∈ p1, x.block < W.heap.size := by obtain ⟨m, hm⟩ := k1; exact DataW.trod_lt m _ _ _ hm
  obtain ⟨a1, len1, cap1, rfl⟩ := okWide_slice Tryz.underlying26 (hval 1 26 v1 rfl rfl)
  obtain ⟨x1, y1, s1⟩ : ∃ a, RdVs W (En.c (eL eRewritingStep) false a) (Value.cells (.slice a1 len1 cap1)).toList ∧ ok a := by
    obtain ⟨fuel, hf⟩ := h1
    exact (reads_slice Tryz.underlying26 (by kernel_rfl) (reads_RewritingStep (by kernel_rfl) (by kernel_rfl) (by exact ⟨_, rfl, rfl, rfl, by kernel_rfl⟩) (by exact ⟨_, rfl, rfl, rfl, by kernel_rfl⟩) (by exact ⟨_, rfl, rfl, rfl, by kernel_rfl⟩) Tryz.underlying95 (reads_Atom (by kernel_rfl) (by kernel_rfl) (by exact ⟨_, rfl, rfl, rfl, by kernel_rfl⟩) (by exact ⟨_, rfl, rfl, rfl, by kernel_rfl⟩) Tryz.underlying93 (reads_int Tryz.underlying3) (reads_slice Tryz.underlying27 (by kernel_rfl) (reads_int Tryz.underlying3))) (reads_slice Tryz.underlying27 (by kernel_rfl) (reads_int Tryz.underlying3)) (reads_slice Tryz.underlying27 (by kernel_rfl) (reads_int Tryz.underlying3)))) _ _ _ hf
  have k2 := h2
  have lt2 : ∀ x ∈ p2, x.block < W.heap.size := by obtain ⟨m, hm⟩ := k2; exact DataW.trod_lt m _ _ _ hm
  obtain ⟨a2, len2, cap2, rfl⟩ := okWide_slice Tryz.underlying27 (hval 2 27 v2 rfl rfl)
  obtain ⟨x2, y2, s2⟩ : ∃ a, RdVs W (En.c (eL eI) false a) (Value.cells (.slice a2 len2 cap2)).toList ∧ ok a := by
    obtain ⟨fuel, hf⟩ := h2
    exact (reads_slice Tryz.underlying27 (by kernel_rfl) (reads_int Tryz.underlying3)) _ _ _ hf
  clear hA0 hval0 hsz0
  have hv := run_ (x := cx) (lawFnExactEvaluateRewriting x0 s0 x1 s1 x2 s2)
  refine (law_calls (P := Tryz.prog) (X := noExt) Tryz.checked.mixed tabOk (fun _ _ _ _ _ h => h.elim) (fun _ _ _ _ h => h) hv (W := W) (args := #[.agg m0, .slice a1 len1 cap1, .slice a2 len2 cap2]) (RdVs.append (rdvs_agg y0) (RdVs.append y1 (RdVs.append y2 (show RdVs W [] [] by rw [RdVs]))))).mono fun e W' ⟨he, bel⟩ => ?_
  subst he
  exact ⟨_, rfl, _, _, _, [], _, [], hW', trodAll_mk1 (shut_bool Tryz.underlying4 _), (trodAll_cons_mk (Below.trod laidOut (by kernel_rfl) (of_decide_eq_true (by kernel_rfl)) k0 bel lt0) (trodAll_cons_mk (Below.trod laidOut (by kernel_rfl) (of_decide_eq_true (by kernel_rfl)) k1 bel lt1) (trodAll_cons_mk (Below.trod laidOut (by kernel_rfl) (of_decide_eq_true (by kernel_rfl)) k2 bel lt2) trodAll_mk0))), rfl, bel.frame _, fun h => by cases h⟩
theorem over : Rows.fnExactEvaluateRewritingRow.holds Tryz.pinned (OpenSpec.ofChange Rows.fnExactEvaluateRewritingSpec) :=
  OpenClaim.holds_of_wide 3 Tryz.f3 rfl rfl rfl rfl rfl rfl rfl ⟨rfl, rfl, rfl, rfl, rfl⟩ rfl rfl rfl rfl rfl (by kernel_rfl) Tryz.func3 (by kernel_rfl)
    (of_decide_eq_true (by kernel_rfl)) (by unfold Func.isWrapper; first | (rw [if_pos (by decide +kernel)]; kernel_rfl) | (rw [if_neg (by decide +kernel)]; exact ⟨rfl, rfl⟩))
    (fun os started H enc _ => lifted os started H enc)
theorem proved : Rows.FnExactEvaluateRewritingSaid := over
#print axioms proved
end Go.Proofs.YtcllfkplpdppiaaGreat.fnExactEvaluateRewriting
namespace Go.Proofs.YtcllfkplpdppiaaGreat
theorem fnExactEvaluateRewriting_holds : Rows.FnExactEvaluateRewritingSaid := fnExactEvaluateRewriting.proved
end Go.Proofs.YtcllfkplpdppiaaGreat
