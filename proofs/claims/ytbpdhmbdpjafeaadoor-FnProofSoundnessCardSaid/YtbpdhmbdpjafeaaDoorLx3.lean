import Derived.Test.YtbpdhmbdpjafeaaDoorSh1
import Derived.Test.YtbpdhmbdpjafeaaDoorCards
import Derived.Test.YtbpdhmbdpjafeaaDoorTie
import Derived.SevenTiedAt
import Derived.LaidMore
import Derived.LaidSub
import Derived.LaidLaws
import Derived.LaidHandle
import Derived.MakeChecks
import Derived.Lib.LaidTab
import Derived.Stop.Joined
import Derived.ChangeVars
import Derived.Test.YtbpdhmbdpjafeaaDoorRows
import Derived.Test.YtbpdhmbdpjafeaaDoorTg1
import Derived.Test.YtbpdhmbdpjafeaaDoorP1
import Derived.Test.YtbpdhmbdpjafeaaDoorX3
import Derived.WalkKit
import Derived.ProofKit
import Derived.OpenShut
import Derived.ShutString
import Derived.ChangeOld
import Derived.Below
import Derived.SizedLaws
namespace Go.Proofs.YtbpdhmbdpjafeaaDoor.fnProofSoundness
open Go.ChangeShapes Go.WideShapes Go.ChangeAt Go.RowKit Go.Proofs.YtbpdhmbdpjafeaaDoorH
open Go.ChangeMaps (open_string shut_string)
set_option linter.unusedVariables false
theorem own : ownKnob Tryd.prog.godebug = none := by kernel_rfl
theorem laidOut : laidOutB Tryd.prog = true := by kernel_rfl
theorem tabs_of {W : World} (h : laidMetH Tryd.prog Rows.fnProofSoundnessRow.laid W) : Tabs W.heap.size W := by
  rw [MakeChecks.laidMetH_plain _ _ _ (by kernel_rfl)] at h
  have h1 := h.filter (fun x => x.1 == "internal/strconv.uint64pow10")
  rw [show (Rows.fnProofSoundnessRow.laid.filter fun x => x.1 == "internal/strconv.uint64pow10") = [("internal/strconv.uint64pow10", Lib.tabData .u64 Lib.pow10Tab)] by kernel_rfl] at h1
  have hg : Tryd.prog.globalNamed "internal/strconv.uint64pow10" = some 1 := by kernel_rfl
  have hT := Lib.tabIs_of_head hg (show (Tryd.prog.globals[1]?).map (·.type) = some 98 by kernel_rfl) Tryd.underlying98 Tryd.underlying91 (by kernel_rfl) (by kernel_rfl) h1
  intro w' hb
  unfold Lib.TabIs World.var? at hT ⊢
  simp only [hg, Option.bind_some] at hT ⊢
  have hlt : 1 < W.heap.size := by
    rcases Nat.lt_or_ge 1 W.heap.size with h' | h'
    · exact h'
    · rw [Array.getElem?_eq_none h'] at hT; simp at hT
  rw [hb 1 hlt]
  exact hT
theorem door_met (os : Os) (args : Array Value) : laidMetH Tryd.prog Rows.fnProofSoundnessRow.laid ((World.doorLaid Tryd.prog 400 os).forCall (fun _ _ => 0) ⟨#[], args, []⟩).memory :=
  laidMetH_of_parts3 (fuel := 8) (laidMet_of_run' 8 (by kernel_rfl) (by kernel_rfl)) (by kernel_rfl) (by kernel_rfl)
set_option maxRecDepth 100000 in
theorem lifted (os : Os) (started : os.Started) (H : Type) (enc : TypeId × Value → H) :
    ReturnsInHanded {} Tryd.checked os 3 .any (fun w args => (Rows.fnProofSoundnessSpec.pre enc Tryd.prog Tryd.f3 Rows.fnProofSoundnessRow.domain false w args ∧ laidMetH Tryd.prog Rows.fnProofSoundnessRow.laid w) ∧ sizedMet enc Tryd.prog Tryd.f3 (OpenSpec.ofChange Rows.fnProofSoundnessSpec) false w args) (Rows.fnProofSoundnessSpec.post enc Tryd.prog Tryd.f3 false true false false) := by
  refine returnsInHanded_of_change_and (C := Tryd.checked) (X := fun w _ => laidMetH Tryd.prog Rows.fnProofSoundnessRow.laid w) (fun _ _ _ hh h => h.of_heap hh) own started (by kernel_rfl) Tryd.func3
    (ChangeSpec.witness_shaped (enc := enc) (C := Tryd.checked) (os := os) (X := fun w _ => laidMetH Tryd.prog Rows.fnProofSoundnessRow.laid w) false (World.doorLaid Tryd.prog 400 os) #[.slice none 0 0] 8 rfl (World.shaped_of_RefB (by kernel_rfl) (by kernel_rfl)) (by kernel_rfl) (by kernel_rfl) (by kernel_rfl) (door_met os _)) ?_
  intro W base args ds gs before hval0 hW hcnd hsz0 hL _
  have hval : ∀ (j : Nat) t v, Tryd.f3.params[j]? = some t → args[j]? = some v → Value.okWide Tryd.prog W .any base t v := hval0
  have hW' := hW
  obtain ⟨p, q, hA0, hV, rfl, hfz, hnd⟩ := hW
  have hA : DataW.TrodAll enc Tryd.prog W 0 (fun _ => true) true Tryd.f3.params.toList args.toList ds p := hA0
  rw [Tryd.params3] at hA hval
  obtain ⟨v0, vs0, d0, ds0, p0, q0, hargs, rfl, rfl, h0, r0⟩ := trodAll_cons hA
  obtain ⟨rfl, rfl, rfl⟩ := trodAll_nil r0
  obtain rfl : args = #[v0] := by cases args; simp_all
  obtain ⟨rfl, rfl⟩ := trodVars_none hV
  have k0 := h0
  have lt0 : ∀ x ∈ p0, x.block < W.heap.size := by obtain ⟨m, hm⟩ := k0; exact DataW.trod_lt m _ _ _ hm
  obtain ⟨a0, len0, cap0, rfl⟩ := okWide_slice Tryd.underlying22 (hval 0 22 v0 rfl rfl)
  obtain ⟨x0, y0, s0⟩ : ∃ a, RdVs W (En.c (eL eU) false a) (Value.cells (.slice a0 len0 cap0)).toList ∧ ok a := by
    obtain ⟨fuel, hf⟩ := h0
    exact (reads_slice Tryd.underlying22 (by kernel_rfl) (reads_int Tryd.underlying5)) _ _ _ hf
  clear hA0 hval0 hsz0
  have hv := run_ (x := cx) (lawFnProofSoundness x0 s0)
  refine (law_calls (P := Tryd.prog) (X := noExt) Tryd.checked.mixed tabOk extOk (fun _ _ _ _ h => h) hv (W := W) (args := #[.slice a0 len0 cap0]) (RdVs.append y0 (show RdVs W [] [] by rw [RdVs])) (tabs_of hL)).mono fun e W' ⟨he, bel⟩ => ?_
  subst he
  exact ⟨_, rfl, _, _, _, [], _, [], hW', trodAll_mk1 (shut_bool Tryd.underlying4 _), (trodAll_cons_mk (Below.trod laidOut (by kernel_rfl) (of_decide_eq_true (by kernel_rfl)) k0 bel lt0) trodAll_mk0), rfl, bel.frame _, fun h => by cases h⟩
theorem over : Rows.fnProofSoundnessRow.holds Tryd.pinned (OpenSpec.ofChange Rows.fnProofSoundnessSpec) :=
  OpenClaim.holds_of_wide 3 Tryd.f3 rfl rfl rfl rfl rfl rfl rfl ⟨rfl, rfl, rfl, rfl, rfl⟩ rfl rfl rfl rfl rfl (by kernel_rfl) Tryd.func3 (by kernel_rfl)
    (of_decide_eq_true (by kernel_rfl)) (by unfold Func.isWrapper; first | (rw [if_pos (by decide +kernel)]; kernel_rfl) | (rw [if_neg (by decide +kernel)]; exact ⟨rfl, rfl⟩))
    (fun os started H enc _ => lifted os started H enc)
theorem card : Rows.FnProofSoundnessCardSaid :=
  Claim7.holds_tied_plain_at .later [] _ true _ false
    over (fun _ h => by cases h) (by kernel_rfl) (fun _ h => by cases h) fnProofSoundness_row_tie rfl ⟨rfl, rfl⟩ (by kernel_rfl) rfl
    (fun f fn hf hfn => by
      obtain rfl : f = 3 := Option.some.inj ((show Tryd.prog.funcNamed Rows.fnProofSoundnessRow.func = some 3 by kernel_rfl).symm.trans hf) |>.symm
      obtain rfl : fn = Tryd.f3 := (Option.some.inj (Tryd.func3.symm.trans hfn)).symm
      exact ⟨by kernel_rfl, fun j t ht => by
        rw [Tryd.params3] at ht
        have ht' : t = 22 := by
          rcases j with _ | _
          · simp at ht; simp [← ht]
          · simp at ht
        rcases ht' with rfl
        · exact (show Tryd.prog.wantsStandIn 22 = false by kernel_rfl)⟩)
    (by kernel_rfl)
#print axioms card
end Go.Proofs.YtbpdhmbdpjafeaaDoor.fnProofSoundness
namespace Go.Proofs.YtbpdhmbdpjafeaaDoor
theorem fnProofSoundness_holds : Rows.FnProofSoundnessCardSaid := fnProofSoundness.card
end Go.Proofs.YtbpdhmbdpjafeaaDoor
