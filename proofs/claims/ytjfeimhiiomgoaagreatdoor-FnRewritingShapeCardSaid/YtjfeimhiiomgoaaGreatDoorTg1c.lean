import Derived.Test.YtjfeimhiiomgoaaGreatDoorTg1b
set_option maxHeartbeats 2000000
set_option linter.unusedVariables false
set_option linter.unusedSimpArgs false
set_option linter.defProp false
set_option linter.unusedSectionVars false
set_option maxRecDepth 100000
namespace Go.Proofs.YtjfeimhiiomgoaaGreatDoorH
open Go
noncomputable section
variable {o4 : ((List Relation) × Query)} {o6 : ((List RewritingStep) × Bool)} {o1 o3 o5 : (Int × L1Cur)} {slices : (List (List Int))} {o24 : (List (List UInt8))} {atoms : (List Atom)} {a b code free indices l_43 not o19 o7 o9 plus_38 terms variables want : (List Int)} {l relations : (List Relation)} {f rewriting : (List RewritingStep)} {name s0 s1 : (List UInt8)} {atom : Atom} {from2 high i i_15 i_17 i_27 i_7 k low n n0 n1 n_12 n_17 n_40 sign skip t to v v_19 x : Int} {c : L1Cur} {q query : Query}
theorem r52_1 : ∀ zs zo, iter (f52_1 relations query v_19) zs = some zo -> Wc cx 77 (.loop L52_1) [(0, .v (ssl eRelation relations)), (3, .v (iT to)), (5, .v (.ptr true [(iT query.VariableCount), (ssl eAtom query.Atoms), (ssl eI query.Free)])), (10, .v (osl eB true zs.1)), (11, .v (.slo 1 (arr eI true zs.2.1))), (12, .v (iT v_19)), (49, .v (iT (query.Atoms.length : Int))), (50, .v (iT zs.2.2))] ((QX 2 (fun (y : (List Bool) × (List Int)) => [(0, .v (ssl eRelation relations)), (3, .v (iT to)), (5, .v (.ptr true [(iT query.VariableCount), (ssl eAtom query.Atoms), (ssl eI query.Free)])), (10, .v (osl eB true y.1)), (11, .v (.slo 1 (arr eI true y.2)))])) zo) := by
 intro zs0 zo0 zh0
 refine Wc.postG ?_
 refine iter_run (f := (f52_1 relations query v_19)) (P := fun zs zo => Wc cx 77 (.loop L52_1) [(0, .v (ssl eRelation relations)), (3, .v (iT to)), (5, .v (.ptr true [(iT query.VariableCount), (ssl eAtom query.Atoms), (ssl eI query.Free)])), (10, .v (osl eB true zs.1)), (11, .v (.slo 1 (arr eI true zs.2.1))), (12, .v (iT v_19)), (49, .v (iT (query.Atoms.length : Int))), (50, .v (iT zs.2.2))] (fun ex V => ∃ V2, VLe V V2 /\ (QX 2 (fun (y : (List Bool) × (List Int)) => [(0, .v (ssl eRelation relations)), (3, .v (iT to)), (5, .v (.ptr true [(iT query.VariableCount), (ssl eAtom query.Atoms), (ssl eI query.Free)])), (10, .v (osl eB true y.1)), (11, .v (.slo 1 (arr eI true y.2)))])) zo ex V2)) ?_ zh0
 rintro ⟨reached_23, todo_24, x_25⟩ zo zr h hk hx
 try dsimp only at hk ⊢
 rw [f52_1] at h
 refine Wc.loop ?_
 refine Wc.seq ?_
 refine Wc.evs (by conv => lhs; simp [-aI_app0, -aB_app0, -aS_app0, -aL_app0, -aI_app10, -aB_app10, -aS_app10, -aLt_app10I, -aLf_app10I, -aLt_app1I, -aLf_app1I]) ?_
 refine Wo.nil ?_
 refine Wc.seq ?_
 by_cases kc26 : x_25 < (query.Atoms.length : Int)
 ·rw [if_pos kc26] at h
  refine Wc.condT' (t := _) (by conv => lhs; simp) (by simpa using kc26) ?_
  refine Wc.seq ?_
  refine Wc.kil (by conv => lhs; simp) ?_
  refine Wc.skip ?_
  refine Wc.seq ?_
  refine Wc.block ?_
  refine Wc.seq ?_
  refine Wc.evs (by conv => lhs; simp [-aI_app0, -aB_app0, -aS_app0, -aL_app0, -aI_app10, -aB_app10, -aS_app10, -aLt_app10I, -aLf_app10I, -aLt_app1I, -aLf_app1I]) ?_
  refine Wo.nil ?_
  refine Wc.seq ?_
  obtain ⟨v_27, h28, h⟩ := bind_some h
  obtain ⟨ga28, gb28, gc28⟩ := ix_some h28
  have gn28 := ix_ne h28
  have gf28 := arr_fit (E := eB) (b := true) (i := x_25.toNat) (l := reached_23) (by omega)
  have gg28_0 := arr_get (E := eB) (b := true) (o := 0) gc28 (by decide)
  simp at gf28 gg28_0
  have gl28 : x_25.toNat < reached_23.length := by omega
  refine Wc.evk 6 (by conv => lhs; simp [-aI_app0, -aB_app0, -aS_app0, -aL_app0, -aI_app10, -aB_app10, -aS_app10, -aLt_app10I, -aLf_app10I, -aLt_app1I, -aLf_app1I, -getElem?_pos, List.getElem?_cons_zero, List.getElem?_cons_succ, ga28, gb28, gn28, gf28, gg28_0, gl28]) ?_
  obtain ⟨w30, h31, h⟩ := bind_some h
  refine Wo.monoG (Q := fun V => V = [(0, .v (ssl eRelation relations)), (3, .v (iT to)), (5, .v (.ptr true [(iT query.VariableCount), (ssl eAtom query.Atoms), (ssl eI query.Free)])), (10, .v (osl eB true reached_23)), (11, .v (.slo 1 (arr eI true todo_24))), (12, .v (iT v_19)), (13, .v (iT x_25)), (49, .v (iT (query.Atoms.length : Int))), (50, .v (iT x_25)), (64, .v (.bool w30))]) ?_ ?_
  ·by_cases knh31 : ¬ (v_27 = true)
   ·rw [if_pos knh31] at h31
    refine Wo.gh (vle_co (s := 58) (t1 := .bool true) rfl (by simp) (tle_bool (by simpa using knh31)) (by conv => lhs; simp)) ?_
    refine Wo.evs (by conv => lhs; simp [-aI_app0, -aB_app0, -aS_app0, -aL_app0, -aI_app10, -aB_app10, -aS_app10, -aLt_app10I, -aLf_app10I, -aLt_app1I, -aLf_app1I, -getElem?_pos, List.getElem?_cons_zero, List.getElem?_cons_succ, ga28, gb28, gn28, gf28, gg28_0, gl28]) ?_
    obtain ⟨o32, h33, h31⟩ := bind_some h31
    refine Wo.call (by simp [-aI_app0, -aB_app0, -aS_app0, -aL_app0, -aI_app10, -aB_app10, -aS_app10, -aLt_app10I, -aLf_app10I, -aLt_app1I, -aLf_app1I, -getElem?_pos, List.getElem?_cons_zero, List.getElem?_cons_succ, ga28, gb28, gn28, gf28, gg28_0, gl28]) rfl (by (conv => lhs; simp [-aI_app0, -aB_app0, -aS_app0, -aL_app0, -aI_app10, -aB_app10, -aS_app10, -aLt_app10I, -aLf_app10I, -aLt_app1I, -aLf_app1I, -getElem?_pos, List.getElem?_cons_zero, List.getElem?_cons_succ, ga28, gb28, gn28, gf28, gg28_0, gl28, cx, ioTab]) <;> rfl) (run_ h33) (by simp) (by simp) (by (conv => lhs; simp [-aI_app0, -aB_app0, -aS_app0, -aL_app0, -aI_app10, -aB_app10, -aS_app10, -aLt_app10I, -aLf_app10I, -aLt_app1I, -aLf_app1I, -getElem?_pos, List.getElem?_cons_zero, List.getElem?_cons_succ, ga28, gb28, gn28, gf28, gg28_0, gl28, cx, ioTab]) <;> rfl) (by (conv => lhs; simp [-aI_app0, -aB_app0, -aS_app0, -aL_app0, -aI_app10, -aB_app10, -aS_app10, -aLt_app10I, -aLf_app10I, -aLt_app1I, -aLf_app1I, -getElem?_pos, List.getElem?_cons_zero, List.getElem?_cons_succ, ga28, gb28, gn28, gf28, gg28_0, gl28]) <;> rfl) ?_
    refine Wo.evs (by conv => lhs; simp [-aI_app0, -aB_app0, -aS_app0, -aL_app0, -aI_app10, -aB_app10, -aS_app10, -aLt_app10I, -aLf_app10I, -aLt_app1I, -aLf_app1I, -getElem?_pos, List.getElem?_cons_zero, List.getElem?_cons_succ, ga28, gb28, gn28, gf28, gg28_0, gl28]) ?_
    refine Wo.nil ?_
    cases h31
    refine ⟨_, (VLe.refl _), ?_⟩
    first | rfl | simp [-aI_app0, -aB_app0, -aS_app0, -aL_app0, -aI_app10, -aB_app10, -aS_app10, -aLt_app10I, -aLf_app10I, -aLt_app1I, -aLf_app1I, -getElem?_pos, List.getElem?_cons_zero, List.getElem?_cons_succ, ga28, gb28, gn28, gf28, gg28_0, gl28]
   ·rw [if_neg knh31] at h31
    refine Wo.gh (vle_co (s := 58) (t1 := .bool false) rfl (by simp) (tle_bool (by simpa using knh31)) (by conv => lhs; simp)) ?_
    refine Wo.evs (by conv => lhs; simp [-aI_app0, -aB_app0, -aS_app0, -aL_app0, -aI_app10, -aB_app10, -aS_app10, -aLt_app10I, -aLf_app10I, -aLt_app1I, -aLf_app1I, -getElem?_pos, List.getElem?_cons_zero, List.getElem?_cons_succ, ga28, gb28, gn28, gf28, gg28_0, gl28]) ?_
    refine Wo.nil ?_
    cases h31
    refine ⟨_, (VLe.refl _), ?_⟩
    first | rfl | simp [-aI_app0, -aB_app0, -aS_app0, -aL_app0, -aI_app10, -aB_app10, -aS_app10, -aLt_app10I, -aLf_app10I, -aLt_app1I, -aLf_app1I, -getElem?_pos, List.getElem?_cons_zero, List.getElem?_cons_succ, ga28, gb28, gn28, gf28, gg28_0, gl28]
  ·rintro V rfl
   generalize w30 = x_29 at *
   try dsimp only at h
   obtain ⟨w34, h35, h⟩ := bind_some h
   refine Wc.monoG (Q := (QN (fun (y : (List Bool) × (List Int)) => [(0, .v (ssl eRelation relations)), (3, .v (iT to)), (5, .v (.ptr true [(iT query.VariableCount), (ssl eAtom query.Atoms), (ssl eI query.Free)])), (10, .v (osl eB true y.1)), (11, .v (.slo 1 (arr eI true y.2))), (12, .v (iT v_19)), (49, .v (iT (query.Atoms.length : Int))), (50, .v (iT x_25))])) w34) ?_ ?_
   ·skip
    by_cases kc36 : x_29 = true
    ·rw [if_pos kc36] at h35
     refine Wc.condT' (t := _) (by conv => lhs; simp) (by simpa using kc36) ?_
     refine Wc.seq ?_
     refine Wc.kil (by conv => lhs; simp) ?_
     refine Wc.seq ?_
     have gy37 := lay_set (E := eB) (b := true) (i := x_25.toNat) (l := reached_23) true (by omega)
     simp at gy37
     refine Wc.evs (by conv => lhs; simp [-aI_app0, -aB_app0, -aS_app0, -aL_app0, -aI_app10, -aB_app10, -aS_app10, -aLt_app10I, -aLf_app10I, -aLt_app1I, -aLf_app1I, -getElem?_pos, List.getElem?_cons_zero, List.getElem?_cons_succ, ga28, gb28, gn28, gf28, gg28_0, gl28, gy37]) ?_
     refine Wo.nil ?_
     obtain ⟨l_38, h39, h35⟩ := bind_some h35
     refine Wc.evk 3 (by conv => lhs; simp [-aI_app0, -aB_app0, -aS_app0, -aL_app0, -aI_app10, -aB_app10, -aS_app10, -aLt_app10I, -aLf_app10I, -aLt_app1I, -aLf_app1I]) ?_
     refine Wo.sem (by simp) (by simp) (by simp) (sem_sappL (E := eI) (b' := false) h39 (by simp) (by decide) rfl (by (conv => lhs; simp) <;> rfl) (by (conv => lhs; simp) <;> rfl)) (by conv => lhs; simp) ?_
     refine Wo.evs (by conv => lhs; simp [-aI_app0, -aB_app0, -aS_app0, -aL_app0, -aI_app10, -aB_app10, -aS_app10, -aLt_app10I, -aLf_app10I, -aLt_app1I, -aLf_app1I]) ?_
     refine Wo.gh (vle_co (s := 11) (t1 := (osl eI true l_38)) rfl (by simp) (tle_own rfl) (by conv => lhs; simp)) ?_
     refine Wo.nil ?_
     cases h35
     exact ⟨_, (vle_of (vle_pf (s := 11) (t1 := (.slo 1 (arr eI true l_38))) rfl (by simp) (PF.le (TLe.slo rfl)) (by conv => lhs; simp)) (VLe.refl _)), rfl, by first | rfl | simp [-aI_app0, -aB_app0, -aS_app0, -aL_app0, -aI_app10, -aB_app10, -aS_app10, -aLt_app10I, -aLf_app10I, -aLt_app1I, -aLf_app1I]⟩
    ·rw [if_neg kc36] at h35
     refine Wc.condF' (t := _) (by conv => lhs; simp) (by simpa using kc36) ?_
     refine Wc.seq ?_
     refine Wc.kil (by conv => lhs; simp) ?_
     refine Wc.skip ?_
     cases h35
     exact ⟨_, (VLe.refl _), rfl, by first | rfl | simp [-aI_app0, -aB_app0, -aS_app0, -aL_app0, -aI_app10, -aB_app10, -aS_app10, -aLt_app10I, -aLf_app10I, -aLt_app1I, -aLf_app1I, -getElem?_pos, List.getElem?_cons_zero, List.getElem?_cons_succ, ga28, gb28, gn28, gf28, gg28_0, gl28]⟩
   ·skip
    obtain ⟨reached_40, todo_41⟩ := w34
    rintro ex V ⟨rfl, rfl⟩
    dsimp only at h ⊢
    refine Wc.evs (by conv => lhs; simp [-aI_app0, -aB_app0, -aS_app0, -aL_app0, -aI_app10, -aB_app10, -aS_app10, -aLt_app10I, -aLf_app10I, -aLt_app1I, -aLf_app1I]) ?_
    refine Wo.nil ?_
    refine Wc.start (V1 := [(0, .v (ssl eRelation relations)), (3, .v (iT to)), (5, .v (.ptr true [(iT query.VariableCount), (ssl eAtom query.Atoms), (ssl eI query.Free)])), (10, .v (osl eB true reached_40)), (11, .v (.slo 1 (arr eI true todo_41))), (12, .v (iT v_19)), (49, .v (iT (query.Atoms.length : Int))), (50, .v (iT (w64 (x_25 + 1))))]) ?_ (hk _ (Option.some.inj h).symm)
    first | rfl | simp [-aI_app0, -aB_app0, -aS_app0, -aL_app0, -aI_app10, -aB_app10, -aS_app10, -aLt_app10I, -aLf_app10I, -aLt_app1I, -aLf_app1I]
 ·rw [if_neg kc26] at h
  refine Wc.condF' (t := _) (by conv => lhs; simp) (by simpa using kc26) ?_
  refine Wc.seq ?_
  refine Wc.kil (by conv => lhs; simp) ?_
  refine Wc.exit ?_
  have e0 := hx _ (Option.some.inj h).symm
  subst e0
  exact ⟨_, (VLe.refl _), rfl, by first | rfl | simp [-aI_app0, -aB_app0, -aS_app0, -aL_app0, -aI_app10, -aB_app10, -aS_app10, -aLt_app10I, -aLf_app10I, -aLt_app1I, -aLf_app1I]⟩
theorem r52_0 : ∀ zs zo, iter (f52_0 relations query) zs = some zo -> Wc cx 77 (.loop L52_0) [(0, .v (ssl eRelation relations)), (3, .v (iT to)), (5, .v (.ptr true [(iT query.VariableCount), (ssl eAtom query.Atoms), (ssl eI query.Free)])), (10, .v (osl eB true zs.1)), (11, .v (.slo 1 (arr eI true zs.2)))] ((QX 0 (fun (y : (List Bool)) => [(3, .v (iT to)), (10, .v (osl eB true y))])) zo) := by
 intro zs0 zo0 zh0
 refine Wc.postG ?_
 refine iter_run (f := (f52_0 relations query)) (P := fun zs zo => Wc cx 77 (.loop L52_0) [(0, .v (ssl eRelation relations)), (3, .v (iT to)), (5, .v (.ptr true [(iT query.VariableCount), (ssl eAtom query.Atoms), (ssl eI query.Free)])), (10, .v (osl eB true zs.1)), (11, .v (.slo 1 (arr eI true zs.2)))] (fun ex V => ∃ V2, VLe V V2 /\ (QX 0 (fun (y : (List Bool)) => [(3, .v (iT to)), (10, .v (osl eB true y))])) zo ex V2)) ?_ zh0
 rintro ⟨reached_16, todo_17⟩ zo zr h hk hx
 try dsimp only at hk ⊢
 rw [f52_0] at h
 refine Wc.loop ?_
 refine Wc.seq ?_
 refine Wc.seq ?_
 refine Wc.evk 1 (by conv => lhs; simp [-aI_app0, -aB_app0, -aS_app0, -aL_app0, -aI_app10, -aB_app10, -aS_app10, -aLt_app10I, -aLf_app10I, -aLt_app1I, -aLf_app1I]) ?_
 refine Wo.sem (by simp) (by simp) (by simp) (sem_slenL (E := eI) (l := todo_17) (by (conv => lhs; simp) <;> rfl)) (by conv => lhs; simp) ?_
 refine Wo.evs (by conv => lhs; simp [-aI_app0, -aB_app0, -aS_app0, -aL_app0, -aI_app10, -aB_app10, -aS_app10, -aLt_app10I, -aLf_app10I, -aLt_app1I, -aLf_app1I]) ?_
 refine Wo.nil ?_
 by_cases kc18 : (todo_17.length : Int) > 0
 ·rw [if_pos kc18] at h
  refine Wc.condT' (t := _) (by conv => lhs; simp) (by simpa using kc18) ?_
  refine Wc.seq ?_
  refine Wc.kil (by conv => lhs; simp) ?_
  refine Wc.skip ?_
  refine Wc.block ?_
  refine Wc.seq ?_
  refine Wc.reg ?_
  obtain ⟨v_19, h20, h⟩ := bind_some h
  obtain ⟨ga20, gb20, gc20⟩ := ix_some h20
  have gn20 := ix_ne h20
  have gd20 := arr_at (E := eI) (b := false) gc20
  simp at gd20
  have gk20 : 0 < todo_17.length := by omega
  refine Wo.lend (k := 3) (s := 11) [5] [(0, .v (ssl eRelation relations)), (3, .v (iT to)), (5, .v (.ptr true [(iT query.VariableCount), (ssl eAtom query.Atoms), (ssl eI query.Free)])), (10, .v (osl eB true reached_16)), (11, .v (.slo 1 (arr eI true todo_17))), (44, .v (iT v_19))] rfl (by simp) (by simp) ?_ ?_
  ·skip
   refine Wo.evs (by conv => lhs; simp [-aI_app0, -aB_app0, -aS_app0, -aL_app0, -aI_app10, -aB_app10, -aS_app10, -aLt_app10I, -aLf_app10I, -aLt_app1I, -aLf_app1I, gb20, gn20, gd20, gk20]) ?_
   refine Wo.nil ?_
   simp
  refine Wo.evs (by conv => lhs; simp [-aI_app0, -aB_app0, -aS_app0, -aL_app0, -aI_app10, -aB_app10, -aS_app10, -aLt_app10I, -aLf_app10I, -aLt_app1I, -aLf_app1I, gb20, gn20, gd20, gk20]) ?_
  refine Wo.nil ?_
  refine Wc.seq ?_
  obtain ⟨l_21, h22, h⟩ := bind_some h
  refine Wc.evk 1 (by conv => lhs; simp [-aI_app0, -aB_app0, -aS_app0, -aL_app0, -aI_app10, -aB_app10, -aS_app10, -aLt_app10I, -aLf_app10I, -aLt_app1I, -aLf_app1I]) ?_
  refine Wo.sem (by simp) (by simp) (by simp) (sem_slideL (E := eI) h22 (by simp) (by (conv => lhs; simp) <;> rfl) (by simp)) (by conv => lhs; simp) ?_
  refine Wo.evs (by conv => lhs; simp [-aI_app0, -aB_app0, -aS_app0, -aL_app0, -aI_app10, -aB_app10, -aS_app10, -aLt_app10I, -aLf_app10I, -aLt_app1I, -aLf_app1I]) ?_
  refine Wo.nil ?_
  refine Wc.seq ?_
  refine Wc.evs (by conv => lhs; simp [-aI_app0, -aB_app0, -aS_app0, -aL_app0, -aI_app10, -aB_app10, -aS_app10, -aLt_app10I, -aLf_app10I, -aLt_app1I, -aLf_app1I]) ?_
  refine Wo.nil ?_
  refine Wc.block ?_
  obtain ⟨w42, h43, h⟩ := bind_some h
  refine Wc.start (V1 := [(0, .v (ssl eRelation relations)), (3, .v (iT to)), (5, .v (.ptr true [(iT query.VariableCount), (ssl eAtom query.Atoms), (ssl eI query.Free)])), (10, .v (osl eB true reached_16)), (11, .v (.slo 1 (arr eI true l_21))), (12, .v (iT v_19)), (49, .v (iT (query.Atoms.length : Int))), (50, .v (iT 0))]) (by first | rfl | simp [-aI_app0, -aB_app0, -aS_app0, -aL_app0, -aI_app10, -aB_app10, -aS_app10, -aLt_app10I, -aLf_app10I, -aLt_app1I, -aLf_app1I]) ?_
  refine Wc.mono (r52_1 _ _ h43) ?_
  obtain ⟨reached_44, todo_45⟩ := w42
  rintro ex V ⟨rfl, rfl⟩
  dsimp only at h ⊢
  refine Wc.start (V1 := [(0, .v (ssl eRelation relations)), (3, .v (iT to)), (5, .v (.ptr true [(iT query.VariableCount), (ssl eAtom query.Atoms), (ssl eI query.Free)])), (10, .v (osl eB true reached_44)), (11, .v (.slo 1 (arr eI true todo_45)))]) ?_ (hk _ (Option.some.inj h).symm)
  first | rfl | simp [-aI_app0, -aB_app0, -aS_app0, -aL_app0, -aI_app10, -aB_app10, -aS_app10, -aLt_app10I, -aLf_app10I, -aLt_app1I, -aLf_app1I]
 ·rw [if_neg kc18] at h
  refine Wc.condF' (t := _) (by conv => lhs; simp) (by simpa using kc18) ?_
  refine Wc.seq ?_
  refine Wc.kil (by conv => lhs; simp) ?_
  refine Wc.exit ?_
  have e0 := hx _ (Option.some.inj h).symm
  subst e0
  exact ⟨_, (VLe.refl _), rfl, by first | rfl | simp [-aI_app0, -aB_app0, -aS_app0, -aL_app0, -aI_app10, -aB_app10, -aS_app10, -aLt_app10I, -aLf_app10I, -aLt_app1I, -aLf_app1I]⟩
theorem r52 {relations : (List Relation)} {query : Query} {from2 : Int} {to : Int} {r : Bool} (h : f52 relations query from2 to = some r) : VJx cx (.ca 52 [(ssl eRelation relations), (.agg [(iT query.VariableCount), (ssl eAtom query.Atoms), (ssl eI query.Free)]), (iT from2), (iT to)] (.bool r) []) := by
 unfold f52 at h
 refine ca_of rfl rfl (by decide) rfl ?_
 refine Wc.postG ?_
 refine Wc.start (V1 := [(0, .v (ssl eRelation relations)), (1, .v (.agg [(iT query.VariableCount), (ssl eAtom query.Atoms), (ssl eI query.Free)])), (2, .v (iT from2)), (3, .v (iT to))]) (by simp) ?_
 refine Wc.seq ?_
 refine Wc.evs (by conv => lhs; simp [-aI_app0, -aB_app0, -aS_app0, -aL_app0, -aI_app10, -aB_app10, -aS_app10, -aLt_app10I, -aLf_app10I, -aLt_app1I, -aLf_app1I]) ?_
 refine Wo.nil ?_
 refine Wc.seq ?_
 refine Wc.evs (by conv => lhs; simp [-aI_app0, -aB_app0, -aS_app0, -aL_app0, -aI_app10, -aB_app10, -aS_app10, -aLt_app10I, -aLf_app10I, -aLt_app1I, -aLf_app1I]) ?_
 refine Wo.nil ?_
 refine Wc.seq ?_
 refine Wc.seq ?_
 refine Wc.evs (by conv => lhs; simp [-aI_app0, -aB_app0, -aS_app0, -aL_app0, -aI_app10, -aB_app10, -aS_app10, -aLt_app10I, -aLf_app10I, -aLt_app1I, -aLf_app1I]) ?_
 obtain ⟨o1, h2, h⟩ := bind_some h
 refine Wo.call rfl rfl (by (conv => lhs; simp [-aI_app0, -aB_app0, -aS_app0, -aL_app0, -aI_app10, -aB_app10, -aS_app10, -aLt_app10I, -aLf_app10I, -aLt_app1I, -aLf_app1I, cx, ioTab]) <;> rfl) (run_ h2) (by simp) (by simp) (by (conv => lhs; simp [-aI_app0, -aB_app0, -aS_app0, -aL_app0, -aI_app10, -aB_app10, -aS_app10, -aLt_app10I, -aLf_app10I, -aLt_app1I, -aLf_app1I, cx, ioTab]) <;> rfl) (by (conv => lhs; simp [-aI_app0, -aB_app0, -aS_app0, -aL_app0, -aI_app10, -aB_app10, -aS_app10, -aLt_app10I, -aLf_app10I, -aLt_app1I, -aLf_app1I]) <;> rfl) ?_
 refine Wo.evk 2 (by conv => lhs; simp [-aI_app0, -aB_app0, -aS_app0, -aL_app0, -aI_app10, -aB_app10, -aS_app10, -aLt_app10I, -aLf_app10I, -aLt_app1I, -aLf_app1I]) ?_
 obtain ⟨w4, h5, h⟩ := bind_some h
 refine Wo.monoG (Q := fun V => V = [(0, .v (ssl eRelation relations)), (2, .v (iT from2)), (3, .v (iT to)), (5, .v (.ptr true [(iT query.VariableCount), (ssl eAtom query.Atoms), (ssl eI query.Free)])), (9, .v (iT (w64 ((query.Atoms.length : Int) - 1)))), (33, .v (.bool w4))]) ?_ ?_
 ·by_cases knh5 : ¬ (o1 = true)
  ·rw [if_pos knh5] at h5
   refine Wo.gh (vle_co (s := 22) (t1 := .bool true) rfl (by simp) (tle_bool (by simpa using knh5)) (by conv => lhs; simp)) ?_
   refine Wo.evs (by conv => lhs; simp [-aI_app0, -aB_app0, -aS_app0, -aL_app0, -aI_app10, -aB_app10, -aS_app10, -aLt_app10I, -aLf_app10I, -aLt_app1I, -aLf_app1I]) ?_
   refine Wo.nil ?_
   cases h5
   refine ⟨_, (VLe.refl _), ?_⟩
   first | rfl | simp [-aI_app0, -aB_app0, -aS_app0, -aL_app0, -aI_app10, -aB_app10, -aS_app10, -aLt_app10I, -aLf_app10I, -aLt_app1I, -aLf_app1I]
  ·rw [if_neg knh5] at h5
   refine Wo.gh (vle_co (s := 22) (t1 := .bool false) rfl (by simp) (tle_bool (by simpa using knh5)) (by conv => lhs; simp)) ?_
   refine Wo.evs (by conv => lhs; simp [-aI_app0, -aB_app0, -aS_app0, -aL_app0, -aI_app10, -aB_app10, -aS_app10, -aLt_app10I, -aLf_app10I, -aLt_app1I, -aLf_app1I]) ?_
   obtain ⟨o6, h7, h5⟩ := bind_some h5
   refine Wo.call (by simp [-aI_app0, -aB_app0, -aS_app0, -aL_app0, -aI_app10, -aB_app10, -aS_app10, -aLt_app10I, -aLf_app10I, -aLt_app1I, -aLf_app1I]) rfl (by (conv => lhs; simp [-aI_app0, -aB_app0, -aS_app0, -aL_app0, -aI_app10, -aB_app10, -aS_app10, -aLt_app10I, -aLf_app10I, -aLt_app1I, -aLf_app1I, cx, ioTab]) <;> rfl) (run_ h7) (by simp) (by simp) (by (conv => lhs; simp [-aI_app0, -aB_app0, -aS_app0, -aL_app0, -aI_app10, -aB_app10, -aS_app10, -aLt_app10I, -aLf_app10I, -aLt_app1I, -aLf_app1I, cx, ioTab]) <;> rfl) (by (conv => lhs; simp [-aI_app0, -aB_app0, -aS_app0, -aL_app0, -aI_app10, -aB_app10, -aS_app10, -aLt_app10I, -aLf_app10I, -aLt_app1I, -aLf_app1I]) <;> rfl) ?_
   refine Wo.evk 3 (by conv => lhs; simp [-aI_app0, -aB_app0, -aS_app0, -aL_app0, -aI_app10, -aB_app10, -aS_app10, -aLt_app10I, -aLf_app10I, -aLt_app1I, -aLf_app1I]) ?_
   obtain ⟨w9, h10, h5⟩ := bind_some h5
   refine Wo.monoG (Q := fun V => V = [(0, .v (ssl eRelation relations)), (2, .v (iT from2)), (3, .v (iT to)), (5, .v (.ptr true [(iT query.VariableCount), (ssl eAtom query.Atoms), (ssl eI query.Free)])), (9, .v (iT (w64 ((query.Atoms.length : Int) - 1)))), (33, .v (.bool w9))]) ?_ ?_
   ·by_cases knh10 : ¬ (o6 = true)
    ·rw [if_pos knh10] at h10
     refine Wo.gh (vle_co (s := 28) (t1 := .bool true) rfl (by simp) (tle_bool (by simpa using knh10)) (by conv => lhs; simp)) ?_
     refine Wo.evs (by conv => lhs; simp [-aI_app0, -aB_app0, -aS_app0, -aL_app0, -aI_app10, -aB_app10, -aS_app10, -aLt_app10I, -aLf_app10I, -aLt_app1I, -aLf_app1I]) ?_
     refine Wo.nil ?_
     cases h10
     refine ⟨_, (VLe.refl _), ?_⟩
     first | rfl | simp [-aI_app0, -aB_app0, -aS_app0, -aL_app0, -aI_app10, -aB_app10, -aS_app10, -aLt_app10I, -aLf_app10I, -aLt_app1I, -aLf_app1I]
    ·rw [if_neg knh10] at h10
     refine Wo.gh (vle_co (s := 28) (t1 := .bool false) rfl (by simp) (tle_bool (by simpa using knh10)) (by conv => lhs; simp)) ?_
     refine Wo.evs (by conv => lhs; simp [-aI_app0, -aB_app0, -aS_app0, -aL_app0, -aI_app10, -aB_app10, -aS_app10, -aLt_app10I, -aLf_app10I, -aLt_app1I, -aLf_app1I]) ?_
     obtain ⟨o11, h12, h10⟩ := bind_some h10
     refine Wo.call (by simp [-aI_app0, -aB_app0, -aS_app0, -aL_app0, -aI_app10, -aB_app10, -aS_app10, -aLt_app10I, -aLf_app10I, -aLt_app1I, -aLf_app1I]) rfl (by (conv => lhs; simp [-aI_app0, -aB_app0, -aS_app0, -aL_app0, -aI_app10, -aB_app10, -aS_app10, -aLt_app10I, -aLf_app10I, -aLt_app1I, -aLf_app1I, cx, ioTab]) <;> rfl) (run_ h12) (by simp) (by simp) (by (conv => lhs; simp [-aI_app0, -aB_app0, -aS_app0, -aL_app0, -aI_app10, -aB_app10, -aS_app10, -aLt_app10I, -aLf_app10I, -aLt_app1I, -aLf_app1I, cx, ioTab]) <;> rfl) (by (conv => lhs; simp [-aI_app0, -aB_app0, -aS_app0, -aL_app0, -aI_app10, -aB_app10, -aS_app10, -aLt_app10I, -aLf_app10I, -aLt_app1I, -aLf_app1I]) <;> rfl) ?_
     refine Wo.evs (by conv => lhs; simp [-aI_app0, -aB_app0, -aS_app0, -aL_app0, -aI_app10, -aB_app10, -aS_app10, -aLt_app10I, -aLf_app10I, -aLt_app1I, -aLf_app1I]) ?_
     refine Wo.nil ?_
     cases h10
     refine ⟨_, (VLe.refl _), ?_⟩
     first | rfl | simp [-aI_app0, -aB_app0, -aS_app0, -aL_app0, -aI_app10, -aB_app10, -aS_app10, -aLt_app10I, -aLf_app10I, -aLt_app1I, -aLf_app1I]
   ·rintro V rfl
    generalize w9 = x_8 at *
    try dsimp only at h5
    cases h5
    refine ⟨_, (VLe.refl _), ?_⟩
    first | rfl | simp [-aI_app0, -aB_app0, -aS_app0, -aL_app0, -aI_app10, -aB_app10, -aS_app10, -aLt_app10I, -aLf_app10I, -aLt_app1I, -aLf_app1I]
 ·rintro V rfl
  generalize w4 = x_3 at *
  try dsimp only at h
  by_cases kc13 : x_3 = true
  ·rw [if_pos kc13] at h
   refine Wc.condT' (t := _) (by conv => lhs; simp) (by simpa using kc13) ?_
   refine Wc.seq ?_
   refine Wc.kil (by conv => lhs; simp) ?_
   refine Wc.seq ?_
   refine Wc.evs (by conv => lhs; simp [-aI_app0, -aB_app0, -aS_app0, -aL_app0, -aI_app10, -aB_app10, -aS_app10, -aLt_app10I, -aLf_app10I, -aLt_app1I, -aLf_app1I]) ?_
   refine Wo.nil ?_
   refine Wc.ret ⟨_, (VLe.refl _), res_of (.inr rfl) ?_⟩
   cases h
   exact ⟨_, _, _, by conv => lhs; simp, by (conv => lhs; simp [cx, ioTab, List.range, List.range.loop]) <;> rfl, by first | rfl | simp [-aI_app0, -aB_app0, -aS_app0, -aL_app0, -aI_app10, -aB_app10, -aS_app10, -aLt_app10I, -aLf_app10I, -aLt_app1I, -aLf_app1I]⟩
  ·rw [if_neg kc13] at h
   refine Wc.condF' (t := _) (by conv => lhs; simp) (by simpa using kc13) ?_
   refine Wc.seq ?_
   refine Wc.kil (by conv => lhs; simp) ?_
   refine Wc.skip ?_
   refine Wc.seq ?_
   obtain ⟨l_14, h15, h⟩ := bind_some h
   obtain ⟨gm15, gp15, gq15, gr15⟩ := mkl_some h15
   have gx15 := rep_arr (E := eB) (b := true) gr15
   simp [-aI_app0, -aB_app0, -aS_app0, -aL_app0, -aLt_app1I, -aLf_app1I, -aLt_app10I, -aLf_app10I] at gx15
   rw [Int.one_mul] at gp15
   refine Wc.evs (by conv => lhs; simp [-aI_app0, -aB_app0, -aS_app0, -aL_app0, -aI_app10, -aB_app10, -aS_app10, -aLt_app10I, -aLf_app10I, -aLt_app1I, -aLf_app1I, gm15, gp15, gq15, gx15]) ?_
   refine Wo.gh (vle_co (s := 10) (t1 := (osl eB true l_14)) rfl (by simp) (tle_own rfl) (by conv => lhs; simp)) ?_
   refine Wo.nil ?_
   refine Wc.seq ?_
   refine Wc.evs (by conv => lhs; simp [-aI_app0, -aB_app0, -aS_app0, -aL_app0, -aI_app10, -aB_app10, -aS_app10, -aLt_app10I, -aLf_app10I, -aLt_app1I, -aLf_app1I]) ?_
   refine Wo.gh (vle_co (s := 11) (t1 := (osl eI true ([from2]))) rfl (by simp) (TLe.own (show TLes _ [(iT from2)] from (TLes.cons (TLe.refl _) (TLes.refl _))) rfl) (by conv => lhs; simp)) ?_
   refine Wo.nil ?_
   refine Wc.seq ?_
   refine Wc.block ?_
   refine Wc.gh (vle_pf (s := 11) (t1 := (.slo 1 (arr eI true ([from2])))) rfl (by simp) (PF.le (TLe.slo rfl)) (by conv => lhs; simp)) ?_
   obtain ⟨w46, h47, h⟩ := bind_some h
   refine Wc.start (V1 := [(0, .v (ssl eRelation relations)), (3, .v (iT to)), (5, .v (.ptr true [(iT query.VariableCount), (ssl eAtom query.Atoms), (ssl eI query.Free)])), (10, .v (osl eB true l_14)), (11, .v (.slo 1 (arr eI true ([from2]))))]) (by first | rfl | simp [-aI_app0, -aB_app0, -aS_app0, -aL_app0, -aI_app10, -aB_app10, -aS_app10, -aLt_app10I, -aLf_app10I, -aLt_app1I, -aLf_app1I]) ?_
   refine Wc.mono (r52_0 _ _ h47) ?_
   generalize w46 = reached_48 at *
   rintro ex V ⟨rfl, rfl⟩
   try dsimp only at h
   refine Wc.seq ?_
   obtain ⟨v_49, h50, h⟩ := bind_some h
   obtain ⟨ga50, gb50, gc50⟩ := ix_some h50
   have gn50 := ix_ne h50
   have gf50 := arr_fit (E := eB) (b := true) (i := to.toNat) (l := reached_48) (by omega)
   have gg50_0 := arr_get (E := eB) (b := true) (o := 0) gc50 (by decide)
   simp at gf50 gg50_0
   have gl50 : to.toNat < reached_48.length := by omega
   refine Wc.evs (by conv => lhs; simp [-aI_app0, -aB_app0, -aS_app0, -aL_app0, -aI_app10, -aB_app10, -aS_app10, -aLt_app10I, -aLf_app10I, -aLt_app1I, -aLf_app1I, -getElem?_pos, List.getElem?_cons_zero, List.getElem?_cons_succ, ga50, gb50, gn50, gf50, gg50_0, gl50]) ?_
   refine Wo.nil ?_
   refine Wc.ret ⟨_, (VLe.refl _), res_of (.inr rfl) ?_⟩
   cases h
   exact ⟨_, _, _, by conv => lhs; simp, by (conv => lhs; simp [cx, ioTab, List.range, List.range.loop]) <;> rfl, by first | rfl | simp [-aI_app0, -aB_app0, -aS_app0, -aL_app0, -aI_app10, -aB_app10, -aS_app10, -aLt_app10I, -aLf_app10I, -aLt_app1I, -aLf_app1I, -getElem?_pos, List.getElem?_cons_zero, List.getElem?_cons_succ, ga50, gb50, gn50, gf50, gg50_0, gl50]⟩
instance i52 : Rn cx (f52 relations query from2 to) 52 [(ssl eRelation relations), (.agg [(iT query.VariableCount), (ssl eAtom query.Atoms), (ssl eI query.Free)]), (iT from2), (iT to)] (fun (r : Bool) => (.bool r)) (fun r => []) := ⟨fun _ h => r52 h⟩
instance : Io0 cx 52 := ⟨rfl⟩
instance i53_0 : Lp cx (f53_0 relations query) 18 L53_0 (fun (zs : Int) => [(0, .v (ssl eRelation relations)), (3, .v (.ptr true [(iT query.VariableCount), (ssl eAtom query.Atoms), (ssl eI query.Free)])), (8, .v (iT (query.Atoms.length : Int))), (9, .v (iT zs))]) (QO (QX 0 (fun (y : Unit) => [])) (QR (fun (y : Bool) => [(4, .v (.bool y))]))) := Lp.of (by unfold f53_0; exact go)
instance i53 : Rn cx (f53 relations query) 53 [(ssl eRelation relations), (.agg [(iT query.VariableCount), (ssl eAtom query.Atoms), (ssl eI query.Free)])] (fun (r : Bool) => (.bool r)) (fun r => []) := Rn.o rfl (by unfold f53; exact go)
instance : Io0 cx 53 := ⟨rfl⟩
instance i16_1 {x_4 : Int} : Lp cx (f16_1 relations query x_4) 48 L16_1 (fun (zs : Int) => [(0, .v (ssl eRelation relations)), (3, .v (.ptr true [(iT query.VariableCount), (ssl eAtom query.Atoms), (ssl eI query.Free)])), (5, .v (iT x_4)), (13, .v (iT (query.Atoms.length : Int))), (14, .v (iT x_4)), (19, .v (iT (query.Atoms.length : Int))), (20, .v (iT zs))]) (QO (QX 2 (fun (y : Unit) => [(0, .v (ssl eRelation relations)), (3, .v (.ptr true [(iT query.VariableCount), (ssl eAtom query.Atoms), (ssl eI query.Free)])), (13, .v (iT (query.Atoms.length : Int))), (14, .v (iT x_4))])) (QR (fun (y : Int) => [(4, .v (iT y))]))) := Lp.of (f := (fun
 | x_6 =>
  if x_6 < (query.Atoms.length : Int) then
  (f50 relations query x_4 x_6).bind fun o8 =>
  (jn (QN (fun (y : Bool) => [(0, .v (ssl eRelation relations)), (3, .v (.ptr true [(iT query.VariableCount), (ssl eAtom query.Atoms), (ssl eI query.Free)])), (5, .v (iT x_4)), (13, .v (iT (query.Atoms.length : Int))), (14, .v (iT x_4)), (19, .v (iT (query.Atoms.length : Int))), (20, .v (iT x_6)), (42, .v (.bool y))])) ((if o8 = true then
  (f51 relations query x_4 x_6).bind fun o13 =>
  (jn (QN (fun (y : Bool) => [(0, .v (ssl eRelation relations)), (3, .v (.ptr true [(iT query.VariableCount), (ssl eAtom query.Atoms), (ssl eI query.Free)])), (5, .v (iT x_4)), (13, .v (iT (query.Atoms.length : Int))), (14, .v (iT x_4)), (19, .v (iT (query.Atoms.length : Int))), (20, .v (iT x_6)), (42, .v (.bool y))])) ((if ¬ (o13 = true) then
  (f52 relations query x_6 x_4).bind fun o18 =>
  some o18
  else
  some false) : Option (Bool))).bind fun x_15 =>
  some x_15
  else
  some false) : Option (Bool))).bind fun x_10 =>
  if x_10 = true then
  some (.inr (.inr 3))
  else
  some (.inl (w64 (x_6 + 1)))
  else
  some (.inr (.inl ())) : Int -> Option (Int ⊕ (Unit ⊕ Int)))) (by exact go)
instance i16_0 : Lp cx (f16_0 relations query) 48 L16_0 (fun (zs : Int) => [(0, .v (ssl eRelation relations)), (3, .v (.ptr true [(iT query.VariableCount), (ssl eAtom query.Atoms), (ssl eI query.Free)])), (13, .v (iT (query.Atoms.length : Int))), (14, .v (iT zs))]) (QO (QX 0 (fun (y : Unit) => [(0, .v (ssl eRelation relations)), (3, .v (.ptr true [(iT query.VariableCount), (ssl eAtom query.Atoms), (ssl eI query.Free)]))])) (QR (fun (y : Int) => [(4, .v (iT y))]))) := Lp.of (by unfold f16_0; exact go)
instance i16 : Rn cx (f16 relations query) 16 [(ssl eRelation relations), (.agg [(iT query.VariableCount), (ssl eAtom query.Atoms), (ssl eI query.Free)])] (fun (r : Int) => (iT r)) (fun r => []) := Rn.o rfl (by unfold f16; exact go)
instance : Io0 cx 16 := ⟨rfl⟩
instance i17_1 {out_1 : (List Int)} {x_2 : Int} : Lp cx (lw out_1 (f17_1 relations atoms free x_2)) 40 L17_1 (fun (zs : Bool × Int) => [(0, .v (ssl eRelation relations)), (1, .v (ssl eAtom atoms)), (2, .v (ssl eI free)), (7, .v (osl eI true out_1)), (8, .v (iT x_2)), (9, .v (.bool zs.1)), (13, .v (iT (atoms.length : Int))), (14, .v (iT x_2)), (18, .v (iT (atoms.length : Int))), (19, .v (iT zs.2))]) (QX 2 (fun (y : Bool) => [(0, .v (ssl eRelation relations)), (1, .v (ssl eAtom atoms)), (2, .v (ssl eI free)), (7, .v (osl eI true out_1)), (8, .v (iT x_2)), (9, .v (.bool y)), (13, .v (iT (atoms.length : Int))), (14, .v (iT x_2))])) := Lp.of (f := (fun
 | (is_4, x_5) =>
  if x_5 < (atoms.length : Int) then
  (jn (QN (fun (y : Bool) => [(0, .v (ssl eRelation relations)), (1, .v (ssl eAtom atoms)), (2, .v (ssl eI free)), (7, .v (osl eI true out_1)), (8, .v (iT x_2)), (9, .v (.bool y)), (13, .v (iT (atoms.length : Int))), (14, .v (iT x_2)), (18, .v (iT (atoms.length : Int))), (19, .v (iT x_5))])) ((if is_4 = true then
  (f54 relations atoms free x_5 x_2).bind fun o10 =>
  some (decide (¬ (o10 = true)))
  else
  some false) : Option (Bool))).bind fun is_7 =>
  some (.inl (is_7, w64 (x_5 + 1)))
  else
  some (.inr is_4) : Bool × Int -> Option ((Bool × Int) ⊕ Bool))) (by exact go)
instance i17_0 : Lp cx (f17_0 relations atoms free) 40 L17_0 (fun (zs : (List Int) × Int) => [(0, .v (ssl eRelation relations)), (1, .v (ssl eAtom atoms)), (2, .v (ssl eI free)), (7, .v (osl eI true zs.1)), (13, .v (iT (atoms.length : Int))), (14, .v (iT zs.2))]) (QX 0 (fun (y : (List Int)) => [(7, .v (osl eI true y))])) := Lp.of (f := (fun
 | (out_1, x_2) =>
  if x_2 < (atoms.length : Int) then
  (iter (lw out_1  (f17_1 relations atoms free x_2)) (true, 0)).bind fun is_14 =>
  (jn (QN (fun (y : (List Int)) => [(0, .v (ssl eRelation relations)), (1, .v (ssl eAtom atoms)), (2, .v (ssl eI free)), (7, .v (osl eI true y)), (13, .v (iT (atoms.length : Int))), (14, .v (iT x_2))])) ((if is_14 = true then
  (app 8 out_1 ([x_2])).bind fun l_18 =>
  some l_18
  else
  some out_1) : Option (List Int))).bind fun out_20 =>
  some (.inl (out_20, w64 (x_2 + 1)))
  else
  some (.inr out_1) : (List Int) × Int -> Option (((List Int) × Int) ⊕ (List Int)))) (by exact go)
instance i17 : Rn cx (f17 relations atoms free) 17 [(ssl eRelation relations), (ssl eAtom atoms), (ssl eI free)] (fun (r : (List Int)) => (osl eI true r)) (fun r => []) := Rn.o (e := (
  sn 3 7 (osl eI true ([])) <| 
  (iter (f17_0 relations atoms free) ([], 0)).bind fun out_23 =>
  some out_23 : Option (List Int))) rfl (by exact go)
instance : Io0 cx 17 := ⟨rfl⟩
instance i18 : Rn cx (f18 atom) 18 [(.agg [(iT atom.Relation), (ssl eI atom.Terms)])] (fun (r : Atom) => (.agg [(iT r.Relation), (osl eI true r.Terms)])) (fun r => []) := Rn.o (e := (
  sn 2 2 (.ptr true [(iT 0), (osl eI true ([]))]) <| 
  (app 8 ([]) atom.Terms).bind fun l_1 =>
  sn 6 8 (osl eI true l_1) <| 
  some ({ Relation := atom.Relation, Terms := l_1 } : Atom) : Option Atom)) rfl (by exact go)
instance : Io0 cx 18 := ⟨rfl⟩
theorem r24 {s0 : (List Atom)} {r : (List Atom)} (h : f24 s0 = some r) : VJx cx (.ca 24 [(ssl eAtom s0)] (osl eAtom false r) []) := by
 unfold f24 at h
 refine ca_clone (X := noExt) (fun _ _ _ _ h => h) (fun _ _ _ _ h => h) rfl (by decide) rfl (cl_eq h) ?_
 refine Wc.start (V1 := [(0, .v (ssl eAtom s0))]) (by simp) ?_
 refine Wc.seq ?_
 obtain ⟨l_1, h2, h⟩ := bind_some h
 have gx2 := appT_arr (E := eAtom) (b := false) (y := false) h2 (by decide)
 simp [-aI_app0, -aB_app0, -aS_app0, -aL_app0, -aLt_app1I, -aLf_app1I, -aLt_app10I, -aLf_app10I] at gx2
 refine Wc.evs (by conv => lhs; simp [-aI_app0, -aB_app0, -aS_app0, -aL_app0, -aI_app10, -aB_app10, -aS_app10, -aLt_app10I, -aLf_app10I, -aLt_app1I, -aLf_app1I, gx2, h2]) ?_
 refine Wo.gh (vle_co (s := 2) (t1 := (osl eAtom false l_1)) rfl (by simp) (tle_own rfl) (by conv => lhs; simp)) ?_
 refine Wo.nil ?_
 refine Wc.ret (res_of (.inr rfl) ?_)
 cases h
 exact ⟨_, _, _, by conv => lhs; simp, by (conv => lhs; simp [cx, ioTab, List.range, List.range.loop]) <;> rfl, by first | rfl | simp [-aI_app0, -aB_app0, -aS_app0, -aL_app0, -aI_app10, -aB_app10, -aS_app10, -aLt_app10I, -aLf_app10I, -aLt_app1I, -aLf_app1I, gx2, h2]⟩
instance i24 {s0 : (List Atom)} : Rn cx (f24 s0) 24 [(ssl eAtom s0)] (fun (r : (List Atom)) => (osl eAtom false r)) (fun r => []) := ⟨fun _ h => r24 h⟩
instance : Io0 cx 24 := ⟨rfl⟩
theorem r23 {a0 : (List Atom)} {a1 a2 : Int} {r : (List Atom)} (h : f23 a0 a1 a2 = some r) : VJx cx (.ca 23 [(osl eAtom false a0), .int .i64 a1, .int .i64 a2] (ssl eAtom r) [.und]) := by
 exact ca_del (E := eAtom) (zs := [.int .i64 (0), .nils]) (fun _ _ _ _ h => h) rfl rfl (by decide) rfl rfl h
instance i23 {a0 : (List Atom)} {a1 a2 : Int} : Rn cx (f23 a0 a1 a2) 23 [(osl eAtom false a0), .int .i64 a1, .int .i64 a2] (fun r => ssl eAtom r) (fun r => [.und]) := ⟨fun _ h => r23 h⟩
instance i6_0 : Lp cx (lw query (f6_0 relations)) 71 L6_0 (fun (zs : (List RewritingStep) × (List Int) × (List Atom)) => [(0, .v (ssl eRelation relations)), (3, .v (.ptr true [(iT query.VariableCount), (ssl eAtom query.Atoms), (ssl eI query.Free)])), (6, .v (osl eRewritingStep true zs.1)), (7, .v (ssl eI zs.2.1)), (8, .v (ssl eAtom zs.2.2))]) (QO (QX 0 (fun (y : (List RewritingStep)) => [(6, .v (osl eRewritingStep true y))])) (QR (fun (y : (List RewritingStep) × Bool) => [(4, .v (osl eRewritingStep true y.1)), (5, .v (.bool y.2))]))) := Lp.of (f := (fun
 | (out_4, free_5, atoms_6) =>
  if (atoms_6.length : Int) > 0 then
  (f17 relations atoms_6 free_5).bind fun o8 =>
  if (o8.length : Int) = 0 then
  sn 2 4 (osl eRewritingStep true ([])) <| 
  some (.inr (.inr ([], false)))
  else
  (ix o8 0).bind fun v_11 =>
  (ix atoms_6 v_11).bind fun v_13 =>
  (f18 v_13).bind fun o15 =>
  (f19 relations o15).bind fun o17 =>
  (f20 o15).bind fun o19 =>
  (f21 o17 free_5).bind fun o21 =>
  (f21 o19 o17).bind fun o23 =>
  (f21 o23 free_5).bind fun o25 =>
  (app 80 out_4 ([({ Atom := o15, Existential := o21, Universal := o25 } : RewritingStep)])).bind fun l_27 =>
  (f22 free_5 o19).bind fun o29 =>
  sn 1 7 (ssl eI o29) <| 
  (f24 atoms_6).bind fun o31 =>
  (f23 o31 v_11 (w64 (v_11 + 1))).bind fun o33 =>
  some (.inl (l_27, o29, o33))
  else
  some (.inr (.inl out_4)) : (List RewritingStep) × (List Int) × (List Atom) -> Option (((List RewritingStep) × (List Int) × (List Atom)) ⊕ ((List RewritingStep) ⊕ ((List RewritingStep) × Bool))))) (by exact go)
instance i6 : Rn cx (f6 relations query) 6 [(ssl eRelation relations), (.agg [(iT query.VariableCount), (ssl eAtom query.Atoms), (ssl eI query.Free)])] (fun (r : (List RewritingStep) × Bool) => (.tup [(osl eRewritingStep true r.1), (.bool r.2)])) (fun r => []) := Rn.o (e := (
  (f16 relations query).bind fun o1 =>
  if o1 ≠ 1 then
  sn 2 4 (osl eRewritingStep true ([])) <| 
  some ([], false)
  else
  sn 8 6 (osl eRewritingStep true ([])) <| 
  (iter (lw query  (f6_0 relations)) ([], query.Free, query.Atoms)).bind fun o => match o with
  | .inl out_37 =>
  some (out_37, true)
  | .inr (x_38, x_39) =>
  some (x_38, x_39) : Option ((List RewritingStep) × Bool))) rfl (by exact go)
instance : Io0 cx 6 := ⟨rfl⟩
instance i27_0 {l : (List Int)} : Lp cx (f27_0 l x) 18 L27_0 (fun (zs : Int) => [(0, .v (ssl eI l)), (1, .v (iT x)), (5, .v (iT zs))]) (QO (QX 0 (fun (y : Unit) => [])) (QR (fun (y : Bool) => [(4, .v (.bool y))]))) := Lp.of (by unfold f27_0; exact go)
instance i27 {l : (List Int)} : Rn cx (f27 l x) 27 [(ssl eI l), (iT x)] (fun (r : Bool) => (.bool r)) (fun r => []) := Rn.o rfl (by unfold f27; exact go)
instance : Io0 cx 27 := ⟨rfl⟩
instance i40_0 {a : Atom} : Lp cx (f40_0 a) 19 L40_0 (fun (zs : (List Int) × Int) => [(1, .v (.ptr true [(iT a.Relation), (ssl eI a.Terms)])), (3, .v (osl eI true zs.1)), (4, .v (iT zs.2))]) (QX 0 (fun (y : (List Int)) => [(3, .v (osl eI true y))])) := Lp.of (f := (fun
 | (out_1, v_2) =>
  if v_2 < 4 then
  (f27 a.Terms v_2).bind fun o4 =>
  (jn (QN (fun (y : (List Int)) => [(1, .v (.ptr true [(iT a.Relation), (ssl eI a.Terms)])), (3, .v (osl eI true y)), (4, .v (iT v_2))])) ((if o4 = true then
  (app 8 out_1 ([v_2])).bind fun l_9 =>
  some l_9
  else
  some out_1) : Option (List Int))).bind fun out_11 =>
  some (.inl (out_11, w64 (v_2 + 1)))
  else
  some (.inr out_1) : (List Int) × Int -> Option (((List Int) × Int) ⊕ (List Int)))) (by exact go)
instance i40 {a : Atom} : Rn cx (f40 a) 40 [(.agg [(iT a.Relation), (ssl eI a.Terms)])] (fun (r : (List Int)) => (osl eI true r)) (fun r => []) := Rn.o (e := (
  sn 4 3 (osl eI true ([])) <| 
  (iter (f40_0 a) ([], 0)).bind fun out_14 =>
  some out_14 : Option (List Int))) rfl (by exact go)
instance : Io0 cx 40 := ⟨rfl⟩
instance i12 {a : Atom} : Rn cx (f12 l a) 12 [(ssl eRelation l), (.agg [(iT a.Relation), (ssl eI a.Terms)])] (fun (r : (List Int)) => (osl eI true r)) (fun r => []) := Rn.o (e := (
  (f39 a.Relation 0 (w64 ((l.length : Int) - 1))).bind fun o1 =>
  (jn (QN (fun (y : Bool) => [(0, .v (ssl eRelation l)), (3, .v (.ptr true [(iT a.Relation), (ssl eI a.Terms)])), (24, .v (.bool y))])) ((if ¬ (o1 = true) then
  some true
  else
  (ix l a.Relation).bind fun v_6 =>
  (f39 v_6.KeyLength 0 (a.Terms.length : Int)).bind fun o8 =>
  some (decide (¬ (o8 = true)))) : Option (Bool))).bind fun x_3 =>
  if x_3 = true then
  sn 2 4 (osl eI true ([])) <| 
  some ([])
  else
  (ix l a.Relation).bind fun v_11 =>
  (cutL a.Terms 0 v_11.KeyLength).bind fun l_13 =>
  (f40 ({ Relation := 0, Terms := l_13 } : Atom)).bind fun o15 =>
  some o15 : Option (List Int))) rfl (by exact go)
instance : Io0 cx 12 := ⟨rfl⟩
instance i61_0 : Lp cx (f61_0 a b) 25 L61_0 (fun (zs : (List Int) × Int) => [(0, .v (ssl eI a)), (1, .v (ssl eI b)), (5, .v (osl eI true zs.1)), (6, .v (iT zs.2))]) (QX 0 (fun (y : (List Int)) => [(5, .v (osl eI true y))])) := Lp.of (f := (fun
 | (out_1, v_2) =>
  if v_2 < 4 then
  (f27 a v_2).bind fun o4 =>
  (jn (QN (fun (y : Bool) => [(0, .v (ssl eI a)), (1, .v (ssl eI b)), (5, .v (osl eI true out_1)), (6, .v (iT v_2)), (19, .v (.bool y))])) ((if o4 = true then
  some true
  else
  (f27 b v_2).bind fun o9 =>
  some o9) : Option (Bool))).bind fun x_6 =>
  (jn (QN (fun (y : (List Int)) => [(0, .v (ssl eI a)), (1, .v (ssl eI b)), (5, .v (osl eI true y)), (6, .v (iT v_2))])) ((if x_6 = true then
  (app 8 out_1 ([v_2])).bind fun l_14 =>
  some l_14
  else
  some out_1) : Option (List Int))).bind fun out_16 =>
  some (.inl (out_16, w64 (v_2 + 1)))
  else
  some (.inr out_1) : (List Int) × Int -> Option (((List Int) × Int) ⊕ (List Int)))) (by exact go)
instance i61 : Rn cx (f61 a b) 61 [(ssl eI a), (ssl eI b)] (fun (r : (List Int)) => (osl eI true r)) (fun r => []) := Rn.o (e := (
  sn 3 5 (osl eI true ([])) <| 
  (iter (f61_0 a b) ([], 0)).bind fun out_19 =>
  some out_19 : Option (List Int))) rfl (by exact go)
instance : Io0 cx 61 := ⟨rfl⟩
instance i47_0 {l : (List Int)} : Lp cx (f47_0 l want) 19 L47_0 (fun (zs : Int) => [(0, .v (ssl eI l)), (1, .v (ssl eI want)), (5, .v (iT zs))]) (QO (QX 0 (fun (y : Unit) => [])) (QR (fun (y : Bool) => [(4, .v (.bool y))]))) := Lp.of (by unfold f47_0; exact go)
instance i47 {l : (List Int)} : Rn cx (f47 l want) 47 [(ssl eI l), (ssl eI want)] (fun (r : Bool) => (.bool r)) (fun r => []) := Rn.o rfl (by unfold f47; exact go)
instance : Io0 cx 47 := ⟨rfl⟩
instance i88_1 {n_7 : Int} : Lp cx (lw n_7 (f88_1 l q skip)) 58 L88_1 (fun (zs : (List Int) × Int) => [(0, .v (ssl eRelation l)), (2, .v (iT skip)), (5, .v (.ptr true [(iT q.VariableCount), (ssl eAtom q.Atoms), (ssl eI q.Free)])), (9, .v (osl eI true zs.1)), (10, .v (iT n_7)), (11, .v (iT zs.2))]) (QX 2 (fun (y : (List Int)) => [(0, .v (ssl eRelation l)), (2, .v (iT skip)), (5, .v (.ptr true [(iT q.VariableCount), (ssl eAtom q.Atoms), (ssl eI q.Free)])), (9, .v (osl eI true y)), (10, .v (iT n_7))])) := Lp.of (f := (fun
 | (out_9, i_10) =>
  if i_10 < (q.Atoms.length : Int) then
  (jn (QN (fun (y : Bool) => [(0, .v (ssl eRelation l)), (2, .v (iT skip)), (5, .v (.ptr true [(iT q.VariableCount), (ssl eAtom q.Atoms), (ssl eI q.Free)])), (9, .v (osl eI true out_9)), (10, .v (iT n_7)), (11, .v (iT i_10)), (48, .v (.bool y))])) ((if i_10 ≠ skip then
  (ix q.Atoms i_10).bind fun v_15 =>
  (f12 l v_15).bind fun o17 =>
  (f47 out_9 o17).bind fun o19 =>
  some o19
  else
  some false) : Option (Bool))).bind fun x_12 =>
  (jn (QN (fun (y : (List Int)) => [(0, .v (ssl eRelation l)), (2, .v (iT skip)), (5, .v (.ptr true [(iT q.VariableCount), (ssl eAtom q.Atoms), (ssl eI q.Free)])), (9, .v (osl eI true y)), (10, .v (iT n_7)), (11, .v (iT i_10))])) ((if x_12 = true then
  (ix q.Atoms i_10).bind fun v_24 =>
  (f40 v_24).bind fun o26 =>
  (f61 out_9 o26).bind fun o28 =>
  some o28
  else
  some out_9) : Option (List Int))).bind fun out_30 =>
  some (.inl (out_30, w64 (i_10 + 1)))
  else
  some (.inr out_9) : (List Int) × Int -> Option (((List Int) × Int) ⊕ (List Int)))) (by exact go)
instance i88_0 : Lp cx (f88_0 l q skip) 58 L88_0 (fun (zs : (List Int) × Int) => [(0, .v (ssl eRelation l)), (2, .v (iT skip)), (5, .v (.ptr true [(iT q.VariableCount), (ssl eAtom q.Atoms), (ssl eI q.Free)])), (9, .v (osl eI true zs.1)), (10, .v (iT zs.2))]) (QX 0 (fun (y : (List Int)) => [(9, .v (osl eI true y))])) := Lp.of (f := (fun
 | (out_6, n_7) =>
  if n_7 < (q.Atoms.length : Int) then
  (iter (lw n_7  (f88_1 l q skip)) (out_6, 0)).bind fun out_33 =>
  some (.inl (out_33, w64 (n_7 + 1)))
  else
  some (.inr out_6) : (List Int) × Int -> Option (((List Int) × Int) ⊕ (List Int)))) (by exact go)
instance i88 {vars : (List Int)} : Rn cx (f88 l q skip vars) 88 [(ssl eRelation l), (.agg [(iT q.VariableCount), (ssl eAtom q.Atoms), (ssl eI q.Free)]), (iT skip), (ssl eI vars)] (fun (r : (List Int)) => (osl eI true r)) (fun r => []) := Rn.o (e := (
  (f29 l q).bind fun o1 =>
  if ¬ (o1 = true) then
  sn 2 8 (osl eI true ([])) <| 
  some ([])
  else
  (f61 vars q.Free).bind fun o4 =>
  (iter (f88_0 l q skip) (o4, 0)).bind fun out_36 =>
  some out_36 : Option (List Int))) rfl (by exact go)
instance : Io0 cx 88 := ⟨rfl⟩
instance i87 : Rn cx (f87 l q k) 87 [(ssl eRelation l), (.agg [(iT q.VariableCount), (ssl eAtom q.Atoms), (ssl eI q.Free)]), (iT k)] (fun (r : (List Int)) => (osl eI true r)) (fun r => []) := Rn.o (e := (
  (f29 l q).bind fun o1 =>
  (jn (QN (fun (y : Bool) => [(0, .v (ssl eRelation l)), (2, .v (iT k)), (4, .v (.ptr true [(iT q.VariableCount), (ssl eAtom q.Atoms), (ssl eI q.Free)])), (19, .v (.bool y))])) ((if ¬ (o1 = true) then
  some true
  else
  (f39 k 0 (w64 ((q.Atoms.length : Int) - 1))).bind fun o6 =>
  some (decide (¬ (o6 = true)))) : Option (Bool))).bind fun x_3 =>
  if x_3 = true then
  sn 2 6 (osl eI true ([])) <| 
  some ([])
  else
  (ix q.Atoms k).bind fun v_9 =>
  (f12 l v_9).bind fun o11 =>
  (f88 l q k o11).bind fun o13 =>
  some o13 : Option (List Int))) rfl (by exact go)
instance : Io0 cx 87 := ⟨rfl⟩
end
end Go.Proofs.YtjfeimhiiomgoaaGreatDoorH
