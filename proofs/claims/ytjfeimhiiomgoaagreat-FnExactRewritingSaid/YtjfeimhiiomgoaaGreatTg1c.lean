import Derived.Test.YtjfeimhiiomgoaaGreatTg1b
set_option maxHeartbeats 2000000
set_option linter.unusedVariables false
set_option linter.unusedSimpArgs false
set_option linter.defProp false
set_option linter.unusedSectionVars false
set_option maxRecDepth 100000
namespace Go.Proofs.YtjfeimhiiomgoaaGreatH
open Go
noncomputable section
variable {slices : (List (List Int))} {atoms : (List Atom)} {a b free indices not o19 o7 o9 plus_38 s0 variables want : (List Int)} {l relations : (List Relation)} {atom v_19 : Atom} {from2 high i i_15 i_17 k left low n0 n1 n_12 n_17 n_40 skip to v x : Int} {q query : Query}
theorem r118_1 {v_19 : Int} : ∀ zs zo, iter (f118_1 relations query v_19) zs = some zo -> Wc cx 77 (.loop L118_1) [(0, .v (ssl eRelation relations)), (3, .v (iT to)), (5, .v (.ptr true [(iT query.VariableCount), (ssl eAtom query.Atoms), (ssl eI query.Free)])), (10, .v (osl eB true zs.1)), (11, .v (.slo 1 (arr eI true zs.2.1))), (12, .v (iT v_19)), (49, .v (iT (query.Atoms.length : Int))), (50, .v (iT zs.2.2))] ((QX 2 (fun (y : (List Bool) × (List Int)) => [(0, .v (ssl eRelation relations)), (3, .v (iT to)), (5, .v (.ptr true [(iT query.VariableCount), (ssl eAtom query.Atoms), (ssl eI query.Free)])), (10, .v (osl eB true y.1)), (11, .v (.slo 1 (arr eI true y.2)))])) zo) := by
 intro zs0 zo0 zh0
 refine Wc.postG ?_
 refine iter_run (f := (f118_1 relations query v_19)) (P := fun zs zo => Wc cx 77 (.loop L118_1) [(0, .v (ssl eRelation relations)), (3, .v (iT to)), (5, .v (.ptr true [(iT query.VariableCount), (ssl eAtom query.Atoms), (ssl eI query.Free)])), (10, .v (osl eB true zs.1)), (11, .v (.slo 1 (arr eI true zs.2.1))), (12, .v (iT v_19)), (49, .v (iT (query.Atoms.length : Int))), (50, .v (iT zs.2.2))] (fun ex V => ∃ V2, VLe V V2 /\ (QX 2 (fun (y : (List Bool) × (List Int)) => [(0, .v (ssl eRelation relations)), (3, .v (iT to)), (5, .v (.ptr true [(iT query.VariableCount), (ssl eAtom query.Atoms), (ssl eI query.Free)])), (10, .v (osl eB true y.1)), (11, .v (.slo 1 (arr eI true y.2)))])) zo ex V2)) ?_ zh0
 rintro ⟨reached_23, todo_24, x_25⟩ zo zr h hk hx
 try dsimp only at hk ⊢
 rw [f118_1] at h
 refine Wc.loop ?_
 refine Wc.seq ?_
 refine Wc.evs (by conv => lhs; simp [-aI_app0, -aB_app0, -aS_app0, -aL_app0, -aI_app10, -aB_app10, -aS_app10, -aLt_app10I, -aLf_app10I, -aLt_app1I, -aLf_app1I]) ?_
 refine Wo.nil ?_
 refine Wc.seq ?_
 by_cases kc26 : x_25 < (query.Atoms.length : Int)
 ·rw [if_pos kc26] at h
  refine Wc.condT' (t := _) (by conv => lhs; simp) (by simpa using kc26) ?_
  refine Wc.seq ?_
  refine Wc.kil (by conv => lhs; simp) ?_
  refine Wc.skip ?_
  refine Wc.seq ?_
  refine Wc.block ?_
  refine Wc.seq ?_
  refine Wc.evs (by conv => lhs; simp [-aI_app0, -aB_app0, -aS_app0, -aL_app0, -aI_app10, -aB_app10, -aS_app10, -aLt_app10I, -aLf_app10I, -aLt_app1I, -aLf_app1I]) ?_
  refine Wo.nil ?_
  refine Wc.seq ?_
  obtain ⟨v_27, h28, h⟩ := bind_some h
  obtain ⟨ga28, gb28, gc28⟩ := ix_some h28
  have gn28 := ix_ne h28
  have gf28 := arr_fit (E := eB) (b := true) (i := x_25.toNat) (l := reached_23) (by omega)
  have gg28_0 := arr_get (E := eB) (b := true) (o := 0) gc28 (by decide)
  simp at gf28 gg28_0
  have gl28 : x_25.toNat < reached_23.length := by omega
  refine Wc.evk 6 (by conv => lhs; simp [-aI_app0, -aB_app0, -aS_app0, -aL_app0, -aI_app10, -aB_app10, -aS_app10, -aLt_app10I, -aLf_app10I, -aLt_app1I, -aLf_app1I, -getElem?_pos, List.getElem?_cons_zero, List.getElem?_cons_succ, ga28, gb28, gn28, gf28, gg28_0, gl28]) ?_
  obtain ⟨w30, h31, h⟩ := bind_some h
  refine Wo.monoG (Q := fun V => V = [(0, .v (ssl eRelation relations)), (3, .v (iT to)), (5, .v (.ptr true [(iT query.VariableCount), (ssl eAtom query.Atoms), (ssl eI query.Free)])), (10, .v (osl eB true reached_23)), (11, .v (.slo 1 (arr eI true todo_24))), (12, .v (iT v_19)), (13, .v (iT x_25)), (49, .v (iT (query.Atoms.length : Int))), (50, .v (iT x_25)), (64, .v (.bool w30))]) ?_ ?_
  ·by_cases knh31 : ¬ (v_27 = true)
   ·rw [if_pos knh31] at h31
    refine Wo.gh (vle_co (s := 58) (t1 := .bool true) rfl (by simp) (tle_bool (by simpa using knh31)) (by conv => lhs; simp)) ?_
    refine Wo.evs (by conv => lhs; simp [-aI_app0, -aB_app0, -aS_app0, -aL_app0, -aI_app10, -aB_app10, -aS_app10, -aLt_app10I, -aLf_app10I, -aLt_app1I, -aLf_app1I, -getElem?_pos, List.getElem?_cons_zero, List.getElem?_cons_succ, ga28, gb28, gn28, gf28, gg28_0, gl28]) ?_
    obtain ⟨o32, h33, h31⟩ := bind_some h31
    refine Wo.call (by simp [-aI_app0, -aB_app0, -aS_app0, -aL_app0, -aI_app10, -aB_app10, -aS_app10, -aLt_app10I, -aLf_app10I, -aLt_app1I, -aLf_app1I, -getElem?_pos, List.getElem?_cons_zero, List.getElem?_cons_succ, ga28, gb28, gn28, gf28, gg28_0, gl28]) rfl (by (conv => lhs; simp [-aI_app0, -aB_app0, -aS_app0, -aL_app0, -aI_app10, -aB_app10, -aS_app10, -aLt_app10I, -aLf_app10I, -aLt_app1I, -aLf_app1I, -getElem?_pos, List.getElem?_cons_zero, List.getElem?_cons_succ, ga28, gb28, gn28, gf28, gg28_0, gl28, cx, ioTab]) <;> rfl) (run_ h33) (by simp) (by simp) (by (conv => lhs; simp [-aI_app0, -aB_app0, -aS_app0, -aL_app0, -aI_app10, -aB_app10, -aS_app10, -aLt_app10I, -aLf_app10I, -aLt_app1I, -aLf_app1I, -getElem?_pos, List.getElem?_cons_zero, List.getElem?_cons_succ, ga28, gb28, gn28, gf28, gg28_0, gl28, cx, ioTab]) <;> rfl) (by (conv => lhs; simp [-aI_app0, -aB_app0, -aS_app0, -aL_app0, -aI_app10, -aB_app10, -aS_app10, -aLt_app10I, -aLf_app10I, -aLt_app1I, -aLf_app1I, -getElem?_pos, List.getElem?_cons_zero, List.getElem?_cons_succ, ga28, gb28, gn28, gf28, gg28_0, gl28]) <;> rfl) ?_
    refine Wo.evs (by conv => lhs; simp [-aI_app0, -aB_app0, -aS_app0, -aL_app0, -aI_app10, -aB_app10, -aS_app10, -aLt_app10I, -aLf_app10I, -aLt_app1I, -aLf_app1I, -getElem?_pos, List.getElem?_cons_zero, List.getElem?_cons_succ, ga28, gb28, gn28, gf28, gg28_0, gl28]) ?_
    refine Wo.nil ?_
    cases h31
    refine ⟨_, (VLe.refl _), ?_⟩
    first | rfl | simp [-aI_app0, -aB_app0, -aS_app0, -aL_app0, -aI_app10, -aB_app10, -aS_app10, -aLt_app10I, -aLf_app10I, -aLt_app1I, -aLf_app1I, -getElem?_pos, List.getElem?_cons_zero, List.getElem?_cons_succ, ga28, gb28, gn28, gf28, gg28_0, gl28]
   ·rw [if_neg knh31] at h31
    refine Wo.gh (vle_co (s := 58) (t1 := .bool false) rfl (by simp) (tle_bool (by simpa using knh31)) (by conv => lhs; simp)) ?_
    refine Wo.evs (by conv => lhs; simp [-aI_app0, -aB_app0, -aS_app0, -aL_app0, -aI_app10, -aB_app10, -aS_app10, -aLt_app10I, -aLf_app10I, -aLt_app1I, -aLf_app1I, -getElem?_pos, List.getElem?_cons_zero, List.getElem?_cons_succ, ga28, gb28, gn28, gf28, gg28_0, gl28]) ?_
    refine Wo.nil ?_
    cases h31
    refine ⟨_, (VLe.refl _), ?_⟩
    first | rfl | simp [-aI_app0, -aB_app0, -aS_app0, -aL_app0, -aI_app10, -aB_app10, -aS_app10, -aLt_app10I, -aLf_app10I, -aLt_app1I, -aLf_app1I, -getElem?_pos, List.getElem?_cons_zero, List.getElem?_cons_succ, ga28, gb28, gn28, gf28, gg28_0, gl28]
  ·rintro V rfl
   generalize w30 = x_29 at *
   try dsimp only at h
   obtain ⟨w34, h35, h⟩ := bind_some h
   refine Wc.monoG (Q := (QN (fun (y : (List Bool) × (List Int)) => [(0, .v (ssl eRelation relations)), (3, .v (iT to)), (5, .v (.ptr true [(iT query.VariableCount), (ssl eAtom query.Atoms), (ssl eI query.Free)])), (10, .v (osl eB true y.1)), (11, .v (.slo 1 (arr eI true y.2))), (12, .v (iT v_19)), (49, .v (iT (query.Atoms.length : Int))), (50, .v (iT x_25))])) w34) ?_ ?_
   ·skip
    by_cases kc36 : x_29 = true
    ·rw [if_pos kc36] at h35
     refine Wc.condT' (t := _) (by conv => lhs; simp) (by simpa using kc36) ?_
     refine Wc.seq ?_
     refine Wc.kil (by conv => lhs; simp) ?_
     refine Wc.seq ?_
     have gy37 := lay_set (E := eB) (b := true) (i := x_25.toNat) (l := reached_23) true (by omega)
     simp at gy37
     refine Wc.evs (by conv => lhs; simp [-aI_app0, -aB_app0, -aS_app0, -aL_app0, -aI_app10, -aB_app10, -aS_app10, -aLt_app10I, -aLf_app10I, -aLt_app1I, -aLf_app1I, -getElem?_pos, List.getElem?_cons_zero, List.getElem?_cons_succ, ga28, gb28, gn28, gf28, gg28_0, gl28, gy37]) ?_
     refine Wo.nil ?_
     obtain ⟨l_38, h39, h35⟩ := bind_some h35
     refine Wc.evk 3 (by conv => lhs; simp [-aI_app0, -aB_app0, -aS_app0, -aL_app0, -aI_app10, -aB_app10, -aS_app10, -aLt_app10I, -aLf_app10I, -aLt_app1I, -aLf_app1I]) ?_
     refine Wo.sem (by simp) (by simp) (by simp) (sem_sappL (E := eI) (b' := false) h39 (by simp) (by decide) rfl (by (conv => lhs; simp) <;> rfl) (by (conv => lhs; simp) <;> rfl)) (by conv => lhs; simp) ?_
     refine Wo.evs (by conv => lhs; simp [-aI_app0, -aB_app0, -aS_app0, -aL_app0, -aI_app10, -aB_app10, -aS_app10, -aLt_app10I, -aLf_app10I, -aLt_app1I, -aLf_app1I]) ?_
     refine Wo.gh (vle_co (s := 11) (t1 := (osl eI true l_38)) rfl (by simp) (tle_own rfl) (by conv => lhs; simp)) ?_
     refine Wo.nil ?_
     cases h35
     exact ⟨_, (vle_of (vle_pf (s := 11) (t1 := (.slo 1 (arr eI true l_38))) rfl (by simp) (PF.le (TLe.slo rfl)) (by conv => lhs; simp)) (VLe.refl _)), rfl, by first | rfl | simp [-aI_app0, -aB_app0, -aS_app0, -aL_app0, -aI_app10, -aB_app10, -aS_app10, -aLt_app10I, -aLf_app10I, -aLt_app1I, -aLf_app1I]⟩
    ·rw [if_neg kc36] at h35
     refine Wc.condF' (t := _) (by conv => lhs; simp) (by simpa using kc36) ?_
     refine Wc.seq ?_
     refine Wc.kil (by conv => lhs; simp) ?_
     refine Wc.skip ?_
     cases h35
     exact ⟨_, (VLe.refl _), rfl, by first | rfl | simp [-aI_app0, -aB_app0, -aS_app0, -aL_app0, -aI_app10, -aB_app10, -aS_app10, -aLt_app10I, -aLf_app10I, -aLt_app1I, -aLf_app1I, -getElem?_pos, List.getElem?_cons_zero, List.getElem?_cons_succ, ga28, gb28, gn28, gf28, gg28_0, gl28]⟩
   ·skip
    obtain ⟨reached_40, todo_41⟩ := w34
    rintro ex V ⟨rfl, rfl⟩
    dsimp only at h ⊢
    refine Wc.evs (by conv => lhs; simp [-aI_app0, -aB_app0, -aS_app0, -aL_app0, -aI_app10, -aB_app10, -aS_app10, -aLt_app10I, -aLf_app10I, -aLt_app1I, -aLf_app1I]) ?_
    refine Wo.nil ?_
    refine Wc.start (V1 := [(0, .v (ssl eRelation relations)), (3, .v (iT to)), (5, .v (.ptr true [(iT query.VariableCount), (ssl eAtom query.Atoms), (ssl eI query.Free)])), (10, .v (osl eB true reached_40)), (11, .v (.slo 1 (arr eI true todo_41))), (12, .v (iT v_19)), (49, .v (iT (query.Atoms.length : Int))), (50, .v (iT (w64 (x_25 + 1))))]) ?_ (hk _ (Option.some.inj h).symm)
    first | rfl | simp [-aI_app0, -aB_app0, -aS_app0, -aL_app0, -aI_app10, -aB_app10, -aS_app10, -aLt_app10I, -aLf_app10I, -aLt_app1I, -aLf_app1I]
 ·rw [if_neg kc26] at h
  refine Wc.condF' (t := _) (by conv => lhs; simp) (by simpa using kc26) ?_
  refine Wc.seq ?_
  refine Wc.kil (by conv => lhs; simp) ?_
  refine Wc.exit ?_
  have e0 := hx _ (Option.some.inj h).symm
  subst e0
  exact ⟨_, (VLe.refl _), rfl, by first | rfl | simp [-aI_app0, -aB_app0, -aS_app0, -aL_app0, -aI_app10, -aB_app10, -aS_app10, -aLt_app10I, -aLf_app10I, -aLt_app1I, -aLf_app1I]⟩
theorem r118_0 : ∀ zs zo, iter (f118_0 relations query) zs = some zo -> Wc cx 77 (.loop L118_0) [(0, .v (ssl eRelation relations)), (3, .v (iT to)), (5, .v (.ptr true [(iT query.VariableCount), (ssl eAtom query.Atoms), (ssl eI query.Free)])), (10, .v (osl eB true zs.1)), (11, .v (.slo 1 (arr eI true zs.2)))] ((QX 0 (fun (y : (List Bool)) => [(3, .v (iT to)), (10, .v (osl eB true y))])) zo) := by
 intro zs0 zo0 zh0
 refine Wc.postG ?_
 refine iter_run (f := (f118_0 relations query)) (P := fun zs zo => Wc cx 77 (.loop L118_0) [(0, .v (ssl eRelation relations)), (3, .v (iT to)), (5, .v (.ptr true [(iT query.VariableCount), (ssl eAtom query.Atoms), (ssl eI query.Free)])), (10, .v (osl eB true zs.1)), (11, .v (.slo 1 (arr eI true zs.2)))] (fun ex V => ∃ V2, VLe V V2 /\ (QX 0 (fun (y : (List Bool)) => [(3, .v (iT to)), (10, .v (osl eB true y))])) zo ex V2)) ?_ zh0
 rintro ⟨reached_16, todo_17⟩ zo zr h hk hx
 try dsimp only at hk ⊢
 rw [f118_0] at h
 refine Wc.loop ?_
 refine Wc.seq ?_
 refine Wc.seq ?_
 refine Wc.evk 1 (by conv => lhs; simp [-aI_app0, -aB_app0, -aS_app0, -aL_app0, -aI_app10, -aB_app10, -aS_app10, -aLt_app10I, -aLf_app10I, -aLt_app1I, -aLf_app1I]) ?_
 refine Wo.sem (by simp) (by simp) (by simp) (sem_slenL (E := eI) (l := todo_17) (by (conv => lhs; simp) <;> rfl)) (by conv => lhs; simp) ?_
 refine Wo.evs (by conv => lhs; simp [-aI_app0, -aB_app0, -aS_app0, -aL_app0, -aI_app10, -aB_app10, -aS_app10, -aLt_app10I, -aLf_app10I, -aLt_app1I, -aLf_app1I]) ?_
 refine Wo.nil ?_
 by_cases kc18 : (todo_17.length : Int) > 0
 ·rw [if_pos kc18] at h
  refine Wc.condT' (t := _) (by conv => lhs; simp) (by simpa using kc18) ?_
  refine Wc.seq ?_
  refine Wc.kil (by conv => lhs; simp) ?_
  refine Wc.skip ?_
  refine Wc.block ?_
  refine Wc.seq ?_
  refine Wc.reg ?_
  obtain ⟨v_19, h20, h⟩ := bind_some h
  obtain ⟨ga20, gb20, gc20⟩ := ix_some h20
  have gn20 := ix_ne h20
  have gd20 := arr_at (E := eI) (b := false) gc20
  simp at gd20
  have gk20 : 0 < todo_17.length := by omega
  refine Wo.lend (k := 3) (s := 11) [5] [(0, .v (ssl eRelation relations)), (3, .v (iT to)), (5, .v (.ptr true [(iT query.VariableCount), (ssl eAtom query.Atoms), (ssl eI query.Free)])), (10, .v (osl eB true reached_16)), (11, .v (.slo 1 (arr eI true todo_17))), (44, .v (iT v_19))] rfl (by simp) (by simp) ?_ ?_
  ·skip
   refine Wo.evs (by conv => lhs; simp [-aI_app0, -aB_app0, -aS_app0, -aL_app0, -aI_app10, -aB_app10, -aS_app10, -aLt_app10I, -aLf_app10I, -aLt_app1I, -aLf_app1I, gb20, gn20, gd20, gk20]) ?_
   refine Wo.nil ?_
   simp
  refine Wo.evs (by conv => lhs; simp [-aI_app0, -aB_app0, -aS_app0, -aL_app0, -aI_app10, -aB_app10, -aS_app10, -aLt_app10I, -aLf_app10I, -aLt_app1I, -aLf_app1I, gb20, gn20, gd20, gk20]) ?_
  refine Wo.nil ?_
  refine Wc.seq ?_
  obtain ⟨l_21, h22, h⟩ := bind_some h
  refine Wc.evk 1 (by conv => lhs; simp [-aI_app0, -aB_app0, -aS_app0, -aL_app0, -aI_app10, -aB_app10, -aS_app10, -aLt_app10I, -aLf_app10I, -aLt_app1I, -aLf_app1I]) ?_
  refine Wo.sem (by simp) (by simp) (by simp) (sem_slideL (E := eI) h22 (by simp) (by (conv => lhs; simp) <;> rfl) (by simp)) (by conv => lhs; simp) ?_
  refine Wo.evs (by conv => lhs; simp [-aI_app0, -aB_app0, -aS_app0, -aL_app0, -aI_app10, -aB_app10, -aS_app10, -aLt_app10I, -aLf_app10I, -aLt_app1I, -aLf_app1I]) ?_
  refine Wo.nil ?_
  refine Wc.seq ?_
  refine Wc.evs (by conv => lhs; simp [-aI_app0, -aB_app0, -aS_app0, -aL_app0, -aI_app10, -aB_app10, -aS_app10, -aLt_app10I, -aLf_app10I, -aLt_app1I, -aLf_app1I]) ?_
  refine Wo.nil ?_
  refine Wc.block ?_
  obtain ⟨w42, h43, h⟩ := bind_some h
  refine Wc.start (V1 := [(0, .v (ssl eRelation relations)), (3, .v (iT to)), (5, .v (.ptr true [(iT query.VariableCount), (ssl eAtom query.Atoms), (ssl eI query.Free)])), (10, .v (osl eB true reached_16)), (11, .v (.slo 1 (arr eI true l_21))), (12, .v (iT v_19)), (49, .v (iT (query.Atoms.length : Int))), (50, .v (iT 0))]) (by first | rfl | simp [-aI_app0, -aB_app0, -aS_app0, -aL_app0, -aI_app10, -aB_app10, -aS_app10, -aLt_app10I, -aLf_app10I, -aLt_app1I, -aLf_app1I]) ?_
  refine Wc.mono (r118_1 _ _ h43) ?_
  obtain ⟨reached_44, todo_45⟩ := w42
  rintro ex V ⟨rfl, rfl⟩
  dsimp only at h ⊢
  refine Wc.start (V1 := [(0, .v (ssl eRelation relations)), (3, .v (iT to)), (5, .v (.ptr true [(iT query.VariableCount), (ssl eAtom query.Atoms), (ssl eI query.Free)])), (10, .v (osl eB true reached_44)), (11, .v (.slo 1 (arr eI true todo_45)))]) ?_ (hk _ (Option.some.inj h).symm)
  first | rfl | simp [-aI_app0, -aB_app0, -aS_app0, -aL_app0, -aI_app10, -aB_app10, -aS_app10, -aLt_app10I, -aLf_app10I, -aLt_app1I, -aLf_app1I]
 ·rw [if_neg kc18] at h
  refine Wc.condF' (t := _) (by conv => lhs; simp) (by simpa using kc18) ?_
  refine Wc.seq ?_
  refine Wc.kil (by conv => lhs; simp) ?_
  refine Wc.exit ?_
  have e0 := hx _ (Option.some.inj h).symm
  subst e0
  exact ⟨_, (VLe.refl _), rfl, by first | rfl | simp [-aI_app0, -aB_app0, -aS_app0, -aL_app0, -aI_app10, -aB_app10, -aS_app10, -aLt_app10I, -aLf_app10I, -aLt_app1I, -aLf_app1I]⟩
theorem r118 {relations : (List Relation)} {query : Query} {from2 : Int} {to : Int} {r : Bool} (h : f118 relations query from2 to = some r) : VJx cx (.ca 118 [(ssl eRelation relations), (.agg [(iT query.VariableCount), (ssl eAtom query.Atoms), (ssl eI query.Free)]), (iT from2), (iT to)] (.bool r) []) := by
 unfold f118 at h
 refine ca_of rfl rfl (by decide) rfl ?_
 refine Wc.postG ?_
 refine Wc.start (V1 := [(0, .v (ssl eRelation relations)), (1, .v (.agg [(iT query.VariableCount), (ssl eAtom query.Atoms), (ssl eI query.Free)])), (2, .v (iT from2)), (3, .v (iT to))]) (by simp) ?_
 refine Wc.seq ?_
 refine Wc.evs (by conv => lhs; simp [-aI_app0, -aB_app0, -aS_app0, -aL_app0, -aI_app10, -aB_app10, -aS_app10, -aLt_app10I, -aLf_app10I, -aLt_app1I, -aLf_app1I]) ?_
 refine Wo.nil ?_
 refine Wc.seq ?_
 refine Wc.evs (by conv => lhs; simp [-aI_app0, -aB_app0, -aS_app0, -aL_app0, -aI_app10, -aB_app10, -aS_app10, -aLt_app10I, -aLf_app10I, -aLt_app1I, -aLf_app1I]) ?_
 refine Wo.nil ?_
 refine Wc.seq ?_
 refine Wc.seq ?_
 refine Wc.evs (by conv => lhs; simp [-aI_app0, -aB_app0, -aS_app0, -aL_app0, -aI_app10, -aB_app10, -aS_app10, -aLt_app10I, -aLf_app10I, -aLt_app1I, -aLf_app1I]) ?_
 obtain ⟨o1, h2, h⟩ := bind_some h
 refine Wo.call rfl rfl (by (conv => lhs; simp [-aI_app0, -aB_app0, -aS_app0, -aL_app0, -aI_app10, -aB_app10, -aS_app10, -aLt_app10I, -aLf_app10I, -aLt_app1I, -aLf_app1I, cx, ioTab]) <;> rfl) (run_ h2) (by simp) (by simp) (by (conv => lhs; simp [-aI_app0, -aB_app0, -aS_app0, -aL_app0, -aI_app10, -aB_app10, -aS_app10, -aLt_app10I, -aLf_app10I, -aLt_app1I, -aLf_app1I, cx, ioTab]) <;> rfl) (by (conv => lhs; simp [-aI_app0, -aB_app0, -aS_app0, -aL_app0, -aI_app10, -aB_app10, -aS_app10, -aLt_app10I, -aLf_app10I, -aLt_app1I, -aLf_app1I]) <;> rfl) ?_
 refine Wo.evk 2 (by conv => lhs; simp [-aI_app0, -aB_app0, -aS_app0, -aL_app0, -aI_app10, -aB_app10, -aS_app10, -aLt_app10I, -aLf_app10I, -aLt_app1I, -aLf_app1I]) ?_
 obtain ⟨w4, h5, h⟩ := bind_some h
 refine Wo.monoG (Q := fun V => V = [(0, .v (ssl eRelation relations)), (2, .v (iT from2)), (3, .v (iT to)), (5, .v (.ptr true [(iT query.VariableCount), (ssl eAtom query.Atoms), (ssl eI query.Free)])), (9, .v (iT (w64 ((query.Atoms.length : Int) - 1)))), (33, .v (.bool w4))]) ?_ ?_
 ·by_cases knh5 : ¬ (o1 = true)
  ·rw [if_pos knh5] at h5
   refine Wo.gh (vle_co (s := 22) (t1 := .bool true) rfl (by simp) (tle_bool (by simpa using knh5)) (by conv => lhs; simp)) ?_
   refine Wo.evs (by conv => lhs; simp [-aI_app0, -aB_app0, -aS_app0, -aL_app0, -aI_app10, -aB_app10, -aS_app10, -aLt_app10I, -aLf_app10I, -aLt_app1I, -aLf_app1I]) ?_
   refine Wo.nil ?_
   cases h5
   refine ⟨_, (VLe.refl _), ?_⟩
   first | rfl | simp [-aI_app0, -aB_app0, -aS_app0, -aL_app0, -aI_app10, -aB_app10, -aS_app10, -aLt_app10I, -aLf_app10I, -aLt_app1I, -aLf_app1I]
  ·rw [if_neg knh5] at h5
   refine Wo.gh (vle_co (s := 22) (t1 := .bool false) rfl (by simp) (tle_bool (by simpa using knh5)) (by conv => lhs; simp)) ?_
   refine Wo.evs (by conv => lhs; simp [-aI_app0, -aB_app0, -aS_app0, -aL_app0, -aI_app10, -aB_app10, -aS_app10, -aLt_app10I, -aLf_app10I, -aLt_app1I, -aLf_app1I]) ?_
   obtain ⟨o6, h7, h5⟩ := bind_some h5
   refine Wo.call (by simp [-aI_app0, -aB_app0, -aS_app0, -aL_app0, -aI_app10, -aB_app10, -aS_app10, -aLt_app10I, -aLf_app10I, -aLt_app1I, -aLf_app1I]) rfl (by (conv => lhs; simp [-aI_app0, -aB_app0, -aS_app0, -aL_app0, -aI_app10, -aB_app10, -aS_app10, -aLt_app10I, -aLf_app10I, -aLt_app1I, -aLf_app1I, cx, ioTab]) <;> rfl) (run_ h7) (by simp) (by simp) (by (conv => lhs; simp [-aI_app0, -aB_app0, -aS_app0, -aL_app0, -aI_app10, -aB_app10, -aS_app10, -aLt_app10I, -aLf_app10I, -aLt_app1I, -aLf_app1I, cx, ioTab]) <;> rfl) (by (conv => lhs; simp [-aI_app0, -aB_app0, -aS_app0, -aL_app0, -aI_app10, -aB_app10, -aS_app10, -aLt_app10I, -aLf_app10I, -aLt_app1I, -aLf_app1I]) <;> rfl) ?_
   refine Wo.evk 3 (by conv => lhs; simp [-aI_app0, -aB_app0, -aS_app0, -aL_app0, -aI_app10, -aB_app10, -aS_app10, -aLt_app10I, -aLf_app10I, -aLt_app1I, -aLf_app1I]) ?_
   obtain ⟨w9, h10, h5⟩ := bind_some h5
   refine Wo.monoG (Q := fun V => V = [(0, .v (ssl eRelation relations)), (2, .v (iT from2)), (3, .v (iT to)), (5, .v (.ptr true [(iT query.VariableCount), (ssl eAtom query.Atoms), (ssl eI query.Free)])), (9, .v (iT (w64 ((query.Atoms.length : Int) - 1)))), (33, .v (.bool w9))]) ?_ ?_
   ·by_cases knh10 : ¬ (o6 = true)
    ·rw [if_pos knh10] at h10
     refine Wo.gh (vle_co (s := 28) (t1 := .bool true) rfl (by simp) (tle_bool (by simpa using knh10)) (by conv => lhs; simp)) ?_
     refine Wo.evs (by conv => lhs; simp [-aI_app0, -aB_app0, -aS_app0, -aL_app0, -aI_app10, -aB_app10, -aS_app10, -aLt_app10I, -aLf_app10I, -aLt_app1I, -aLf_app1I]) ?_
     refine Wo.nil ?_
     cases h10
     refine ⟨_, (VLe.refl _), ?_⟩
     first | rfl | simp [-aI_app0, -aB_app0, -aS_app0, -aL_app0, -aI_app10, -aB_app10, -aS_app10, -aLt_app10I, -aLf_app10I, -aLt_app1I, -aLf_app1I]
    ·rw [if_neg knh10] at h10
     refine Wo.gh (vle_co (s := 28) (t1 := .bool false) rfl (by simp) (tle_bool (by simpa using knh10)) (by conv => lhs; simp)) ?_
     refine Wo.evs (by conv => lhs; simp [-aI_app0, -aB_app0, -aS_app0, -aL_app0, -aI_app10, -aB_app10, -aS_app10, -aLt_app10I, -aLf_app10I, -aLt_app1I, -aLf_app1I]) ?_
     obtain ⟨o11, h12, h10⟩ := bind_some h10
     refine Wo.call (by simp [-aI_app0, -aB_app0, -aS_app0, -aL_app0, -aI_app10, -aB_app10, -aS_app10, -aLt_app10I, -aLf_app10I, -aLt_app1I, -aLf_app1I]) rfl (by (conv => lhs; simp [-aI_app0, -aB_app0, -aS_app0, -aL_app0, -aI_app10, -aB_app10, -aS_app10, -aLt_app10I, -aLf_app10I, -aLt_app1I, -aLf_app1I, cx, ioTab]) <;> rfl) (run_ h12) (by simp) (by simp) (by (conv => lhs; simp [-aI_app0, -aB_app0, -aS_app0, -aL_app0, -aI_app10, -aB_app10, -aS_app10, -aLt_app10I, -aLf_app10I, -aLt_app1I, -aLf_app1I, cx, ioTab]) <;> rfl) (by (conv => lhs; simp [-aI_app0, -aB_app0, -aS_app0, -aL_app0, -aI_app10, -aB_app10, -aS_app10, -aLt_app10I, -aLf_app10I, -aLt_app1I, -aLf_app1I]) <;> rfl) ?_
     refine Wo.evs (by conv => lhs; simp [-aI_app0, -aB_app0, -aS_app0, -aL_app0, -aI_app10, -aB_app10, -aS_app10, -aLt_app10I, -aLf_app10I, -aLt_app1I, -aLf_app1I]) ?_
     refine Wo.nil ?_
     cases h10
     refine ⟨_, (VLe.refl _), ?_⟩
     first | rfl | simp [-aI_app0, -aB_app0, -aS_app0, -aL_app0, -aI_app10, -aB_app10, -aS_app10, -aLt_app10I, -aLf_app10I, -aLt_app1I, -aLf_app1I]
   ·rintro V rfl
    generalize w9 = x_8 at *
    try dsimp only at h5
    cases h5
    refine ⟨_, (VLe.refl _), ?_⟩
    first | rfl | simp [-aI_app0, -aB_app0, -aS_app0, -aL_app0, -aI_app10, -aB_app10, -aS_app10, -aLt_app10I, -aLf_app10I, -aLt_app1I, -aLf_app1I]
 ·rintro V rfl
  generalize w4 = x_3 at *
  try dsimp only at h
  by_cases kc13 : x_3 = true
  ·rw [if_pos kc13] at h
   refine Wc.condT' (t := _) (by conv => lhs; simp) (by simpa using kc13) ?_
   refine Wc.seq ?_
   refine Wc.kil (by conv => lhs; simp) ?_
   refine Wc.seq ?_
   refine Wc.evs (by conv => lhs; simp [-aI_app0, -aB_app0, -aS_app0, -aL_app0, -aI_app10, -aB_app10, -aS_app10, -aLt_app10I, -aLf_app10I, -aLt_app1I, -aLf_app1I]) ?_
   refine Wo.nil ?_
   refine Wc.ret ⟨_, (VLe.refl _), res_of (.inr rfl) ?_⟩
   cases h
   exact ⟨_, _, _, by conv => lhs; simp, by (conv => lhs; simp [cx, ioTab, List.range, List.range.loop]) <;> rfl, by first | rfl | simp [-aI_app0, -aB_app0, -aS_app0, -aL_app0, -aI_app10, -aB_app10, -aS_app10, -aLt_app10I, -aLf_app10I, -aLt_app1I, -aLf_app1I]⟩
  ·rw [if_neg kc13] at h
   refine Wc.condF' (t := _) (by conv => lhs; simp) (by simpa using kc13) ?_
   refine Wc.seq ?_
   refine Wc.kil (by conv => lhs; simp) ?_
   refine Wc.skip ?_
   refine Wc.seq ?_
   obtain ⟨l_14, h15, h⟩ := bind_some h
   obtain ⟨gm15, gp15, gq15, gr15⟩ := mkl_some h15
   have gx15 := rep_arr (E := eB) (b := true) gr15
   simp [-aI_app0, -aB_app0, -aS_app0, -aL_app0, -aLt_app1I, -aLf_app1I, -aLt_app10I, -aLf_app10I] at gx15
   rw [Int.one_mul] at gp15
   refine Wc.evs (by conv => lhs; simp [-aI_app0, -aB_app0, -aS_app0, -aL_app0, -aI_app10, -aB_app10, -aS_app10, -aLt_app10I, -aLf_app10I, -aLt_app1I, -aLf_app1I, gm15, gp15, gq15, gx15]) ?_
   refine Wo.gh (vle_co (s := 10) (t1 := (osl eB true l_14)) rfl (by simp) (tle_own rfl) (by conv => lhs; simp)) ?_
   refine Wo.nil ?_
   refine Wc.seq ?_
   refine Wc.evs (by conv => lhs; simp [-aI_app0, -aB_app0, -aS_app0, -aL_app0, -aI_app10, -aB_app10, -aS_app10, -aLt_app10I, -aLf_app10I, -aLt_app1I, -aLf_app1I]) ?_
   refine Wo.gh (vle_co (s := 11) (t1 := (osl eI true ([from2]))) rfl (by simp) (TLe.own (show TLes _ [(iT from2)] from (TLes.cons (TLe.refl _) (TLes.refl _))) rfl) (by conv => lhs; simp)) ?_
   refine Wo.nil ?_
   refine Wc.seq ?_
   refine Wc.block ?_
   refine Wc.gh (vle_pf (s := 11) (t1 := (.slo 1 (arr eI true ([from2])))) rfl (by simp) (PF.le (TLe.slo rfl)) (by conv => lhs; simp)) ?_
   obtain ⟨w46, h47, h⟩ := bind_some h
   refine Wc.start (V1 := [(0, .v (ssl eRelation relations)), (3, .v (iT to)), (5, .v (.ptr true [(iT query.VariableCount), (ssl eAtom query.Atoms), (ssl eI query.Free)])), (10, .v (osl eB true l_14)), (11, .v (.slo 1 (arr eI true ([from2]))))]) (by first | rfl | simp [-aI_app0, -aB_app0, -aS_app0, -aL_app0, -aI_app10, -aB_app10, -aS_app10, -aLt_app10I, -aLf_app10I, -aLt_app1I, -aLf_app1I]) ?_
   refine Wc.mono (r118_0 _ _ h47) ?_
   generalize w46 = reached_48 at *
   rintro ex V ⟨rfl, rfl⟩
   try dsimp only at h
   refine Wc.seq ?_
   obtain ⟨v_49, h50, h⟩ := bind_some h
   obtain ⟨ga50, gb50, gc50⟩ := ix_some h50
   have gn50 := ix_ne h50
   have gf50 := arr_fit (E := eB) (b := true) (i := to.toNat) (l := reached_48) (by omega)
   have gg50_0 := arr_get (E := eB) (b := true) (o := 0) gc50 (by decide)
   simp at gf50 gg50_0
   have gl50 : to.toNat < reached_48.length := by omega
   refine Wc.evs (by conv => lhs; simp [-aI_app0, -aB_app0, -aS_app0, -aL_app0, -aI_app10, -aB_app10, -aS_app10, -aLt_app10I, -aLf_app10I, -aLt_app1I, -aLf_app1I, -getElem?_pos, List.getElem?_cons_zero, List.getElem?_cons_succ, ga50, gb50, gn50, gf50, gg50_0, gl50]) ?_
   refine Wo.nil ?_
   refine Wc.ret ⟨_, (VLe.refl _), res_of (.inr rfl) ?_⟩
   cases h
   exact ⟨_, _, _, by conv => lhs; simp, by (conv => lhs; simp [cx, ioTab, List.range, List.range.loop]) <;> rfl, by first | rfl | simp [-aI_app0, -aB_app0, -aS_app0, -aL_app0, -aI_app10, -aB_app10, -aS_app10, -aLt_app10I, -aLf_app10I, -aLt_app1I, -aLf_app1I, -getElem?_pos, List.getElem?_cons_zero, List.getElem?_cons_succ, ga50, gb50, gn50, gf50, gg50_0, gl50]⟩
instance i118 : Rn cx (f118 relations query from2 to) 118 [(ssl eRelation relations), (.agg [(iT query.VariableCount), (ssl eAtom query.Atoms), (ssl eI query.Free)]), (iT from2), (iT to)] (fun (r : Bool) => (.bool r)) (fun r => []) := ⟨fun _ h => r118 h⟩
instance : Io0 cx 118 := ⟨rfl⟩
instance i119_0 : Lp cx (f119_0 relations query) 18 L119_0 (fun (zs : Int) => [(0, .v (ssl eRelation relations)), (3, .v (.ptr true [(iT query.VariableCount), (ssl eAtom query.Atoms), (ssl eI query.Free)])), (8, .v (iT (query.Atoms.length : Int))), (9, .v (iT zs))]) (QO (QX 0 (fun (y : Unit) => [])) (QR (fun (y : Bool) => [(4, .v (.bool y))]))) := Lp.of (by unfold f119_0; exact go)
instance i119 : Rn cx (f119 relations query) 119 [(ssl eRelation relations), (.agg [(iT query.VariableCount), (ssl eAtom query.Atoms), (ssl eI query.Free)])] (fun (r : Bool) => (.bool r)) (fun r => []) := Rn.o rfl (by unfold f119; exact go)
instance : Io0 cx 119 := ⟨rfl⟩
instance i51_1 {x_4 : Int} : Lp cx (f51_1 relations query x_4) 48 L51_1 (fun (zs : Int) => [(0, .v (ssl eRelation relations)), (3, .v (.ptr true [(iT query.VariableCount), (ssl eAtom query.Atoms), (ssl eI query.Free)])), (5, .v (iT x_4)), (13, .v (iT (query.Atoms.length : Int))), (14, .v (iT x_4)), (19, .v (iT (query.Atoms.length : Int))), (20, .v (iT zs))]) (QO (QX 2 (fun (y : Unit) => [(0, .v (ssl eRelation relations)), (3, .v (.ptr true [(iT query.VariableCount), (ssl eAtom query.Atoms), (ssl eI query.Free)])), (13, .v (iT (query.Atoms.length : Int))), (14, .v (iT x_4))])) (QR (fun (y : Int) => [(4, .v (iT y))]))) := Lp.of (f := (fun
 | x_6 =>
  if x_6 < (query.Atoms.length : Int) then
  (f116 relations query x_4 x_6).bind fun o8 =>
  (jn (QN (fun (y : Bool) => [(0, .v (ssl eRelation relations)), (3, .v (.ptr true [(iT query.VariableCount), (ssl eAtom query.Atoms), (ssl eI query.Free)])), (5, .v (iT x_4)), (13, .v (iT (query.Atoms.length : Int))), (14, .v (iT x_4)), (19, .v (iT (query.Atoms.length : Int))), (20, .v (iT x_6)), (42, .v (.bool y))])) ((if o8 = true then
  (f117 relations query x_4 x_6).bind fun o13 =>
  (jn (QN (fun (y : Bool) => [(0, .v (ssl eRelation relations)), (3, .v (.ptr true [(iT query.VariableCount), (ssl eAtom query.Atoms), (ssl eI query.Free)])), (5, .v (iT x_4)), (13, .v (iT (query.Atoms.length : Int))), (14, .v (iT x_4)), (19, .v (iT (query.Atoms.length : Int))), (20, .v (iT x_6)), (42, .v (.bool y))])) ((if ¬ (o13 = true) then
  (f118 relations query x_6 x_4).bind fun o18 =>
  some o18
  else
  some false) : Option (Bool))).bind fun x_15 =>
  some x_15
  else
  some false) : Option (Bool))).bind fun x_10 =>
  if x_10 = true then
  some (.inr (.inr 3))
  else
  some (.inl (w64 (x_6 + 1)))
  else
  some (.inr (.inl ())) : Int -> Option (Int ⊕ (Unit ⊕ Int)))) (by exact go)
instance i51_0 : Lp cx (f51_0 relations query) 48 L51_0 (fun (zs : Int) => [(0, .v (ssl eRelation relations)), (3, .v (.ptr true [(iT query.VariableCount), (ssl eAtom query.Atoms), (ssl eI query.Free)])), (13, .v (iT (query.Atoms.length : Int))), (14, .v (iT zs))]) (QO (QX 0 (fun (y : Unit) => [(0, .v (ssl eRelation relations)), (3, .v (.ptr true [(iT query.VariableCount), (ssl eAtom query.Atoms), (ssl eI query.Free)]))])) (QR (fun (y : Int) => [(4, .v (iT y))]))) := Lp.of (by unfold f51_0; exact go)
instance i51 : Rn cx (f51 relations query) 51 [(ssl eRelation relations), (.agg [(iT query.VariableCount), (ssl eAtom query.Atoms), (ssl eI query.Free)])] (fun (r : Int) => (iT r)) (fun r => []) := Rn.o rfl (by unfold f51; exact go)
instance : Io0 cx 51 := ⟨rfl⟩
instance i52_1 {out_1 : (List Int)} {x_2 : Int} : Lp cx (lw out_1 (f52_1 relations atoms free x_2)) 40 L52_1 (fun (zs : Bool × Int) => [(0, .v (ssl eRelation relations)), (1, .v (ssl eAtom atoms)), (2, .v (ssl eI free)), (7, .v (osl eI true out_1)), (8, .v (iT x_2)), (9, .v (.bool zs.1)), (13, .v (iT (atoms.length : Int))), (14, .v (iT x_2)), (18, .v (iT (atoms.length : Int))), (19, .v (iT zs.2))]) (QX 2 (fun (y : Bool) => [(0, .v (ssl eRelation relations)), (1, .v (ssl eAtom atoms)), (2, .v (ssl eI free)), (7, .v (osl eI true out_1)), (8, .v (iT x_2)), (9, .v (.bool y)), (13, .v (iT (atoms.length : Int))), (14, .v (iT x_2))])) := Lp.of (f := (fun
 | (is_4, x_5) =>
  if x_5 < (atoms.length : Int) then
  (jn (QN (fun (y : Bool) => [(0, .v (ssl eRelation relations)), (1, .v (ssl eAtom atoms)), (2, .v (ssl eI free)), (7, .v (osl eI true out_1)), (8, .v (iT x_2)), (9, .v (.bool y)), (13, .v (iT (atoms.length : Int))), (14, .v (iT x_2)), (18, .v (iT (atoms.length : Int))), (19, .v (iT x_5))])) ((if is_4 = true then
  (f120 relations atoms free x_5 x_2).bind fun o10 =>
  some (decide (¬ (o10 = true)))
  else
  some false) : Option (Bool))).bind fun is_7 =>
  some (.inl (is_7, w64 (x_5 + 1)))
  else
  some (.inr is_4) : Bool × Int -> Option ((Bool × Int) ⊕ Bool))) (by exact go)
instance i52_0 : Lp cx (f52_0 relations atoms free) 40 L52_0 (fun (zs : (List Int) × Int) => [(0, .v (ssl eRelation relations)), (1, .v (ssl eAtom atoms)), (2, .v (ssl eI free)), (7, .v (osl eI true zs.1)), (13, .v (iT (atoms.length : Int))), (14, .v (iT zs.2))]) (QX 0 (fun (y : (List Int)) => [(7, .v (osl eI true y))])) := Lp.of (f := (fun
 | (out_1, x_2) =>
  if x_2 < (atoms.length : Int) then
  (iter (lw out_1  (f52_1 relations atoms free x_2)) (true, 0)).bind fun is_14 =>
  (jn (QN (fun (y : (List Int)) => [(0, .v (ssl eRelation relations)), (1, .v (ssl eAtom atoms)), (2, .v (ssl eI free)), (7, .v (osl eI true y)), (13, .v (iT (atoms.length : Int))), (14, .v (iT x_2))])) ((if is_14 = true then
  (app 8 out_1 ([x_2])).bind fun l_18 =>
  some l_18
  else
  some out_1) : Option (List Int))).bind fun out_20 =>
  some (.inl (out_20, w64 (x_2 + 1)))
  else
  some (.inr out_1) : (List Int) × Int -> Option (((List Int) × Int) ⊕ (List Int)))) (by exact go)
instance i52 : Rn cx (f52 relations atoms free) 52 [(ssl eRelation relations), (ssl eAtom atoms), (ssl eI free)] (fun (r : (List Int)) => (osl eI true r)) (fun r => []) := Rn.o (e := (
  sn 3 7 (osl eI true ([])) <| 
  (iter (f52_0 relations atoms free) ([], 0)).bind fun out_23 =>
  some out_23 : Option (List Int))) rfl (by exact go)
instance : Io0 cx 52 := ⟨rfl⟩
instance i53 : Rn cx (f53 atom) 53 [(.agg [(iT atom.Relation), (ssl eI atom.Terms)])] (fun (r : Atom) => (.agg [(iT r.Relation), (osl eI true r.Terms)])) (fun r => []) := Rn.o (e := (
  sn 2 2 (.ptr true [(iT 0), (osl eI true ([]))]) <| 
  (app 8 ([]) atom.Terms).bind fun l_1 =>
  sn 6 8 (osl eI true l_1) <| 
  some ({ Relation := atom.Relation, Terms := l_1 } : Atom) : Option Atom)) rfl (by exact go)
instance : Io0 cx 53 := ⟨rfl⟩
theorem r59 {s0 : (List Atom)} {r : (List Atom)} (h : f59 s0 = some r) : VJx cx (.ca 59 [(ssl eAtom s0)] (osl eAtom false r) []) := by
 unfold f59 at h
 refine ca_clone (X := noExt) (fun _ _ _ _ h => h) (fun _ _ _ _ h => h) rfl (by decide) rfl (cl_eq h) ?_
 refine Wc.start (V1 := [(0, .v (ssl eAtom s0))]) (by simp) ?_
 refine Wc.seq ?_
 obtain ⟨l_1, h2, h⟩ := bind_some h
 have gx2 := appT_arr (E := eAtom) (b := false) (y := false) h2 (by decide)
 simp [-aI_app0, -aB_app0, -aS_app0, -aL_app0, -aLt_app1I, -aLf_app1I, -aLt_app10I, -aLf_app10I] at gx2
 refine Wc.evs (by conv => lhs; simp [-aI_app0, -aB_app0, -aS_app0, -aL_app0, -aI_app10, -aB_app10, -aS_app10, -aLt_app10I, -aLf_app10I, -aLt_app1I, -aLf_app1I, gx2, h2]) ?_
 refine Wo.gh (vle_co (s := 2) (t1 := (osl eAtom false l_1)) rfl (by simp) (tle_own rfl) (by conv => lhs; simp)) ?_
 refine Wo.nil ?_
 refine Wc.ret (res_of (.inr rfl) ?_)
 cases h
 exact ⟨_, _, _, by conv => lhs; simp, by (conv => lhs; simp [cx, ioTab, List.range, List.range.loop]) <;> rfl, by first | rfl | simp [-aI_app0, -aB_app0, -aS_app0, -aL_app0, -aI_app10, -aB_app10, -aS_app10, -aLt_app10I, -aLf_app10I, -aLt_app1I, -aLf_app1I, gx2, h2]⟩
instance i59 {s0 : (List Atom)} : Rn cx (f59 s0) 59 [(ssl eAtom s0)] (fun (r : (List Atom)) => (osl eAtom false r)) (fun r => []) := ⟨fun _ h => r59 h⟩
instance : Io0 cx 59 := ⟨rfl⟩
theorem r58 {a0 : (List Atom)} {a1 a2 : Int} {r : (List Atom)} (h : f58 a0 a1 a2 = some r) : VJx cx (.ca 58 [(osl eAtom false a0), .int .i64 a1, .int .i64 a2] (ssl eAtom r) [.und]) := by
 exact ca_del (E := eAtom) (zs := [.int .i64 (0), .nils]) (fun _ _ _ _ h => h) rfl rfl (by decide) rfl rfl h
instance i58 {a0 : (List Atom)} {a1 a2 : Int} : Rn cx (f58 a0 a1 a2) 58 [(osl eAtom false a0), .int .i64 a1, .int .i64 a2] (fun r => ssl eAtom r) (fun r => [.und]) := ⟨fun _ h => r58 h⟩
instance i11_0 : Lp cx (lw query (f11_0 relations)) 71 L11_0 (fun (zs : (List RewritingStep) × (List Int) × (List Atom)) => [(0, .v (ssl eRelation relations)), (3, .v (.ptr true [(iT query.VariableCount), (ssl eAtom query.Atoms), (ssl eI query.Free)])), (6, .v (osl eRewritingStep true zs.1)), (7, .v (ssl eI zs.2.1)), (8, .v (ssl eAtom zs.2.2))]) (QO (QX 0 (fun (y : (List RewritingStep)) => [(6, .v (osl eRewritingStep true y))])) (QR (fun (y : (List RewritingStep) × Bool) => [(4, .v (osl eRewritingStep true y.1)), (5, .v (.bool y.2))]))) := Lp.of (f := (fun
 | (out_4, free_5, atoms_6) =>
  if (atoms_6.length : Int) > 0 then
  (f52 relations atoms_6 free_5).bind fun o8 =>
  if (o8.length : Int) = 0 then
  sn 2 4 (osl eRewritingStep true ([])) <| 
  some (.inr (.inr ([], false)))
  else
  (ix o8 0).bind fun v_11 =>
  (ix atoms_6 v_11).bind fun v_13 =>
  (f53 v_13).bind fun o15 =>
  (f54 relations o15).bind fun o17 =>
  (f55 o15).bind fun o19 =>
  (f56 o17 free_5).bind fun o21 =>
  (f56 o19 o17).bind fun o23 =>
  (f56 o23 free_5).bind fun o25 =>
  (app 80 out_4 ([({ Atom := o15, Existential := o21, Universal := o25 } : RewritingStep)])).bind fun l_27 =>
  (f57 free_5 o19).bind fun o29 =>
  sn 1 7 (ssl eI o29) <| 
  (f59 atoms_6).bind fun o31 =>
  (f58 o31 v_11 (w64 (v_11 + 1))).bind fun o33 =>
  some (.inl (l_27, o29, o33))
  else
  some (.inr (.inl out_4)) : (List RewritingStep) × (List Int) × (List Atom) -> Option (((List RewritingStep) × (List Int) × (List Atom)) ⊕ ((List RewritingStep) ⊕ ((List RewritingStep) × Bool))))) (by exact go)
instance i11 : Rn cx (f11 relations query) 11 [(ssl eRelation relations), (.agg [(iT query.VariableCount), (ssl eAtom query.Atoms), (ssl eI query.Free)])] (fun (r : (List RewritingStep) × Bool) => (.tup [(osl eRewritingStep true r.1), (.bool r.2)])) (fun r => []) := Rn.o (e := (
  (f51 relations query).bind fun o1 =>
  if o1 ≠ 1 then
  sn 2 4 (osl eRewritingStep true ([])) <| 
  some ([], false)
  else
  sn 8 6 (osl eRewritingStep true ([])) <| 
  (iter (lw query  (f11_0 relations)) ([], query.Free, query.Atoms)).bind fun o => match o with
  | .inl out_37 =>
  some (out_37, true)
  | .inr (x_38, x_39) =>
  some (x_38, x_39) : Option ((List RewritingStep) × Bool))) rfl (by exact go)
instance : Io0 cx 11 := ⟨rfl⟩
instance i63_0 : Lp cx (f63_0 a b) 26 L63_0 (fun (zs : Int) => [(0, .v (ssl eI a)), (1, .v (ssl eI b)), (5, .v (iT zs))]) (QO (QX 0 (fun (y : Unit) => [])) (QR (fun (y : Bool) => [(4, .v (.bool y))]))) := Lp.of (by unfold f63_0; exact go)
instance i63 : Rn cx (f63 a b) 63 [(ssl eI a), (ssl eI b)] (fun (r : Bool) => (.bool r)) (fun r => []) := Rn.o rfl (by unfold f63; exact go)
instance : Io0 cx 63 := ⟨rfl⟩
instance i125 {a : Atom} {b : Atom} : Rn cx (f125 a b) 125 [(.agg [(iT a.Relation), (ssl eI a.Terms)]), (.agg [(iT b.Relation), (ssl eI b.Terms)])] (fun (r : Bool) => (.bool r)) (fun r => []) := Rn.o rfl (by unfold f125; exact go)
instance : Io0 cx 125 := ⟨rfl⟩
instance i60 {a : RewritingStep} {b : RewritingStep} : Rn cx (f60 a b) 60 [(.agg [(iT a.Atom.Relation), (ssl eI a.Atom.Terms), (ssl eI a.Existential), (ssl eI a.Universal)]), (.agg [(iT b.Atom.Relation), (ssl eI b.Atom.Terms), (ssl eI b.Existential), (ssl eI b.Universal)])] (fun (r : Bool) => (.bool r)) (fun r => []) := Rn.o rfl (by unfold f60; exact go)
instance : Io0 cx 60 := ⟨rfl⟩
instance i12_0 {a : (List RewritingStep)} {b : (List RewritingStep)} : Lp cx (f12_0 a b) 27 L12_0 (fun (zs : Int) => [(0, .v (ssl eRewritingStep a)), (1, .v (ssl eRewritingStep b)), (5, .v (iT zs))]) (QO (QX 0 (fun (y : Unit) => [])) (QR (fun (y : Bool) => [(4, .v (.bool y))]))) := Lp.of (by unfold f12_0; exact go)
instance i12 {a : (List RewritingStep)} {b : (List RewritingStep)} : Rn cx (f12 a b) 12 [(ssl eRewritingStep a), (ssl eRewritingStep b)] (fun (r : Bool) => (.bool r)) (fun r => []) := Rn.o rfl (by unfold f12; exact go)
instance : Io0 cx 12 := ⟨rfl⟩
instance i61 {a : Relation} {b : Relation} : Rn cx (f61 a b) 61 [(.agg [(.str a.Name), (iT a.Arity), (iT a.KeyLength)]), (.agg [(.str b.Name), (iT b.Arity), (iT b.KeyLength)])] (fun (r : Bool) => (.bool r)) (fun r => []) := Rn.o rfl (by unfold f61; exact go)
instance : Io0 cx 61 := ⟨rfl⟩
instance i13_0 {a : (List Relation)} {b : (List Relation)} : Lp cx (f13_0 a b) 27 L13_0 (fun (zs : Int) => [(0, .v (ssl eRelation a)), (1, .v (ssl eRelation b)), (5, .v (iT zs))]) (QO (QX 0 (fun (y : Unit) => [])) (QR (fun (y : Bool) => [(4, .v (.bool y))]))) := Lp.of (by unfold f13_0; exact go)
instance i13 {a : (List Relation)} {b : (List Relation)} : Rn cx (f13 a b) 13 [(ssl eRelation a), (ssl eRelation b)] (fun (r : Bool) => (.bool r)) (fun r => []) := Rn.o rfl (by unfold f13; exact go)
instance : Io0 cx 13 := ⟨rfl⟩
instance i62_0 {a : (List Atom)} {b : (List Atom)} : Lp cx (f62_0 a b) 27 L62_0 (fun (zs : Int) => [(0, .v (ssl eAtom a)), (1, .v (ssl eAtom b)), (5, .v (iT zs))]) (QO (QX 0 (fun (y : Unit) => [])) (QR (fun (y : Bool) => [(4, .v (.bool y))]))) := Lp.of (by unfold f62_0; exact go)
instance i62 {a : (List Atom)} {b : (List Atom)} : Rn cx (f62 a b) 62 [(ssl eAtom a), (ssl eAtom b)] (fun (r : Bool) => (.bool r)) (fun r => []) := Rn.o rfl (by unfold f62; exact go)
instance : Io0 cx 62 := ⟨rfl⟩
instance i14 {a : Query} {b : Query} : Rn cx (f14 a b) 14 [(.agg [(iT a.VariableCount), (ssl eAtom a.Atoms), (ssl eI a.Free)]), (.agg [(iT b.VariableCount), (ssl eAtom b.Atoms), (ssl eI b.Free)])] (fun (r : Bool) => (.bool r)) (fun r => []) := Rn.o rfl (by unfold f14; exact go)
instance : Io0 cx 14 := ⟨rfl⟩
instance i64_0 : Lp cx f64_0 20 L64_0 (fun (zs : Int × (List UInt8)) => [(0, .v (iT zs.1)), (3, .v (.str zs.2))]) (QX 0 (fun (y : (List UInt8)) => [(3, .v (.str y))])) := Lp.of (by unfold f64_0; exact go)
instance i64 : Rn cx (f64 k) 64 [(iT k)] (fun (r : (List UInt8)) => (.str r)) (fun r => []) := Rn.o rfl (by unfold f64; exact go)
instance : Io0 cx 64 := ⟨rfl⟩
instance i15_0 : Lp cx f15_0 35 L15_0 (fun (zs : (List Relation) × Int × Int) => [(0, .v (osl eRelation true zs.1)), (1, .v (iT zs.2.1)), (5, .v (iT zs.2.2))]) (QX 0 (fun (y : (List Relation) × Int) => [(0, .v (osl eRelation true y.1)), (1, .v (iT y.2))])) := Lp.of (by unfold f15_0; exact go)
instance i15 {a : (List Relation)} : Rn cx (f15 a k) 15 [(osl eRelation true a), (iT k)] (fun (r : Int × (List Relation)) => (iT r.1)) (fun r => [(osl eRelation true r.2)]) := Rn.o rfl (by unfold f15; exact go)
instance i66_0 : Lp cx f66_0 19 L66_0 (fun (zs : (List Int) × Int × Int) => [(0, .v (osl eI true zs.1)), (1, .v (iT zs.2.1)), (5, .v (iT zs.2.2))]) (QX 0 (fun (y : (List Int) × Int) => [(0, .v (osl eI true y.1)), (1, .v (iT y.2))])) := Lp.of (by unfold f66_0; exact go)
instance i66 : Rn cx (f66 a k) 66 [(osl eI true a), (iT k)] (fun (r : Int × (List Int)) => (iT r.1)) (fun r => [(osl eI true r.2)]) := Rn.o rfl (by unfold f66; exact go)
instance i65_0 : Lp cx f65_0 27 L65_0 (fun (zs : (List Atom) × Int × Int) => [(0, .v (osl eAtom true zs.1)), (1, .v (iT zs.2.1)), (5, .v (iT zs.2.2))]) (QX 0 (fun (y : (List Atom) × Int) => [(0, .v (osl eAtom true y.1)), (1, .v (iT y.2))])) := Lp.of (by unfold f65_0; exact go)
instance i65 {a : (List Atom)} : Rn cx (f65 a k) 65 [(osl eAtom true a), (iT k)] (fun (r : Int × (List Atom)) => (iT r.1)) (fun r => [(osl eAtom true r.2)]) := Rn.o rfl (by unfold f65; exact go)
instance i16 {a : Query} : Rn cx (f16 a k) 16 [(.agg [(iT a.VariableCount), (osl eAtom true a.Atoms), (osl eI true a.Free)]), (iT k)] (fun (r : Int) => (iT r)) (fun r => [.und]) := Rn.o rfl (by unfold f16; exact go)
instance i17_0 : Lp cx f17_0 43 L17_0 (fun (zs : (List RewritingStep) × Int × Int) => [(0, .v (osl eRewritingStep true zs.1)), (1, .v (iT zs.2.1)), (5, .v (iT zs.2.2))]) (QX 0 (fun (y : (List RewritingStep) × Int) => [(0, .v (osl eRewritingStep true y.1)), (1, .v (iT y.2))])) := Lp.of (by unfold f17_0; exact go)
instance i17 {a : (List RewritingStep)} : Rn cx (f17 a k) 17 [(osl eRewritingStep true a), (iT k)] (fun (r : Int × (List RewritingStep)) => (iT r.1)) (fun r => [(osl eRewritingStep true r.2)]) := Rn.o rfl (by unfold f17; exact go)
instance i67_0 : Lp cx (f67_0 a) 21 L67_0 (fun (zs : Int × Int) => [(0, .v (ssl eI a)), (1, .v (iT zs.1)), (5, .v (iT zs.2))]) (QO (QX 0 (fun (y : Int) => [(1, .v (iT y))])) (QR (fun (y : Int) => [(4, .v (iT y))]))) := Lp.of (by unfold f67_0; exact go)
instance i67 : Rn cx (f67 a k) 67 [(ssl eI a), (iT k)] (fun (r : Int) => (iT r)) (fun r => []) := Rn.o rfl (by unfold f67; exact go)
instance : Io0 cx 67 := ⟨rfl⟩
instance i18_0 {a : (List RewritingStep)} : Lp cx (f18_0 a) 51 L18_0 (fun (zs : Int × Int) => [(0, .v (ssl eRewritingStep a)), (1, .v (iT zs.1)), (5, .v (iT zs.2))]) (QO (QX 0 (fun (y : Int) => [(1, .v (iT y))])) (QR (fun (y : Int) => [(4, .v (iT y))]))) := Lp.of (by unfold f18_0; exact go)
instance i18 {a : (List RewritingStep)} : Rn cx (f18 a k) 18 [(ssl eRewritingStep a), (iT k)] (fun (r : Int) => (iT r)) (fun r => []) := Rn.o rfl (by unfold f18; exact go)
instance : Io0 cx 18 := ⟨rfl⟩
end
end Go.Proofs.YtjfeimhiiomgoaaGreatH
