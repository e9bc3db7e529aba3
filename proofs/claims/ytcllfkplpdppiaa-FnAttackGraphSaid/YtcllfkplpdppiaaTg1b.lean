import Derived.Test.YtcllfkplpdppiaaTg1a
set_option maxHeartbeats 2000000
set_option linter.unusedVariables false
set_option linter.unusedSimpArgs false
set_option linter.defProp false
set_option linter.unusedSectionVars false
set_option maxRecDepth 100000
namespace Go.Proofs.YtcllfkplpdppiaaH
open Go
noncomputable section
instance i60 {c : L1Cur} {l : (List Relation)} : Rn cx (f60 c l) 60 [(.ptr true [(ssl eU c.b), (iT c.i), (iT c.h)]), (ssl eRelation l)] (fun (r : Query × L1Cur) => (.agg [(iT r.1.VariableCount), (osl eAtom true r.1.Atoms), (osl eI true r.1.Free)])) (fun r => [(.ptr true [(ssl eU r.2.b), (iT r.2.i), (iT r.2.h)])]) := by
 refine Rn.of (e := (
  sn 1 4 (.ptr true [(iT 0), (osl eAtom true ([])), (osl eI true ([]))]) <| 
  (f70 c).bind fun o1 =>
  (f71 o1.2 3).bind fun o3 =>
  (jn (QN (fun (y : (List Int) × Int × Int × Int × (List Atom) × (List Int)) => [(0, .v (.ptr true [(ssl eU y.1), (iT y.2.1), (iT y.2.2.1)])), (4, .v (.ptr true [(iT 0), (osl eAtom true ([])), (osl eI true ([]))])), (5, .v (.ptr true [(iT y.2.2.2.1), (osl eAtom true y.2.2.2.2.1), (osl eI true y.2.2.2.2.2)]))])) ((if o3.1 = true then
  (f72 o3.2 l).bind fun o8 =>
  some (o8.2.b, o8.2.i, o8.2.h, o8.1.VariableCount, o8.1.Atoms, o8.1.Free)
  else
  some (o3.2.b, o3.2.i, o3.2.h, o1.1.VariableCount, o1.1.Atoms, o1.1.Free)) : Option ((List Int) × Int × Int × Int × (List Atom) × (List Int)))).bind fun (c_10, c_11, c_12, q_13, q_14, q_15) =>
  (f71 ({ b := c_10, i := c_11, h := c_12 } : L1Cur) 4).bind fun o16 =>
  (jn (QN (fun (y : (List Int) × Int × Int × Int × (List Atom) × (List Int)) => [(0, .v (.ptr true [(ssl eU y.1), (iT y.2.1), (iT y.2.2.1)])), (4, .v (.ptr true [(iT 0), (osl eAtom true ([])), (osl eI true ([]))])), (5, .v (.ptr true [(iT y.2.2.2.1), (osl eAtom true y.2.2.2.2.1), (osl eI true y.2.2.2.2.2)]))])) ((if o16.1 = true then
  (iter f60_0 (o16.2.b, o16.2.i, o16.2.h, q_13, q_14, q_15, 0)).bind fun (c_39, c_40, c_41, q_42, q_43, q_44) =>
  some (c_39, c_40, c_41, q_42, q_43, q_44)
  else
  some (o16.2.b, o16.2.i, o16.2.h, q_13, q_14, q_15)) : Option ((List Int) × Int × Int × Int × (List Atom) × (List Int)))).bind fun (c_45, c_46, c_47, q_48, q_49, q_50) =>
  some (({ VariableCount := q_48, Atoms := q_49, Free := q_50 } : Query), ({ b := c_45, i := c_46, h := c_47 } : L1Cur)) : Option (Query × L1Cur))) rfl rfl (by decide) rfl ?_
 exact go
instance i44 {c : L1Cur} {l : (List Relation)} : Rn cx (f44 c l) 44 [(.ptr true [(ssl eU c.b), (iT c.i), (iT c.h)]), (ssl eRelation l)] (fun (r : Query × L1Cur) => (.agg [(iT r.1.VariableCount), (osl eAtom true r.1.Atoms), (osl eI true r.1.Free)])) (fun r => [(.ptr true [(ssl eU r.2.b), (iT r.2.i), (iT r.2.h)])]) := by
 refine Rn.of (e := (
  sn 1 4 (.ptr true [(iT 0), (osl eAtom true ([])), (osl eI true ([]))]) <| 
  (f60 c l).bind fun o1 =>
  (f24 o1.2 14).bind fun o3 =>
  (jn (QN (fun (y : (List Int) × Int × Int × Int × (List Atom) × (List Int)) => [(0, .v (.ptr true [(ssl eU y.1), (iT y.2.1), (iT y.2.2.1)])), (4, .v (.ptr true [(iT 0), (osl eAtom true ([])), (osl eI true ([]))])), (5, .v (.ptr true [(iT y.2.2.2.1), (osl eAtom true y.2.2.2.2.1), (osl eI true y.2.2.2.2.2)]))])) ((if o3.1 = 0 then
  sn 5 17 (osl eI true ([-1, w64 (o1.1.VariableCount + 1), 5])) <| 
  sn 0 17 (ssl eI ([-1, w64 (o1.1.VariableCount + 1), 5])) <| 
  (f59 o3.2 ([-1, w64 (o1.1.VariableCount + 1), 5])).bind fun o8 =>
  some (o8.2.b, o8.2.i, o8.2.h, o8.1, o1.1.Atoms, o1.1.Free)
  else
  (jn (QN (fun (y : (List Int) × Int × Int × (List Atom) × (List Int)) => [(0, .v (.ptr true [(ssl eU y.1), (iT y.2.1), (iT y.2.2.1)])), (4, .v (.ptr true [(iT 0), (osl eAtom true ([])), (osl eI true ([]))])), (5, .v (.ptr true [(iT o1.1.VariableCount), (osl eAtom true y.2.2.2.1), (osl eI true y.2.2.2.2)]))])) ((if o3.1 = 1 then
  sn 4 27 (osl eI true ([0, 0])) <| 
  (f24 o3.2 6).bind fun o13 =>
  (app 32 o1.1.Atoms ([({ Relation := w64 (o13.1 - 1), Terms := [0, 0] } : Atom)])).bind fun l_15 =>
  some (o13.2.b, o13.2.i, o13.2.h, l_15, o1.1.Free)
  else
  (jn (QN (fun (y : (List Int) × Int × Int × (List Atom) × (List Int)) => [(0, .v (.ptr true [(ssl eU y.1), (iT y.2.1), (iT y.2.2.1)])), (4, .v (.ptr true [(iT 0), (osl eAtom true ([])), (osl eI true ([]))])), (5, .v (.ptr true [(iT o1.1.VariableCount), (osl eAtom true y.2.2.2.1), (osl eI true y.2.2.2.2)]))])) ((if o3.1 = 2 then
  (ix o1.1.Atoms 0).bind fun v_20 =>
  sn 7 40 (osl eI true ([-11, 4, 3])) <| 
  sn 0 40 (ssl eI ([-11, 4, 3])) <| 
  (f59 o3.2 ([-11, 4, 3])).bind fun o22 =>
  (ix v_20.Terms 0).bind fun v_24 =>
  some (o22.2.b, o22.2.i, o22.2.h, (o1.1.Atoms.set (0 : Int).toNat ({ Relation := v_20.Relation, Terms := (v_20.Terms.set (0 : Int).toNat o22.1) } : Atom)), o1.1.Free)
  else
  (jn (QN (fun (y : (List Int) × Int × Int × (List Int)) => [(0, .v (.ptr true [(ssl eU y.1), (iT y.2.1), (iT y.2.2.1)])), (4, .v (.ptr true [(iT 0), (osl eAtom true ([])), (osl eI true ([]))])), (5, .v (.ptr true [(iT o1.1.VariableCount), (osl eAtom true o1.1.Atoms), (osl eI true y.2.2.2)]))])) ((if o3.1 = 3 then
  (f24 o3.2 5).bind fun o31 =>
  (app 8 o1.1.Free ([o31.1])).bind fun l_33 =>
  some (o31.2.b, o31.2.i, o31.2.h, l_33)
  else
  some (o3.2.b, o3.2.i, o3.2.h, o1.1.Free)) : Option ((List Int) × Int × Int × (List Int)))).bind fun (c_35, c_36, c_37, q_38) =>
  some (c_35, c_36, c_37, o1.1.Atoms, q_38)) : Option ((List Int) × Int × Int × (List Atom) × (List Int)))).bind fun (c_39, c_40, c_41, q_42, q_43) =>
  some (c_39, c_40, c_41, q_42, q_43)) : Option ((List Int) × Int × Int × (List Atom) × (List Int)))).bind fun (c_44, c_45, c_46, q_47, q_48) =>
  some (c_44, c_45, c_46, o1.1.VariableCount, q_47, q_48)) : Option ((List Int) × Int × Int × Int × (List Atom) × (List Int)))).bind fun (c_49, c_50, c_51, q_52, q_53, q_54) =>
  some (({ VariableCount := q_52, Atoms := q_53, Free := q_54 } : Query), ({ b := c_49, i := c_50, h := c_51 } : L1Cur)) : Option (Query × L1Cur))) rfl rfl (by decide) rfl ?_
 exact go
theorem r23 {code : (List Int)} {r : L1Cur × (List Relation) × Query} (h : f23 code = some r) : VJx cx (.ca 23 [(ssl eU code)] (.tup [(.ptr true [(ssl eU r.1.b), (iT r.1.i), (iT r.1.h)]), (ssl eRelation r.2.1), (.agg [(iT r.2.2.VariableCount), (osl eAtom true r.2.2.Atoms), (osl eI true r.2.2.Free)])]) []) := by
 unfold f23 at h
 refine ca_of rfl rfl (by decide) rfl ?_
 refine Wc.start (V1 := [(0, .v (ssl eU code))]) (by simp) ?_
 refine Wc.seq ?_
 refine Wc.evs (by conv => lhs; simp [-aI_app0, -aB_app0, -aS_app0, -aL_app0, -aI_app10, -aB_app10, -aS_app10, -aLt_app10I, -aLf_app10I, -aLt_app1I, -aLf_app1I]) ?_
 refine Wo.gh (vle_co (s := 4) (t1 := (.ptr true [(iT 0), (osl eAtom true ([])), (osl eI true ([]))])) rfl (by simp) (TLe.ptr (TLes.cons (TLe.refl _) (TLes.cons (TLe.nil rfl (by decide)) (TLes.cons (TLe.nil rfl (by decide)) (TLes.refl _))))) (by conv => lhs; simp)) ?_
 refine Wo.nil ?_
 refine Wc.seq ?_
 refine Wc.evs (by conv => lhs; simp [-aI_app0, -aB_app0, -aS_app0, -aL_app0, -aI_app10, -aB_app10, -aS_app10, -aLt_app10I, -aLf_app10I, -aLt_app1I, -aLf_app1I]) ?_
 obtain ⟨o1, h2, h⟩ := bind_some h
 refine Wo.call rfl rfl (by (conv => lhs; simp [-aI_app0, -aB_app0, -aS_app0, -aL_app0, -aI_app10, -aB_app10, -aS_app10, -aLt_app10I, -aLf_app10I, -aLt_app1I, -aLf_app1I, cx, ioTab]) <;> rfl) (run_ h2) (by simp) (by simp) (by (conv => lhs; simp [-aI_app0, -aB_app0, -aS_app0, -aL_app0, -aI_app10, -aB_app10, -aS_app10, -aLt_app10I, -aLf_app10I, -aLt_app1I, -aLf_app1I, cx, ioTab]) <;> rfl) (by (conv => lhs; simp [-aI_app0, -aB_app0, -aS_app0, -aL_app0, -aI_app10, -aB_app10, -aS_app10, -aLt_app10I, -aLf_app10I, -aLt_app1I, -aLf_app1I]) <;> rfl) ?_
 refine Wo.evs (by conv => lhs; simp [-aI_app0, -aB_app0, -aS_app0, -aL_app0, -aI_app10, -aB_app10, -aS_app10, -aLt_app10I, -aLf_app10I, -aLt_app1I, -aLf_app1I]) ?_
 refine Wo.nil ?_
 refine Wc.seq ?_
 refine Wc.evs (by conv => lhs; simp [-aI_app0, -aB_app0, -aS_app0, -aL_app0, -aI_app10, -aB_app10, -aS_app10, -aLt_app10I, -aLf_app10I, -aLt_app1I, -aLf_app1I]) ?_
 obtain ⟨o3, h4, h⟩ := bind_some h
 refine Wo.call rfl rfl (by (conv => lhs; simp [-aI_app0, -aB_app0, -aS_app0, -aL_app0, -aI_app10, -aB_app10, -aS_app10, -aLt_app10I, -aLf_app10I, -aLt_app1I, -aLf_app1I, cx, ioTab]) <;> rfl) (run_ h4) (by simp) (by simp) (by (conv => lhs; simp [-aI_app0, -aB_app0, -aS_app0, -aL_app0, -aI_app10, -aB_app10, -aS_app10, -aLt_app10I, -aLf_app10I, -aLt_app1I, -aLf_app1I, cx, ioTab]) <;> rfl) (by (conv => lhs; simp [-aI_app0, -aB_app0, -aS_app0, -aL_app0, -aI_app10, -aB_app10, -aS_app10, -aLt_app10I, -aLf_app10I, -aLt_app1I, -aLf_app1I]) <;> rfl) ?_
 refine Wo.evs (by conv => lhs; simp [-aI_app0, -aB_app0, -aS_app0, -aL_app0, -aI_app10, -aB_app10, -aS_app10, -aLt_app10I, -aLf_app10I, -aLt_app1I, -aLf_app1I]) ?_
 refine Wo.gh (vle_fz (s := 6) rfl (by simp) (by conv => lhs; simp)) ?_
 refine Wo.nil ?_
 refine Wc.seq ?_
 refine Wc.evs (by conv => lhs; simp [-aI_app0, -aB_app0, -aS_app0, -aL_app0, -aI_app10, -aB_app10, -aS_app10, -aLt_app10I, -aLf_app10I, -aLt_app1I, -aLf_app1I]) ?_
 obtain ⟨o5, h6, h⟩ := bind_some h
 refine Wo.ra (q := 11) (r := 5) (by conv => lhs; simp) (by rfl) (by decide) ?_
 refine Wo.call rfl rfl (by (conv => lhs; simp [-aI_app0, -aB_app0, -aS_app0, -aL_app0, -aI_app10, -aB_app10, -aS_app10, -aLt_app10I, -aLf_app10I, -aLt_app1I, -aLf_app1I, cx, ioTab]) <;> rfl) (run_ h6) (by simp) (by simp) (by (conv => lhs; simp [-aI_app0, -aB_app0, -aS_app0, -aL_app0, -aI_app10, -aB_app10, -aS_app10, -aLt_app10I, -aLf_app10I, -aLt_app1I, -aLf_app1I, cx, ioTab]) <;> rfl) (by (conv => lhs; simp [-aI_app0, -aB_app0, -aS_app0, -aL_app0, -aI_app10, -aB_app10, -aS_app10, -aLt_app10I, -aLf_app10I, -aLt_app1I, -aLf_app1I]) <;> rfl) ?_
 refine Wo.nil ⟨_, by conv => lhs; simp [-aI_app0, -aB_app0, -aS_app0, -aL_app0, -aI_app10, -aB_app10, -aS_app10, -aLt_app10I, -aLf_app10I, -aLt_app1I, -aLf_app1I], ?_⟩
 refine Wo.st (by conv => lhs; simp [-aI_app0, -aB_app0, -aS_app0, -aL_app0, -aI_app10, -aB_app10, -aS_app10, -aLt_app10I, -aLf_app10I, -aLt_app1I, -aLf_app1I]) ?_
 refine Wo.evs (by conv => lhs; simp [-aI_app0, -aB_app0, -aS_app0, -aL_app0, -aI_app10, -aB_app10, -aS_app10, -aLt_app10I, -aLf_app10I, -aLt_app1I, -aLf_app1I]) ?_
 refine Wo.nil ?_
 refine Wc.gh (vle_take (s := 2) (by simp) (by conv => lhs; simp [-aI_app0, -aB_app0, -aS_app0, -aL_app0, -aI_app10, -aB_app10, -aS_app10, -aLt_app10I, -aLf_app10I, -aLt_app1I, -aLf_app1I]) (by conv => lhs; simp)) ?_
 refine Wc.ret (res_of (.inr rfl) ?_)
 cases h
 exact ⟨_, _, _, by conv => lhs; simp, by (conv => lhs; simp [cx, ioTab, List.range, List.range.loop]) <;> rfl, by first | rfl | simp [-aI_app0, -aB_app0, -aS_app0, -aL_app0, -aI_app10, -aB_app10, -aS_app10, -aLt_app10I, -aLf_app10I, -aLt_app1I, -aLf_app1I]⟩
instance i23 {code : (List Int)} : Rn cx (f23 code) 23 [(ssl eU code)] (fun (r : L1Cur × (List Relation) × Query) => (.tup [(.ptr true [(ssl eU r.1.b), (iT r.1.i), (iT r.1.h)]), (ssl eRelation r.2.1), (.agg [(iT r.2.2.VariableCount), (osl eAtom true r.2.2.Atoms), (osl eI true r.2.2.Free)])])) (fun r => []) := ⟨fun _ h => r23 h⟩
instance : Io0 cx 23 := ⟨rfl⟩
theorem r6 {code : (List Int)} {r : (List Relation) × Query × Int × Int} (h : f6 code = some r) : VJx cx (.ca 6 [(ssl eU code)] (.tup [(ssl eRelation r.1), (.agg [(iT r.2.1.VariableCount), (osl eAtom true r.2.1.Atoms), (osl eI true r.2.1.Free)]), (iT r.2.2.1), (iT r.2.2.2)]) []) := by
 unfold f6 at h
 refine ca_of rfl rfl (by decide) rfl ?_
 refine Wc.start (V1 := [(0, .v (ssl eU code))]) (by simp) ?_
 refine Wc.seq ?_
 refine Wc.evs (by conv => lhs; simp [-aI_app0, -aB_app0, -aS_app0, -aL_app0, -aI_app10, -aB_app10, -aS_app10, -aLt_app10I, -aLf_app10I, -aLt_app1I, -aLf_app1I]) ?_
 refine Wo.gh (vle_co (s := 3) (t1 := (.ptr true [(iT 0), (osl eAtom true ([])), (osl eI true ([]))])) rfl (by simp) (TLe.ptr (TLes.cons (TLe.refl _) (TLes.cons (TLe.nil rfl (by decide)) (TLes.cons (TLe.nil rfl (by decide)) (TLes.refl _))))) (by conv => lhs; simp)) ?_
 refine Wo.nil ?_
 refine Wc.seq ?_
 refine Wc.evs (by conv => lhs; simp [-aI_app0, -aB_app0, -aS_app0, -aL_app0, -aI_app10, -aB_app10, -aS_app10, -aLt_app10I, -aLf_app10I, -aLt_app1I, -aLf_app1I]) ?_
 obtain ⟨o1, h2, h⟩ := bind_some h
 refine Wo.call rfl rfl (by (conv => lhs; simp [-aI_app0, -aB_app0, -aS_app0, -aL_app0, -aI_app10, -aB_app10, -aS_app10, -aLt_app10I, -aLf_app10I, -aLt_app1I, -aLf_app1I, cx, ioTab]) <;> rfl) (run_ h2) (by simp) (by simp) (by (conv => lhs; simp [-aI_app0, -aB_app0, -aS_app0, -aL_app0, -aI_app10, -aB_app10, -aS_app10, -aLt_app10I, -aLf_app10I, -aLt_app1I, -aLf_app1I, cx, ioTab]) <;> rfl) (by (conv => lhs; simp [-aI_app0, -aB_app0, -aS_app0, -aL_app0, -aI_app10, -aB_app10, -aS_app10, -aLt_app10I, -aLf_app10I, -aLt_app1I, -aLf_app1I]) <;> rfl) ?_
 refine Wo.evs (by conv => lhs; simp [-aI_app0, -aB_app0, -aS_app0, -aL_app0, -aI_app10, -aB_app10, -aS_app10, -aLt_app10I, -aLf_app10I, -aLt_app1I, -aLf_app1I]) ?_
 refine Wo.nil ?_
 refine Wc.seq ?_
 refine Wc.evs (by conv => lhs; simp [-aI_app0, -aB_app0, -aS_app0, -aL_app0, -aI_app10, -aB_app10, -aS_app10, -aLt_app10I, -aLf_app10I, -aLt_app1I, -aLf_app1I]) ?_
 obtain ⟨o3, h4, h⟩ := bind_some h
 refine Wo.ra (q := 19) (r := 6) (by conv => lhs; simp) (by rfl) (by decide) ?_
 refine Wo.call (by simp) rfl (by (conv => lhs; simp [-aI_app0, -aB_app0, -aS_app0, -aL_app0, -aI_app10, -aB_app10, -aS_app10, -aLt_app10I, -aLf_app10I, -aLt_app1I, -aLf_app1I, cx, ioTab]) <;> rfl) (run_ h4) (by simp) (by simp) (by (conv => lhs; simp [-aI_app0, -aB_app0, -aS_app0, -aL_app0, -aI_app10, -aB_app10, -aS_app10, -aLt_app10I, -aLf_app10I, -aLt_app1I, -aLf_app1I, cx, ioTab]) <;> rfl) (by (conv => lhs; simp [-aI_app0, -aB_app0, -aS_app0, -aL_app0, -aI_app10, -aB_app10, -aS_app10, -aLt_app10I, -aLf_app10I, -aLt_app1I, -aLf_app1I]) <;> rfl) ?_
 refine Wo.nil ⟨_, by conv => lhs; simp [-aI_app0, -aB_app0, -aS_app0, -aL_app0, -aI_app10, -aB_app10, -aS_app10, -aLt_app10I, -aLf_app10I, -aLt_app1I, -aLf_app1I], ?_⟩
 refine Wo.st (by conv => lhs; simp [-aI_app0, -aB_app0, -aS_app0, -aL_app0, -aI_app10, -aB_app10, -aS_app10, -aLt_app10I, -aLf_app10I, -aLt_app1I, -aLf_app1I]) ?_
 obtain ⟨o5, h6, h⟩ := bind_some h
 refine Wo.call (by simp) rfl (by (conv => lhs; simp [-aI_app0, -aB_app0, -aS_app0, -aL_app0, -aI_app10, -aB_app10, -aS_app10, -aLt_app10I, -aLf_app10I, -aLt_app1I, -aLf_app1I, cx, ioTab]) <;> rfl) (run_ h6) (by simp) (by simp) (by (conv => lhs; simp [-aI_app0, -aB_app0, -aS_app0, -aL_app0, -aI_app10, -aB_app10, -aS_app10, -aLt_app10I, -aLf_app10I, -aLt_app1I, -aLf_app1I, cx, ioTab]) <;> rfl) (by (conv => lhs; simp [-aI_app0, -aB_app0, -aS_app0, -aL_app0, -aI_app10, -aB_app10, -aS_app10, -aLt_app10I, -aLf_app10I, -aLt_app1I, -aLf_app1I]) <;> rfl) ?_
 refine Wo.evs (by conv => lhs; simp [-aI_app0, -aB_app0, -aS_app0, -aL_app0, -aI_app10, -aB_app10, -aS_app10, -aLt_app10I, -aLf_app10I, -aLt_app1I, -aLf_app1I]) ?_
 refine Wo.nil ?_
 refine Wc.ret (res_of (.inr rfl) ?_)
 cases h
 exact ⟨_, _, _, by conv => lhs; simp, by (conv => lhs; simp [cx, ioTab, List.range, List.range.loop]) <;> rfl, by first | rfl | simp [-aI_app0, -aB_app0, -aS_app0, -aL_app0, -aI_app10, -aB_app10, -aS_app10, -aLt_app10I, -aLf_app10I, -aLt_app1I, -aLf_app1I]⟩
instance i6 {code : (List Int)} : Rn cx (f6 code) 6 [(ssl eU code)] (fun (r : (List Relation) × Query × Int × Int) => (.tup [(ssl eRelation r.1), (.agg [(iT r.2.1.VariableCount), (osl eAtom true r.2.1.Atoms), (osl eI true r.2.1.Free)]), (iT r.2.2.1), (iT r.2.2.2)])) (fun r => []) := ⟨fun _ h => r6 h⟩
instance : Io0 cx 6 := ⟨rfl⟩
instance i26 {n0 : Int} {low : Int} {high : Int} : Rn cx (f26 n0 low high) 26 [(iT n0), (iT low), (iT high)] (fun (r : Bool) => (.bool r)) (fun r => []) := by
 refine Rn.of (e := (
  (jn (QN (fun (y : Bool) => [(6, .v (.bool y))])) ((if low ≤ n0 then
  some (decide (n0 ≤ high))
  else
  some false) : Option (Bool))).bind fun x_1 =>
  some x_1 : Option Bool)) rfl rfl (by decide) rfl ?_
 exact go
instance : Io0 cx 26 := ⟨rfl⟩
instance i61 {relation : Relation} : Rn cx (f61 relation) 61 [(.agg [(.str relation.Name), (iT relation.Arity), (iT relation.KeyLength)])] (fun (r : Bool) => (.bool r)) (fun r => []) := by
 refine Rn.of (e := (
  (jn (QN (fun (y : Bool) => [(2, .v (.bool y))])) ((if (relation.Name.length : Int) = 1 then
  (ix relation.Name 0).bind fun c_4 =>
  (jn (QN (fun (y : Bool) => [(2, .v (.bool y))])) ((if (c_4.toNat : Int) ≥ 97 then
  (jn (QN (fun (y : Bool) => [(2, .v (.bool y))])) ((if (c_4.toNat : Int) ≤ 122 then
  (f26 relation.Arity 1 3).bind fun o12 =>
  (jn (QN (fun (y : Bool) => [(2, .v (.bool y))])) ((if o12 = true then
  (f26 relation.KeyLength 0 relation.Arity).bind fun o17 =>
  some o17
  else
  some false) : Option (Bool))).bind fun x_14 =>
  some x_14
  else
  some false) : Option (Bool))).bind fun x_9 =>
  some x_9
  else
  some false) : Option (Bool))).bind fun x_6 =>
  some x_6
  else
  some false) : Option (Bool))).bind fun x_1 =>
  some x_1 : Option Bool)) rfl rfl (by decide) rfl ?_
 exact go
instance : Io0 cx 61 := ⟨rfl⟩
instance i46_0 {relations : (List Relation)} : Lp cx (f46_0 relations) 34 L46_0 (fun (zs : Int) => [(0, .v (ssl eRelation relations)), (5, .v (ssl eRelation relations)), (6, .v (iT (relations.length : Int))), (7, .v (iT zs))]) (QO (QX 0 (fun (y : Unit) => [(0, .v (ssl eRelation relations))])) (QR (fun (y : Bool) => [(2, .v (.bool y))]))) := by
 refine Lp.of (f := (fun
 | x_1 =>
  if x_1 < (relations.length : Int) then
  (ix relations x_1).bind fun v_3 =>
  (f61 v_3).bind fun o5 =>
  (jn (QN (fun (y : Bool) => [(0, .v (ssl eRelation relations)), (5, .v (ssl eRelation relations)), (6, .v (iT (relations.length : Int))), (7, .v (iT x_1)), (29, .v (.bool y))])) ((if ¬ (o5 = true) then
  some true
  else
  (jn (QN (fun (y : Bool) => [(0, .v (ssl eRelation relations)), (5, .v (ssl eRelation relations)), (6, .v (iT (relations.length : Int))), (7, .v (iT x_1)), (29, .v (.bool y))])) ((if x_1 > 0 then
  (ix relations (w64 (x_1 - 1))).bind fun v_13 =>
  some (!(Op.bytesLess v_13.Name v_3.Name))
  else
  some false) : Option (Bool))).bind fun x_10 =>
  some x_10) : Option (Bool))).bind fun x_7 =>
  if x_7 = true then
  some (.inr (.inr false))
  else
  some (.inl (w64 (x_1 + 1)))
  else
  some (.inr (.inl ())) : Int → Option (Int ⊕ (Unit ⊕ Bool)))) ?_
 exact go
instance i46 {relations : (List Relation)} : Rn cx (f46 relations) 46 [(ssl eRelation relations)] (fun (r : Bool) => (.bool r)) (fun r => []) := by
 refine Rn.of rfl rfl (by decide) rfl ?_; unfold f46; exact go
instance : Io0 cx 46 := ⟨rfl⟩
instance i47_0 {indices : (List Int)} {n1 : Int} : Lp cx (f47_0 indices n1) 33 L47_0 (fun (zs : Int) => [(0, .v (ssl eI indices)), (1, .v (iT n1)), (7, .v (ssl eI indices)), (8, .v (iT (indices.length : Int))), (9, .v (iT zs))]) (QO (QX 0 (fun (y : Unit) => [])) (QR (fun (y : Bool) => [(4, .v (.bool y))]))) := by
 refine Lp.of (f := (fun
 | x_1 =>
  if x_1 < (indices.length : Int) then
  (ix indices x_1).bind fun v_3 =>
  (f26 v_3 0 (w64 (n1 - 1))).bind fun o5 =>
  (jn (QN (fun (y : Bool) => [(0, .v (ssl eI indices)), (1, .v (iT n1)), (7, .v (ssl eI indices)), (8, .v (iT (indices.length : Int))), (9, .v (iT x_1)), (31, .v (.bool y))])) ((if ¬ (o5 = true) then
  some true
  else
  (jn (QN (fun (y : Bool) => [(0, .v (ssl eI indices)), (1, .v (iT n1)), (7, .v (ssl eI indices)), (8, .v (iT (indices.length : Int))), (9, .v (iT x_1)), (31, .v (.bool y))])) ((if x_1 > 0 then
  (ix indices (w64 (x_1 - 1))).bind fun v_13 =>
  some (decide (v_13 ≥ v_3))
  else
  some false) : Option (Bool))).bind fun x_10 =>
  some x_10) : Option (Bool))).bind fun x_7 =>
  if x_7 = true then
  some (.inr (.inr false))
  else
  some (.inl (w64 (x_1 + 1)))
  else
  some (.inr (.inl ())) : Int → Option (Int ⊕ (Unit ⊕ Bool)))) ?_
 exact go
instance i47 {indices : (List Int)} {n1 : Int} : Rn cx (f47 indices n1) 47 [(ssl eI indices), (iT n1)] (fun (r : Bool) => (.bool r)) (fun r => []) := by
 refine Rn.of rfl rfl (by decide) rfl ?_; unfold f47; exact go
instance : Io0 cx 47 := ⟨rfl⟩
instance i62_0 {s0 : (List Atom)} {g_f : Nat} {cp_f : List T} {f : Atom → Option Bool} [hp_f : ∀ x0, Rn cx (f x0) g_f ((.agg [(iT x0.Relation), (ssl eI x0.Terms)]) :: cp_f) (fun o => (.bool o)) (fun _ => [])] [Io0 cx g_f] : Lp cx (f62_0 s0 f) 19 L62_0 (fun (zs : Int) => [(0, .v (ssl eAtom s0)), (1, .v (.fn g_f cp_f)), (7, .v (iT (s0.length : Int))), (8, .v (iT zs))]) (QO (QX 0 (fun (y : Unit) => [])) (QR (fun (y : Int) => [(4, .v (iT y))]))) := by
 refine Lp.of ?_; unfold f62_0; exact go
instance i62 {s0 : (List Atom)} {g_f : Nat} {cp_f : List T} {f : Atom → Option Bool} [hp_f : ∀ x0, Rn cx (f x0) g_f ((.agg [(iT x0.Relation), (ssl eI x0.Terms)]) :: cp_f) (fun o => (.bool o)) (fun _ => [])] [Io0 cx g_f] : Rn cx (f62 s0 f) 62 [(ssl eAtom s0), (.fn g_f cp_f)] (fun (r : Int) => (iT r)) (fun r => []) := by
 refine Rn.of rfl rfl (by decide) rfl ?_; unfold f62; exact go
instance : Io0 cx 62 := ⟨rfl⟩
instance i48 {s0 : (List Atom)} {g_f : Nat} {cp_f : List T} {f : Atom → Option Bool} [hp_f : ∀ x0, Rn cx (f x0) g_f ((.agg [(iT x0.Relation), (ssl eI x0.Terms)]) :: cp_f) (fun o => (.bool o)) (fun _ => [])] [Io0 cx g_f] : Rn cx (f48 s0 f) 48 [(ssl eAtom s0), (.fn g_f cp_f)] (fun (r : Bool) => (.bool r)) (fun r => []) := by
 refine Rn.of rfl rfl (by decide) rfl ?_; unfold f48; exact go
instance : Io0 cx 48 := ⟨rfl⟩
instance i49 {own : Atom} {c : Atom} : Rn cx (f49 own c) 49 [(.agg [(iT own.Relation), (ssl eI own.Terms)]), (.ptr false [(iT c.Relation), (ssl eI c.Terms)])] (fun (r : Bool) => (.bool r)) (fun r => []) := by
 refine Rn.of rfl rfl (by decide) rfl ?_; unfold f49; exact go
instance : Io0 cx 49 := ⟨rfl⟩
theorem r69 {n : Int} {r : Nat} (h : f69 n = some r) : VJx cx (.ca 69 [.nils, .int .i64 n] (.sl true true 1 r []) []) := by
 exact ca_grow (zs := [.int .i64 (0)]) (zt := [(iT 0)]) rfl rfl rfl rfl (by decide) (by decide) h
instance i69 {n : Int} : Rn cx (f69 n) 69 [.nils, .int .i64 n] (fun r => .sl true true 1 r []) (fun _ => []) := ⟨fun _ h => r69 h⟩
instance i57_0 {slices : (List (List Int))} : Lp cx (f57_0 slices) 36 L57_0 (fun (zs : Int × Int) => [(0, .v (ssl (eL eI) slices)), (3, .v (iT zs.1)), (9, .v (ssl (eL eI) slices)), (10, .v (iT (slices.length : Int))), (11, .v (iT zs.2))]) (QX 0 (fun (y : Int) => [(0, .v (ssl (eL eI) slices)), (3, .v (iT y))])) := by
 refine Lp.of (f := (fun
 | (size_1, x_2) =>
  if x_2 < (slices.length : Int) then
  (ix slices x_2).bind fun v_4 =>
  (jn (QN (fun (y : Unit) => [(0, .v (ssl (eL eI) slices)), (3, .v (iT (w64 (size_1 + (v_4.length : Int))))), (9, .v (ssl (eL eI) slices)), (10, .v (iT (slices.length : Int))), (11, .v (iT x_2))])) ((if (w64 (size_1 + (v_4.length : Int))) < 0 then
  none
  else
  some ()) : Option Unit)).bind fun _ =>
  some (.inl (w64 (size_1 + (v_4.length : Int)), w64 (x_2 + 1)))
  else
  some (.inr size_1) : Int × Int → Option ((Int × Int) ⊕ Int))) ?_
 exact go
instance i57_1 {slices : (List (List Int))} : Lp cx (f57_1 slices) 36 L57_1 (fun (zs : Nat × (List Int) × Int) => [(6, .v (.sl true true 1 zs.1 (arr eI true zs.2.1))), (25, .v (ssl (eL eI) slices)), (26, .v (iT (slices.length : Int))), (27, .v (iT zs.2.2))]) (QX 2 (fun (y : Nat × (List Int)) => [(6, .v (.sl true true 1 y.1 (arr eI true y.2)))])) := by
 refine Lp.of ?_; unfold f57_1; exact go
instance i57 {slices : (List (List Int))} : Rn cx (f57 slices) 57 [(ssl (eL eI) slices)] (fun (r : (List Int)) => (osl eI true r)) (fun r => []) := by
 refine Rn.of rfl rfl (by decide) rfl ?_; unfold f57; exact go
instance : Io0 cx 57 := ⟨rfl⟩
instance i90 {x : Int} : Rn cx (f90 x) 90 [(.int .u64 x)] (fun (r : Int) => (iT r)) (fun r => []) := by
 refine Rn.of (e := (
  (jn (QN (fun (y : Int × Int) => [(0, .v (.int .u64 y.1)), (2, .v (iT y.2))])) ((if x ≥ 4294967296 then
  some (sshr .u64 x 32, 32)
  else
  some (x, 0)) : Option (Int × Int))).bind fun (x_4, n_5) =>
  (jn (QN (fun (y : Int × Int) => [(0, .v (.int .u64 y.1)), (2, .v (iT y.2))])) ((if x_4 ≥ 65536 then
  some (sshr .u64 x_4 16, w64 (n_5 + 16))
  else
  some (x_4, n_5)) : Option (Int × Int))).bind fun (x_9, n_10) =>
  (jn (QN (fun (y : Int × Int) => [(0, .v (.int .u64 y.1)), (2, .v (iT y.2))])) ((if x_9 ≥ 256 then
  some (sshr .u64 x_9 8, w64 (n_10 + 8))
  else
  some (x_9, n_10)) : Option (Int × Int))).bind fun (x_14, n_15) =>
  (ix ([0, 1, 2, 2, 3, 3, 3, 3, 4, 4, 4, 4, 4, 4, 4, 4, 5, 5, 5, 5, 5, 5, 5, 5, 5, 5, 5, 5, 5, 5, 5, 5, 6, 6, 6, 6, 6, 6, 6, 6, 6, 6, 6, 6, 6, 6, 6, 6, 6, 6, 6, 6, 6, 6, 6, 6, 6, 6, 6, 6, 6, 6, 6, 6, 7, 7, 7, 7, 7, 7, 7, 7, 7, 7, 7, 7, 7, 7, 7, 7, 7, 7, 7, 7, 7, 7, 7, 7, 7, 7, 7, 7, 7, 7, 7, 7, 7, 7, 7, 7, 7, 7, 7, 7, 7, 7, 7, 7, 7, 7, 7, 7, 7, 7, 7, 7, 7, 7, 7, 7, 7, 7, 7, 7, 7, 7, 7, 7, 8, 8, 8, 8, 8, 8, 8, 8, 8, 8, 8, 8, 8, 8, 8, 8, 8, 8, 8, 8, 8, 8, 8, 8, 8, 8, 8, 8, 8, 8, 8, 8, 8, 8, 8, 8, 8, 8, 8, 8, 8, 8, 8, 8, 8, 8, 8, 8, 8, 8, 8, 8, 8, 8, 8, 8, 8, 8, 8, 8, 8, 8, 8, 8, 8, 8, 8, 8, 8, 8, 8, 8, 8, 8, 8, 8, 8, 8, 8, 8, 8, 8, 8, 8, 8, 8, 8, 8, 8, 8, 8, 8, 8, 8, 8, 8, 8, 8, 8, 8, 8, 8, 8, 8, 8, 8, 8, 8, 8, 8, 8, 8, 8, 8, 8, 8, 8, 8, 8, 8, 8, 8, 8, 8, 8, 8, 8, 8] : List UInt8) (w8 x_14)).bind fun c_16 =>
  some (w64 (n_15 + (w64 (c_16.toNat : Int)))) : Option Int)) rfl rfl (by decide) rfl ?_
 exact go
instance : Io0 cx 90 := ⟨rfl⟩
instance i74 {x : Int} : Rn cx (f74 x) 74 [(.int .u64 x)] (fun (r : Int) => (iT r)) (fun r => []) := by
 refine Rn.of rfl rfl (by decide) rfl ?_; unfold f74; exact go
instance : Io0 cx 74 := ⟨rfl⟩
instance i101 {x : Int} : Rn cx (f101 x) 101 [(iT x)] (fun (r : Bool) => (.bool r)) (fun r => []) := by
 refine Rn.of rfl rfl (by decide) rfl ?_; unfold f101; exact go
instance : Io0 cx 101 := ⟨rfl⟩
instance i86 {x : Int} {y : Int} : Rn cx (f86 x y) 86 [(iT x), (iT y)] (fun (r : Bool) => (.bool r)) (fun r => []) := by
 refine Rn.of (e := (
  (f101 x).bind fun o1 =>
  (jn (QN (fun (y : Bool) => [(4, .v (.bool y))])) ((if o1 = true then
  (f101 y).bind fun o6 =>
  (jn (QN (fun (y : Bool) => [(4, .v (.bool y))])) ((if ¬ (o6 = true) then
  some true
  else
  some (decide (x < y))) : Option (Bool))).bind fun x_8 =>
  some x_8
  else
  some (decide (x < y))) : Option (Bool))).bind fun x_3 =>
  some x_3 : Option Bool)) rfl rfl (by decide) rfl ?_
 exact go
instance : Io0 cx 86 := ⟨rfl⟩
instance i80_1 {a : Int} {b : Int} {i_2 : Int} : Lp cx (lw (b, i_2) (f80_1 a)) 49 L80_1 (fun (zs : (List Int) × Int) => [(0, .v (osl eI true zs.1)), (1, .v (iT a)), (2, .v (iT b)), (6, .v (iT i_2)), (7, .v (iT zs.2))]) (QX 2 (fun (y : (List Int)) => [(0, .v (osl eI true y)), (1, .v (iT a)), (2, .v (iT b)), (6, .v (iT i_2))])) := by
 refine Lp.of (f := (fun
 | (data_4, j_5) =>
  (jn (QN (fun (y : Bool) => [(0, .v (osl eI true data_4)), (1, .v (iT a)), (2, .v (iT b)), (6, .v (iT i_2)), (7, .v (iT j_5)), (30, .v (.bool y))])) ((if j_5 > a then
  (ix data_4 j_5).bind fun v_9 =>
  (ix data_4 (w64 (j_5 - 1))).bind fun v_11 =>
  (f86 v_9 v_11).bind fun o13 =>
  some o13
  else
  some false) : Option (Bool))).bind fun x_6 =>
  if x_6 = true then
  (ix data_4 (w64 (j_5 - 1))).bind fun v_16 =>
  (ix data_4 j_5).bind fun v_18 =>
  (ix (data_4.set j_5.toNat v_16) (w64 (j_5 - 1))).bind fun v_21 =>
  some (.inl (((data_4.set j_5.toNat v_16).set (w64 (j_5 - 1)).toNat v_18), w64 (j_5 - 1)))
  else
  some (.inr data_4) : (List Int) × Int → Option (((List Int) × Int) ⊕ (List Int)))) ?_
 exact go
instance i80_0 {a : Int} {b : Int} : Lp cx (f80_0 a b) 49 L80_0 (fun (zs : (List Int) × Int) => [(0, .v (osl eI true zs.1)), (1, .v (iT a)), (2, .v (iT b)), (6, .v (iT zs.2))]) (QX 0 (fun (y : (List Int)) => [(0, .v (osl eI true y))])) := by
 refine Lp.of (f := (fun
 | (data_1, i_2) =>
  if i_2 < b then
  (iter (lw (b, i_2)  (f80_1 a)) (data_1, i_2)).bind fun data_26 =>
  some (.inl (data_26, w64 (i_2 + 1)))
  else
  some (.inr data_1) : (List Int) × Int → Option (((List Int) × Int) ⊕ (List Int)))) ?_
 exact go
instance i80 {data : (List Int)} {a : Int} {b : Int} : Rn cx (f80 data a b) 80 [(osl eI true data), (iT a), (iT b)] (fun (r : (List Int)) => (.tup [])) (fun r => [(osl eI true r)]) := by
 refine Rn.of rfl rfl (by decide) rfl ?_; unfold f80; exact go
instance i96_0 {hi : Int} {first : Int} : Lp cx (f96_0 hi first) 76 L96_0 (fun (zs : (List Int) × Int) => [(0, .v (osl eI true zs.1)), (2, .v (iT hi)), (3, .v (iT first)), (8, .v (iT zs.2))]) (QO (QX 0 (fun (y : (List Int)) => [(0, .v (osl eI true y))])) (QR (fun (y : (List Int)) => [(0, .v (osl eI true y))]))) := by
 refine Lp.of (f := (fun
 | (data_1, root_2) =>
  if (w64 ((w64 (2 * root_2)) + 1)) ≥ hi then
  some (.inr (.inl data_1))
  else
  (jn (QN (fun (y : Bool) => [(0, .v (osl eI true data_1)), (2, .v (iT hi)), (3, .v (iT first)), (8, .v (iT root_2)), (9, .v (iT (w64 ((w64 (2 * root_2)) + 1)))), (36, .v (.bool y))])) ((if (w64 ((w64 ((w64 (2 * root_2)) + 1)) + 1)) < hi then
  (ix data_1 (w64 (first + (w64 ((w64 (2 * root_2)) + 1))))).bind fun v_7 =>
  (ix data_1 (w64 ((w64 (first + (w64 ((w64 (2 * root_2)) + 1)))) + 1))).bind fun v_9 =>
  (f86 v_7 v_9).bind fun o11 =>
  some o11
  else
  some false) : Option (Bool))).bind fun x_4 =>
  (jn (QN (fun (y : Int) => [(0, .v (osl eI true data_1)), (2, .v (iT hi)), (3, .v (iT first)), (8, .v (iT root_2)), (9, .v (iT y))])) ((if x_4 = true then
  some (w64 ((w64 ((w64 (2 * root_2)) + 1)) + 1))
  else
  some (w64 ((w64 (2 * root_2)) + 1))) : Option Int)).bind fun child_16 =>
  (ix data_1 (w64 (first + root_2))).bind fun v_17 =>
  (ix data_1 (w64 (first + child_16))).bind fun v_19 =>
  (f86 v_17 v_19).bind fun o21 =>
  if ¬ (o21 = true) then
  some (.inr (.inr data_1))
  else
  (ix (data_1.set (w64 (first + root_2)).toNat v_19) (w64 (first + child_16))).bind fun v_25 =>
  some (.inl (((data_1.set (w64 (first + root_2)).toNat v_19).set (w64 (first + child_16)).toNat v_17), child_16)) : (List Int) × Int → Option (((List Int) × Int) ⊕ ((List Int) ⊕ (List Int))))) ?_
 exact go
instance i96 {data : (List Int)} {lo : Int} {hi : Int} {first : Int} : Rn cx (f96 data lo hi first) 96 [(osl eI true data), (iT lo), (iT hi), (iT first)] (fun (r : (List Int)) => (.tup [])) (fun r => [(osl eI true r)]) := by
 refine Rn.of rfl rfl (by decide) rfl ?_; unfold f96; exact go
instance i81_0 {a : Int} {b : Int} : Lp cx (f81_0 a b) 56 L81_0 (fun (zs : (List Int) × Int) => [(0, .v (osl eI true zs.1)), (6, .v (iT a)), (7, .v (iT 0)), (8, .v (iT (w64 (b - a)))), (9, .v (iT zs.2))]) (QX 0 (fun (y : (List Int)) => [(0, .v (osl eI true y)), (6, .v (iT a)), (7, .v (iT 0)), (8, .v (iT (w64 (b - a))))])) := by
 refine Lp.of ?_; unfold f81_0; exact go
instance i81_1 {a : Int} : Lp cx (f81_1 a) 56 L81_1 (fun (zs : (List Int) × Int) => [(0, .v (osl eI true zs.1)), (6, .v (iT a)), (7, .v (iT 0)), (10, .v (iT zs.2))]) (QX 2 (fun (y : (List Int)) => [(0, .v (osl eI true y))])) := by
 refine Lp.of ?_; unfold f81_1; exact go
instance i81 {data : (List Int)} {a : Int} {b : Int} : Rn cx (f81 data a b) 81 [(osl eI true data), (iT a), (iT b)] (fun (r : (List Int)) => (.tup [])) (fun r => [(osl eI true r)]) := by
 refine Rn.of rfl rfl (by decide) rfl ?_; unfold f81; exact go
instance i97 {length : Int} : Rn cx (f97 length) 97 [(iT length)] (fun (r : Int) => (.int .u64 r)) (fun r => []) := by
 refine Rn.of rfl rfl (by decide) rfl ?_; unfold f97; exact go
instance : Io0 cx 97 := ⟨rfl⟩
instance i98 {r0 : Int} : Rn cx (f98 r0) 98 [(.ptr true [(.int .u64 r0)])] (fun (r : Int × Int) => (.int .u64 r.1)) (fun r => [(.ptr true [(.int .u64 r.2)])]) := by
 refine Rn.of rfl rfl (by decide) rfl ?_; unfold f98; exact go
instance i82_0 {a : Int} {b : Int} {o4 : Int} : Lp cx (f82_0 a b o4) 65 L82_0 (fun (zs : (List Int) × Int × Int) => [(0, .v (osl eI true zs.1)), (1, .v (iT a)), (6, .v (iT (w64 (b - a)))), (7, .v (.ptr true [(.int .u64 zs.2.1)])), (8, .v (.int .u64 o4)), (9, .v (iT zs.2.2))]) (QX 0 (fun (y : (List Int)) => [(0, .v (osl eI true y))])) := by
 refine Lp.of (f := (fun
 | (data_6, random_7, idx_8) =>
  if idx_8 ≤ (w64 ((w64 (a + (w64 ((w64 ((w64 (b - a)).tdiv 4)) * 2)))) + 1)) then
  (f98 random_7).bind fun o10 =>
  (jn (QN (fun (y : Int) => [(0, .v (osl eI true data_6)), (1, .v (iT a)), (6, .v (iT (w64 (b - a)))), (7, .v (.ptr true [(.int .u64 o10.2)])), (8, .v (.int .u64 o4)), (9, .v (iT idx_8)), (10, .v (iT y))])) ((if (w64 (band .u64 o10.1 (IntKind.u64.wrap (o4 - 1)))) ≥ (w64 (b - a)) then
  some (w64 ((w64 (band .u64 o10.1 (IntKind.u64.wrap (o4 - 1)))) - (w64 (b - a))))
  else
  some (w64 (band .u64 o10.1 (IntKind.u64.wrap (o4 - 1))))) : Option Int)).bind fun other_15 =>
  (ix data_6 (w64 (a + other_15))).bind fun v_16 =>
  (ix data_6 idx_8).bind fun v_18 =>
  (ix (data_6.set idx_8.toNat v_16) (w64 (a + other_15))).bind fun v_21 =>
  some (.inl (((data_6.set idx_8.toNat v_16).set (w64 (a + other_15)).toNat v_18), o10.2, w64 (idx_8 + 1)))
  else
  some (.inr data_6) : (List Int) × Int × Int → Option (((List Int) × Int × Int) ⊕ (List Int)))) ?_
 exact go
instance i82 {data : (List Int)} {a : Int} {b : Int} : Rn cx (f82 data a b) 82 [(osl eI true data), (iT a), (iT b)] (fun (r : (List Int)) => (.tup [])) (fun r => [(osl eI true r)]) := by
 refine Rn.of (e := (
  (jn (QN (fun (y : (List Int)) => [(0, .v (osl eI true y))])) ((if (w64 (b - a)) ≥ 8 then
  (f97 (w64 (b - a))).bind fun o4 =>
  (iter (f82_0 a b o4) (data, IntKind.u64.wrap (w64 (b - a)), w64 ((w64 (a + (w64 ((w64 ((w64 (b - a)).tdiv 4)) * 2)))) - 1))).bind fun data_26 =>
  some data_26
  else
  some data) : Option (List Int))).bind fun data_27 =>
  some data_27 : Option (List Int))) rfl rfl (by decide) rfl ?_
 exact go
instance i104 {data : (List Int)} {a : Int} {b : Int} {swaps : Int} : Rn cx (f104 data a b swaps) 104 [(ssl eI data), (iT a), (iT b), (.ptr true [(iT swaps)])] (fun (r : Int × Int × Int) => (.tup [(iT r.1), (iT r.2.1)])) (fun r => [(.ptr true [(iT r.2.2)])]) := by
 refine Rn.of rfl rfl (by decide) rfl ?_; unfold f104; exact go
instance i100 {data : (List Int)} {a : Int} {b : Int} {c : Int} {swaps : Int} : Rn cx (f100 data a b c swaps) 100 [(ssl eI data), (iT a), (iT b), (iT c), (.ptr true [(iT swaps)])] (fun (r : Int × Int) => (iT r.1)) (fun r => [(.ptr true [(iT r.2)])]) := by
 refine Rn.of rfl rfl (by decide) rfl ?_; unfold f100; exact go
instance i99 {data : (List Int)} {a : Int} {swaps : Int} : Rn cx (f99 data a swaps) 99 [(ssl eI data), (iT a), (.ptr true [(iT swaps)])] (fun (r : Int × Int) => (iT r.1)) (fun r => [(.ptr true [(iT r.2)])]) := by
 refine Rn.of rfl rfl (by decide) rfl ?_; unfold f99; exact go
instance i83 {data : (List Int)} {a : Int} {b : Int} : Rn cx (f83 data a b) 83 [(ssl eI data), (iT a), (iT b)] (fun (r : Int × Int) => (.tup [(iT r.1), (iT r.2)])) (fun r => []) := by
 refine Rn.of (e := (
  (jn (QN (fun (y : Int × Int) => [(9, .v (.ptr true [(iT y.1)])), (11, .v (iT y.2))])) ((if (w64 (b - a)) ≥ 8 then
  (jn (QN (fun (y : Int × Int × Int × Int) => [(0, .v (ssl eI data)), (9, .v (.ptr true [(iT y.1)])), (10, .v (iT y.2.1)), (11, .v (iT y.2.2.1)), (12, .v (iT y.2.2.2))])) ((if (w64 (b - a)) ≥ 50 then
  (f99 data (w64 (a + (w64 (w64 ((w64 (b - a)).tdiv 4))))) 0).bind fun o7 =>
  (f99 data (w64 (a + (w64 ((w64 ((w64 (b - a)).tdiv 4)) * 2)))) o7.2).bind fun o9 =>
  (f99 data (w64 (a + (w64 ((w64 ((w64 (b - a)).tdiv 4)) * 3)))) o9.2).bind fun o11 =>
  some (o11.2, o7.1, o9.1, o11.1)
  else
  some (0, w64 (a + (w64 (w64 ((w64 (b - a)).tdiv 4)))), w64 (a + (w64 ((w64 ((w64 (b - a)).tdiv 4)) * 2))), w64 (a + (w64 ((w64 ((w64 (b - a)).tdiv 4)) * 3))))) : Option (Int × Int × Int × Int))).bind fun (swaps_13, i_14, j_15, k_16) =>
  (f100 data i_14 j_15 k_16 swaps_13).bind fun o17 =>
  some (o17.2, o17.1)
  else
  some (0, w64 (a + (w64 ((w64 ((w64 (b - a)).tdiv 4)) * 2))))) : Option (Int × Int))).bind fun (swaps_19, j_20) =>
  if swaps_19 = 0 then
  some (j_20, 1)
  else
  if swaps_19 = 12 then
  some (j_20, 2)
  else
  some (j_20, 0) : Option (Int × Int))) rfl rfl (by decide) rfl ?_
 exact go
instance : Io0 cx 83 := ⟨rfl⟩
instance i84_0 : Lp cx f84_0 32 L84_0 (fun (zs : (List Int) × Int × Int) => [(0, .v (osl eI true zs.1)), (6, .v (iT zs.2.1)), (7, .v (iT zs.2.2))]) (QX 0 (fun (y : (List Int)) => [(0, .v (osl eI true y))])) := by
 refine Lp.of ?_; unfold f84_0; exact go
instance i84 {data : (List Int)} {a : Int} {b : Int} : Rn cx (f84 data a b) 84 [(osl eI true data), (iT a), (iT b)] (fun (r : (List Int)) => (.tup [])) (fun r => [(osl eI true r)]) := by
 refine Rn.of rfl rfl (by decide) rfl ?_; unfold f84; exact go
instance i85_1 {a : Int} {b : Int} {data_1 : (List Int)} {j_3 : Int} : Lp cx (lw (a, j_3) (f85_1 b data_1)) 133 L85_1 (fun (zs : Int) => [(0, .v (osl eI true data_1)), (1, .v (iT a)), (2, .v (iT b)), (7, .v (iT zs)), (8, .v (iT j_3))]) (QX 2 (fun (y : Int) => [(0, .v (osl eI true data_1)), (1, .v (iT a)), (2, .v (iT b)), (7, .v (iT y)), (8, .v (iT j_3))])) := by
 refine Lp.of (f := (fun
 | i_5 =>
  (jn (QN (fun (y : Bool) => [(0, .v (osl eI true data_1)), (1, .v (iT a)), (2, .v (iT b)), (7, .v (iT i_5)), (8, .v (iT j_3)), (32, .v (.bool y))])) ((if i_5 < b then
  (ix data_1 i_5).bind fun v_9 =>
  (ix data_1 (w64 (i_5 - 1))).bind fun v_11 =>
  (f86 v_9 v_11).bind fun o13 =>
  some (decide (¬ (o13 = true)))
  else
  some false) : Option (Bool))).bind fun x_6 =>
  if x_6 = true then
  some (.inl (w64 (i_5 + 1)))
  else
  some (.inr i_5) : Int → Option (Int ⊕ Int))) ?_
 exact go
instance i85_2 {a : Int} {b : Int} {j_3 : Int} {i_18 : Int} : Lp cx (lw (a, b, j_3, i_18) f85_2) 133 L85_2 (fun (zs : (List Int) × Int) => [(0, .v (osl eI true zs.1)), (1, .v (iT a)), (2, .v (iT b)), (7, .v (iT i_18)), (8, .v (iT j_3)), (9, .v (iT zs.2))]) (QX 4 (fun (y : (List Int)) => [(0, .v (osl eI true y)), (1, .v (iT a)), (2, .v (iT b)), (7, .v (iT i_18)), (8, .v (iT j_3))])) := by
 refine Lp.of ?_; unfold lw f85_2; exact go
instance i85_3 {a : Int} {b : Int} {j_3 : Int} {i_18 : Int} : Lp cx (lw (a, j_3, i_18) (f85_3 b)) 133 L85_3 (fun (zs : (List Int) × Int) => [(0, .v (osl eI true zs.1)), (1, .v (iT a)), (2, .v (iT b)), (7, .v (iT i_18)), (8, .v (iT j_3)), (10, .v (iT zs.2))]) (QX 6 (fun (y : (List Int)) => [(0, .v (osl eI true y)), (1, .v (iT a)), (2, .v (iT b)), (7, .v (iT i_18)), (8, .v (iT j_3))])) := by
 refine Lp.of ?_; unfold lw f85_3; exact go
instance i85_0 {a : Int} {b : Int} : Lp cx (f85_0 a b) 133 L85_0 (fun (zs : (List Int) × Int × Int) => [(0, .v (osl eI true zs.1)), (1, .v (iT a)), (2, .v (iT b)), (7, .v (iT zs.2.1)), (8, .v (iT zs.2.2))]) (QO (QX 0 (fun (y : (List Int)) => [(0, .v (osl eI true y))])) (QR (fun (y : (List Int) × Bool) => [(0, .v (osl eI true y.1)), (6, .v (.bool y.2))]))) := by
 refine Lp.of (f := (fun
 | (data_1, i_2, j_3) =>
  if j_3 < 5 then
  (iter (lw (a, j_3)  (f85_1 b data_1)) i_2).bind fun i_18 =>
  if i_18 = b then
  some (.inr (.inr (data_1, true)))
  else
  if (w64 (b - a)) < 50 then
  some (.inr (.inr (data_1, false)))
  else
  (ix data_1 (w64 (i_18 - 1))).bind fun v_21 =>
  (ix data_1 i_18).bind fun v_23 =>
  (ix (data_1.set i_18.toNat v_21) (w64 (i_18 - 1))).bind fun v_26 =>
  (jn (QN (fun (y : (List Int)) => [(0, .v (osl eI true y)), (1, .v (iT a)), (2, .v (iT b)), (7, .v (iT i_18)), (8, .v (iT j_3))])) ((if (w64 (i_18 - a)) ≥ 2 then
  (iter (lw (a, b, j_3, i_18)  f85_2) (((data_1.set i_18.toNat v_21).set (w64 (i_18 - 1)).toNat v_23), w64 (i_18 - 1))).bind fun data_48 =>
  some data_48
  else
  some ((data_1.set i_18.toNat v_21).set (w64 (i_18 - 1)).toNat v_23)) : Option (List Int))).bind fun data_49 =>
  (jn (QN (fun (y : (List Int)) => [(0, .v (osl eI true y)), (1, .v (iT a)), (2, .v (iT b)), (7, .v (iT i_18)), (8, .v (iT j_3))])) ((if (w64 (b - i_18)) ≥ 2 then
  (iter (lw (a, j_3, i_18)  (f85_3 b)) (data_49, w64 (i_18 + 1))).bind fun data_69 =>
  some data_69
  else
  some data_49) : Option (List Int))).bind fun data_70 =>
  some (.inl (data_70, i_18, w64 (j_3 + 1)))
  else
  some (.inr (.inl data_1)) : (List Int) × Int × Int → Option (((List Int) × Int × Int) ⊕ ((List Int) ⊕ ((List Int) × Bool))))) ?_
 exact go
instance i85 {data : (List Int)} {a : Int} {b : Int} : Rn cx (f85 data a b) 85 [(osl eI true data), (iT a), (iT b)] (fun (r : Bool × (List Int)) => (.bool r.1)) (fun r => [(osl eI true r.2)]) := by
 refine Rn.of rfl rfl (by decide) rfl ?_; unfold f85; exact go
instance i87_1 {a : Int} {data_9 : (List Int)} {j_11 : Int} : Lp cx (f87_1 a data_9 j_11) 84 L87_1 (fun (zs : Int) => [(0, .v (osl eI true data_9)), (1, .v (iT a)), (9, .v (iT zs)), (10, .v (iT j_11))]) (QX 2 (fun (y : Int) => [(0, .v (osl eI true data_9)), (1, .v (iT a)), (9, .v (iT y)), (10, .v (iT j_11))])) := by
 refine Lp.of (f := (fun
 | i_12 =>
  (jn (QN (fun (y : Bool) => [(0, .v (osl eI true data_9)), (1, .v (iT a)), (9, .v (iT i_12)), (10, .v (iT j_11)), (43, .v (.bool y))])) ((if i_12 ≤ j_11 then
  (ix data_9 a).bind fun v_16 =>
  (ix data_9 i_12).bind fun v_18 =>
  (f86 v_16 v_18).bind fun o20 =>
  some (decide (¬ (o20 = true)))
  else
  some false) : Option (Bool))).bind fun x_13 =>
  if x_13 = true then
  some (.inl (w64 (i_12 + 1)))
  else
  some (.inr i_12) : Int → Option (Int ⊕ Int))) ?_
 exact go
instance i87_2 {a : Int} {data_9 : (List Int)} {i_25 : Int} : Lp cx (f87_2 a data_9 i_25) 84 L87_2 (fun (zs : Int) => [(0, .v (osl eI true data_9)), (1, .v (iT a)), (9, .v (iT i_25)), (10, .v (iT zs))]) (QX 4 (fun (y : Int) => [(0, .v (osl eI true data_9)), (1, .v (iT a)), (9, .v (iT i_25)), (10, .v (iT y))])) := by
 refine Lp.of (f := (fun
 | j_26 =>
  (jn (QN (fun (y : Bool) => [(0, .v (osl eI true data_9)), (1, .v (iT a)), (9, .v (iT i_25)), (10, .v (iT j_26)), (59, .v (.bool y))])) ((if i_25 ≤ j_26 then
  (ix data_9 a).bind fun v_30 =>
  (ix data_9 j_26).bind fun v_32 =>
  (f86 v_30 v_32).bind fun o34 =>
  some o34
  else
  some false) : Option (Bool))).bind fun x_27 =>
  if x_27 = true then
  some (.inl (w64 (j_26 - 1)))
  else
  some (.inr j_26) : Int → Option (Int ⊕ Int))) ?_
 exact go
instance i87_0 {a : Int} : Lp cx (f87_0 a) 84 L87_0 (fun (zs : (List Int) × Int × Int) => [(0, .v (osl eI true zs.1)), (1, .v (iT a)), (9, .v (iT zs.2.1)), (10, .v (iT zs.2.2))]) (QX 0 (fun (y : (List Int) × Int) => [(0, .v (osl eI true y.1)), (9, .v (iT y.2))])) := by
 refine Lp.of ?_; unfold f87_0; exact go
instance i87 {data : (List Int)} {a : Int} {b : Int} {pivot : Int} : Rn cx (f87 data a b pivot) 87 [(osl eI true data), (iT a), (iT b), (iT pivot)] (fun (r : Int × (List Int)) => (iT r.1)) (fun r => [(osl eI true r.2)]) := by
 refine Rn.of rfl rfl (by decide) rfl ?_; unfold f87; exact go
instance i88_0 {data : (List Int)} {a : Int} {b : Int} {pivot : Int} {v_1 : Int} {v_3 : Int} : Lp cx (f88_0 data a b pivot v_1 v_3) 168 L88_0 (fun (zs : Int) => [(0, .v (osl eI true ((data.set a.toNat v_1).set pivot.toNat v_3))), (1, .v (iT a)), (10, .v (iT zs)), (11, .v (iT (w64 (b - 1))))]) (QX 0 (fun (y : Int) => [(0, .v (osl eI true ((data.set a.toNat v_1).set pivot.toNat v_3))), (1, .v (iT a)), (10, .v (iT y)), (11, .v (iT (w64 (b - 1))))])) := by
 refine Lp.of (f := (fun
 | i_9 =>
  (jn (QN (fun (y : Bool) => [(0, .v (osl eI true ((data.set a.toNat v_1).set pivot.toNat v_3))), (1, .v (iT a)), (10, .v (iT i_9)), (11, .v (iT (w64 (b - 1)))), (43, .v (.bool y))])) ((if i_9 ≤ (w64 (b - 1)) then
  (ix ((data.set a.toNat v_1).set pivot.toNat v_3) i_9).bind fun v_13 =>
  (ix ((data.set a.toNat v_1).set pivot.toNat v_3) a).bind fun v_15 =>
  (f86 v_13 v_15).bind fun o17 =>
  some o17
  else
  some false) : Option (Bool))).bind fun x_10 =>
  if x_10 = true then
  some (.inl (w64 (i_9 + 1)))
  else
  some (.inr i_9) : Int → Option (Int ⊕ Int))) ?_
 exact go
instance i88_1 {data : (List Int)} {a : Int} {pivot : Int} {v_1 : Int} {v_3 : Int} {i_22 : Int} : Lp cx (f88_1 data a pivot v_1 v_3 i_22) 168 L88_1 (fun (zs : Int) => [(0, .v (osl eI true ((data.set a.toNat v_1).set pivot.toNat v_3))), (1, .v (iT a)), (10, .v (iT i_22)), (11, .v (iT zs))]) (QX 2 (fun (y : Int) => [(0, .v (osl eI true ((data.set a.toNat v_1).set pivot.toNat v_3))), (1, .v (iT a)), (10, .v (iT i_22)), (11, .v (iT y))])) := by
 refine Lp.of (f := (fun
 | j_23 =>
  (jn (QN (fun (y : Bool) => [(0, .v (osl eI true ((data.set a.toNat v_1).set pivot.toNat v_3))), (1, .v (iT a)), (10, .v (iT i_22)), (11, .v (iT j_23)), (60, .v (.bool y))])) ((if i_22 ≤ j_23 then
  (ix ((data.set a.toNat v_1).set pivot.toNat v_3) j_23).bind fun v_27 =>
  (ix ((data.set a.toNat v_1).set pivot.toNat v_3) a).bind fun v_29 =>
  (f86 v_27 v_29).bind fun o31 =>
  some (decide (¬ (o31 = true)))
  else
  some false) : Option (Bool))).bind fun x_24 =>
  if x_24 = true then
  some (.inl (w64 (j_23 - 1)))
  else
  some (.inr j_23) : Int → Option (Int ⊕ Int))) ?_
 exact go
end
end Go.Proofs.YtcllfkplpdppiaaH
