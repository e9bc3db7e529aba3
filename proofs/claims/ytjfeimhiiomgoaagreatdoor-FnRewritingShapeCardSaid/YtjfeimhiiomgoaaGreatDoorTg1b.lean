import Derived.Test.YtjfeimhiiomgoaaGreatDoorTg1a
set_option maxHeartbeats 2000000
set_option linter.unusedVariables false
set_option linter.unusedSimpArgs false
set_option linter.defProp false
set_option linter.unusedSectionVars false
set_option maxRecDepth 100000
namespace Go.Proofs.YtjfeimhiiomgoaaGreatDoorH
open Go
noncomputable section
variable {o4 : ((List Relation) × Query)} {o6 : ((List RewritingStep) × Bool)} {o1 o3 o5 : (Int × L1Cur)} {slices : (List (List Int))} {o24 : (List (List UInt8))} {atoms : (List Atom)} {a b code free indices l_43 not o19 o7 o9 plus_38 terms variables want : (List Int)} {l relations : (List Relation)} {f rewriting : (List RewritingStep)} {name s0 s1 : (List UInt8)} {atom : Atom} {from2 high i i_15 i_17 i_27 i_7 k low n n0 n1 n_12 n_17 n_40 sign skip t to v v_19 x : Int} {c : L1Cur} {q query : Query}
instance i76 : Rn cx (f76 c l) 76 [(.ptr true [(ssl eU c.b), (iT c.i), (iT c.h)]), (ssl eRelation l)] (fun (r : Query × L1Cur) => (.agg [(iT r.1.VariableCount), (osl eAtom true r.1.Atoms), (osl eI true r.1.Free)])) (fun r => [(.ptr true [(ssl eU r.2.b), (iT r.2.i), (iT r.2.h)])]) := Rn.o (e := (
  sn 1 4 (.ptr true [(iT 0), (osl eAtom true ([])), (osl eI true ([]))]) <| 
  (f97 c l).bind fun o1 =>
  (f96 o1.2 14).bind fun o3 =>
  (jn (QN (fun (y : (List Int) × Int × Int × Int × (List Atom) × (List Int)) => [(0, .v (.ptr true [(ssl eU y.1), (iT y.2.1), (iT y.2.2.1)])), (4, .v (.ptr true [(iT 0), (osl eAtom true ([])), (osl eI true ([]))])), (5, .v (.ptr true [(iT y.2.2.2.1), (osl eAtom true y.2.2.2.2.1), (osl eI true y.2.2.2.2.2)]))])) ((if o3.1 = 0 then
  sn 5 17 (osl eI true ([-1, w64 (o1.1.VariableCount + 1), 5])) <| 
  sn 0 17 (ssl eI ([-1, w64 (o1.1.VariableCount + 1), 5])) <| 
  (f95 o3.2 ([-1, w64 (o1.1.VariableCount + 1), 5])).bind fun o8 =>
  some (o8.2.b, o8.2.i, o8.2.h, o8.1, o1.1.Atoms, o1.1.Free)
  else
  (jn (QN (fun (y : (List Int) × Int × Int × (List Atom) × (List Int)) => [(0, .v (.ptr true [(ssl eU y.1), (iT y.2.1), (iT y.2.2.1)])), (4, .v (.ptr true [(iT 0), (osl eAtom true ([])), (osl eI true ([]))])), (5, .v (.ptr true [(iT o1.1.VariableCount), (osl eAtom true y.2.2.2.1), (osl eI true y.2.2.2.2)]))])) ((if o3.1 = 1 then
  sn 4 27 (osl eI true ([0, 0])) <| 
  (f96 o3.2 6).bind fun o13 =>
  (app 32 o1.1.Atoms ([({ Relation := w64 (o13.1 - 1), Terms := [0, 0] } : Atom)])).bind fun l_15 =>
  some (o13.2.b, o13.2.i, o13.2.h, l_15, o1.1.Free)
  else
  (jn (QN (fun (y : (List Int) × Int × Int × (List Atom) × (List Int)) => [(0, .v (.ptr true [(ssl eU y.1), (iT y.2.1), (iT y.2.2.1)])), (4, .v (.ptr true [(iT 0), (osl eAtom true ([])), (osl eI true ([]))])), (5, .v (.ptr true [(iT o1.1.VariableCount), (osl eAtom true y.2.2.2.1), (osl eI true y.2.2.2.2)]))])) ((if o3.1 = 2 then
  (ix o1.1.Atoms 0).bind fun v_20 =>
  sn 7 40 (osl eI true ([-11, 4, 3])) <| 
  sn 0 40 (ssl eI ([-11, 4, 3])) <| 
  (f95 o3.2 ([-11, 4, 3])).bind fun o22 =>
  (ix v_20.Terms 0).bind fun v_24 =>
  some (o22.2.b, o22.2.i, o22.2.h, (o1.1.Atoms.set (0 : Int).toNat ({ Relation := v_20.Relation, Terms := (v_20.Terms.set (0 : Int).toNat o22.1) } : Atom)), o1.1.Free)
  else
  (jn (QN (fun (y : (List Int) × Int × Int × (List Int)) => [(0, .v (.ptr true [(ssl eU y.1), (iT y.2.1), (iT y.2.2.1)])), (4, .v (.ptr true [(iT 0), (osl eAtom true ([])), (osl eI true ([]))])), (5, .v (.ptr true [(iT o1.1.VariableCount), (osl eAtom true o1.1.Atoms), (osl eI true y.2.2.2)]))])) ((if o3.1 = 3 then
  (f96 o3.2 5).bind fun o31 =>
  (app 8 o1.1.Free ([o31.1])).bind fun l_33 =>
  some (o31.2.b, o31.2.i, o31.2.h, l_33)
  else
  some (o3.2.b, o3.2.i, o3.2.h, o1.1.Free)) : Option ((List Int) × Int × Int × (List Int)))).bind fun (c_35, c_36, c_37, q_38) =>
  some (c_35, c_36, c_37, o1.1.Atoms, q_38)) : Option ((List Int) × Int × Int × (List Atom) × (List Int)))).bind fun (c_39, c_40, c_41, q_42, q_43) =>
  some (c_39, c_40, c_41, q_42, q_43)) : Option ((List Int) × Int × Int × (List Atom) × (List Int)))).bind fun (c_44, c_45, c_46, q_47, q_48) =>
  some (c_44, c_45, c_46, o1.1.VariableCount, q_47, q_48)) : Option ((List Int) × Int × Int × Int × (List Atom) × (List Int)))).bind fun (c_49, c_50, c_51, q_52, q_53, q_54) =>
  some (({ VariableCount := q_52, Atoms := q_53, Free := q_54 } : Query), ({ b := c_49, i := c_50, h := c_51 } : L1Cur)) : Option (Query × L1Cur))) rfl (by exact go)
theorem r48 {code : (List Int)} {r : L1Cur × (List Relation) × Query} (h : f48 code = some r) : VJx cx (.ca 48 [(ssl eU code)] (.tup [(.ptr true [(ssl eU r.1.b), (iT r.1.i), (iT r.1.h)]), (ssl eRelation r.2.1), (.agg [(iT r.2.2.VariableCount), (osl eAtom true r.2.2.Atoms), (osl eI true r.2.2.Free)])]) []) := by
 unfold f48 at h
 refine ca_of rfl rfl (by decide) rfl ?_
 refine Wc.start (V1 := [(0, .v (ssl eU code))]) (by simp) ?_
 refine Wc.seq ?_
 refine Wc.evs (by conv => lhs; simp [-aI_app0, -aB_app0, -aS_app0, -aL_app0, -aI_app10, -aB_app10, -aS_app10, -aLt_app10I, -aLf_app10I, -aLt_app1I, -aLf_app1I]) ?_
 refine Wo.gh (vle_co (s := 4) (t1 := (.ptr true [(iT 0), (osl eAtom true ([])), (osl eI true ([]))])) rfl (by simp) (TLe.ptr (TLes.cons (TLe.refl _) (TLes.cons (TLe.nil rfl (by decide)) (TLes.cons (TLe.nil rfl (by decide)) (TLes.refl _))))) (by conv => lhs; simp)) ?_
 refine Wo.nil ?_
 refine Wc.seq ?_
 refine Wc.evs (by conv => lhs; simp [-aI_app0, -aB_app0, -aS_app0, -aL_app0, -aI_app10, -aB_app10, -aS_app10, -aLt_app10I, -aLf_app10I, -aLt_app1I, -aLf_app1I]) ?_
 obtain ⟨o1, h2, h⟩ := bind_some h
 refine Wo.call rfl rfl (by (conv => lhs; simp [-aI_app0, -aB_app0, -aS_app0, -aL_app0, -aI_app10, -aB_app10, -aS_app10, -aLt_app10I, -aLf_app10I, -aLt_app1I, -aLf_app1I, cx, ioTab]) <;> rfl) (run_ h2) (by simp) (by simp) (by (conv => lhs; simp [-aI_app0, -aB_app0, -aS_app0, -aL_app0, -aI_app10, -aB_app10, -aS_app10, -aLt_app10I, -aLf_app10I, -aLt_app1I, -aLf_app1I, cx, ioTab]) <;> rfl) (by (conv => lhs; simp [-aI_app0, -aB_app0, -aS_app0, -aL_app0, -aI_app10, -aB_app10, -aS_app10, -aLt_app10I, -aLf_app10I, -aLt_app1I, -aLf_app1I]) <;> rfl) ?_
 refine Wo.evs (by conv => lhs; simp [-aI_app0, -aB_app0, -aS_app0, -aL_app0, -aI_app10, -aB_app10, -aS_app10, -aLt_app10I, -aLf_app10I, -aLt_app1I, -aLf_app1I]) ?_
 refine Wo.nil ?_
 refine Wc.seq ?_
 refine Wc.evs (by conv => lhs; simp [-aI_app0, -aB_app0, -aS_app0, -aL_app0, -aI_app10, -aB_app10, -aS_app10, -aLt_app10I, -aLf_app10I, -aLt_app1I, -aLf_app1I]) ?_
 obtain ⟨o3, h4, h⟩ := bind_some h
 refine Wo.call rfl rfl (by (conv => lhs; simp [-aI_app0, -aB_app0, -aS_app0, -aL_app0, -aI_app10, -aB_app10, -aS_app10, -aLt_app10I, -aLf_app10I, -aLt_app1I, -aLf_app1I, cx, ioTab]) <;> rfl) (run_ h4) (by simp) (by simp) (by (conv => lhs; simp [-aI_app0, -aB_app0, -aS_app0, -aL_app0, -aI_app10, -aB_app10, -aS_app10, -aLt_app10I, -aLf_app10I, -aLt_app1I, -aLf_app1I, cx, ioTab]) <;> rfl) (by (conv => lhs; simp [-aI_app0, -aB_app0, -aS_app0, -aL_app0, -aI_app10, -aB_app10, -aS_app10, -aLt_app10I, -aLf_app10I, -aLt_app1I, -aLf_app1I]) <;> rfl) ?_
 refine Wo.evs (by conv => lhs; simp [-aI_app0, -aB_app0, -aS_app0, -aL_app0, -aI_app10, -aB_app10, -aS_app10, -aLt_app10I, -aLf_app10I, -aLt_app1I, -aLf_app1I]) ?_
 refine Wo.gh (vle_fz (s := 6) rfl (by simp) (by conv => lhs; simp)) ?_
 refine Wo.nil ?_
 refine Wc.seq ?_
 refine Wc.evs (by conv => lhs; simp [-aI_app0, -aB_app0, -aS_app0, -aL_app0, -aI_app10, -aB_app10, -aS_app10, -aLt_app10I, -aLf_app10I, -aLt_app1I, -aLf_app1I]) ?_
 obtain ⟨o5, h6, h⟩ := bind_some h
 refine Wo.ra (q := 11) (r := 5) (by conv => lhs; simp) (by rfl) (by decide) ?_
 refine Wo.call rfl rfl (by (conv => lhs; simp [-aI_app0, -aB_app0, -aS_app0, -aL_app0, -aI_app10, -aB_app10, -aS_app10, -aLt_app10I, -aLf_app10I, -aLt_app1I, -aLf_app1I, cx, ioTab]) <;> rfl) (run_ h6) (by simp) (by simp) (by (conv => lhs; simp [-aI_app0, -aB_app0, -aS_app0, -aL_app0, -aI_app10, -aB_app10, -aS_app10, -aLt_app10I, -aLf_app10I, -aLt_app1I, -aLf_app1I, cx, ioTab]) <;> rfl) (by (conv => lhs; simp [-aI_app0, -aB_app0, -aS_app0, -aL_app0, -aI_app10, -aB_app10, -aS_app10, -aLt_app10I, -aLf_app10I, -aLt_app1I, -aLf_app1I]) <;> rfl) ?_
 refine Wo.nil ⟨_, by conv => lhs; simp [-aI_app0, -aB_app0, -aS_app0, -aL_app0, -aI_app10, -aB_app10, -aS_app10, -aLt_app10I, -aLf_app10I, -aLt_app1I, -aLf_app1I], ?_⟩
 refine Wo.st (by conv => lhs; simp [-aI_app0, -aB_app0, -aS_app0, -aL_app0, -aI_app10, -aB_app10, -aS_app10, -aLt_app10I, -aLf_app10I, -aLt_app1I, -aLf_app1I]) ?_
 refine Wo.evs (by conv => lhs; simp [-aI_app0, -aB_app0, -aS_app0, -aL_app0, -aI_app10, -aB_app10, -aS_app10, -aLt_app10I, -aLf_app10I, -aLt_app1I, -aLf_app1I]) ?_
 refine Wo.nil ?_
 refine Wc.gh (vle_take (s := 2) (by simp) (by conv => lhs; simp [-aI_app0, -aB_app0, -aS_app0, -aL_app0, -aI_app10, -aB_app10, -aS_app10, -aLt_app10I, -aLf_app10I, -aLt_app1I, -aLf_app1I]) (by conv => lhs; simp)) ?_
 refine Wc.ret (res_of (.inr rfl) ?_)
 cases h
 exact ⟨_, _, _, by conv => lhs; simp, by (conv => lhs; simp [cx, ioTab, List.range, List.range.loop]) <;> rfl, by first | rfl | simp [-aI_app0, -aB_app0, -aS_app0, -aL_app0, -aI_app10, -aB_app10, -aS_app10, -aLt_app10I, -aLf_app10I, -aLt_app1I, -aLf_app1I]⟩
instance i48 : Rn cx (f48 code) 48 [(ssl eU code)] (fun (r : L1Cur × (List Relation) × Query) => (.tup [(.ptr true [(ssl eU r.1.b), (iT r.1.i), (iT r.1.h)]), (ssl eRelation r.2.1), (.agg [(iT r.2.2.VariableCount), (osl eAtom true r.2.2.Atoms), (osl eI true r.2.2.Free)])])) (fun r => []) := ⟨fun _ h => r48 h⟩
instance : Io0 cx 48 := ⟨rfl⟩
instance i15 : Rn cx (f15 code) 15 [(ssl eU code)] (fun (r : (List Relation) × Query) => (.tup [(ssl eRelation r.1), (.agg [(iT r.2.VariableCount), (osl eAtom true r.2.Atoms), (osl eI true r.2.Free)])])) (fun r => []) := Rn.o (e := (
  sn 2 3 (.ptr true [(iT 0), (osl eAtom true ([])), (osl eI true ([]))]) <| 
  (f48 code).bind fun o1 =>
  some (o1.2.1, o1.2.2) : Option ((List Relation) × Query))) rfl (by exact go)
instance : Io0 cx 15 := ⟨rfl⟩
instance i5 : Rn cx (f5 code) 5 [(ssl eU code)] (fun (r : (List Relation) × Query) => (.tup [(ssl eRelation r.1), (.agg [(iT r.2.VariableCount), (osl eAtom true r.2.Atoms), (osl eI true r.2.Free)])])) (fun r => []) := Rn.o (e := (
  sn 2 3 (.ptr true [(iT 0), (osl eAtom true ([])), (osl eI true ([]))]) <| 
  (f15 code).bind fun o1 =>
  some (o1.1, o1.2) : Option ((List Relation) × Query))) rfl (by exact go)
instance : Io0 cx 5 := ⟨rfl⟩
instance i42 : Rn cx (f42 n0 low high) 42 [(iT n0), (iT low), (iT high)] (fun (r : Bool) => (.bool r)) (fun r => []) := Rn.o (e := (
  (jn (QN (fun (y : Bool) => [(6, .v (.bool y))])) ((if low <= n0 then
  some (decide (n0 <= high))
  else
  some false) : Option (Bool))).bind fun x_1 =>
  some x_1 : Option Bool)) rfl (by exact go)
instance : Io0 cx 42 := ⟨rfl⟩
instance i70 {relation : Relation} : Rn cx (f70 relation) 70 [(.agg [(.str relation.Name), (iT relation.Arity), (iT relation.KeyLength)])] (fun (r : Bool) => (.bool r)) (fun r => []) := Rn.o (e := (
  (jn (QN (fun (y : Bool) => [(2, .v (.bool y))])) ((if (relation.Name.length : Int) = 1 then
  (ix relation.Name 0).bind fun c_4 =>
  (jn (QN (fun (y : Bool) => [(2, .v (.bool y))])) ((if (c_4.toNat : Int) >= 97 then
  (jn (QN (fun (y : Bool) => [(2, .v (.bool y))])) ((if (c_4.toNat : Int) <= 122 then
  (f42 relation.Arity 1 3).bind fun o12 =>
  (jn (QN (fun (y : Bool) => [(2, .v (.bool y))])) ((if o12 = true then
  (f42 relation.KeyLength 0 relation.Arity).bind fun o17 =>
  some o17
  else
  some false) : Option (Bool))).bind fun x_14 =>
  some x_14
  else
  some false) : Option (Bool))).bind fun x_9 =>
  some x_9
  else
  some false) : Option (Bool))).bind fun x_6 =>
  some x_6
  else
  some false) : Option (Bool))).bind fun x_1 =>
  some x_1 : Option Bool)) rfl (by exact go)
instance : Io0 cx 70 := ⟨rfl⟩
instance i41_0 : Lp cx (f41_0 relations) 34 L41_0 (fun (zs : Int) => [(0, .v (ssl eRelation relations)), (5, .v (ssl eRelation relations)), (6, .v (iT (relations.length : Int))), (7, .v (iT zs))]) (QO (QX 0 (fun (y : Unit) => [(0, .v (ssl eRelation relations))])) (QR (fun (y : Bool) => [(2, .v (.bool y))]))) := Lp.of (f := (fun
 | x_1 =>
  if x_1 < (relations.length : Int) then
  (ix relations x_1).bind fun v_3 =>
  (f70 v_3).bind fun o5 =>
  (jn (QN (fun (y : Bool) => [(0, .v (ssl eRelation relations)), (5, .v (ssl eRelation relations)), (6, .v (iT (relations.length : Int))), (7, .v (iT x_1)), (29, .v (.bool y))])) ((if ¬ (o5 = true) then
  some true
  else
  (jn (QN (fun (y : Bool) => [(0, .v (ssl eRelation relations)), (5, .v (ssl eRelation relations)), (6, .v (iT (relations.length : Int))), (7, .v (iT x_1)), (29, .v (.bool y))])) ((if x_1 > 0 then
  (ix relations (w64 (x_1 - 1))).bind fun v_13 =>
  some (!(Op.bytesLess v_13.Name v_3.Name))
  else
  some false) : Option (Bool))).bind fun x_10 =>
  some x_10) : Option (Bool))).bind fun x_7 =>
  if x_7 = true then
  some (.inr (.inr false))
  else
  some (.inl (w64 (x_1 + 1)))
  else
  some (.inr (.inl ())) : Int -> Option (Int ⊕ (Unit ⊕ Bool)))) (by exact go)
instance i41 : Rn cx (f41 relations) 41 [(ssl eRelation relations)] (fun (r : Bool) => (.bool r)) (fun r => []) := Rn.o rfl (by unfold f41; exact go)
instance : Io0 cx 41 := ⟨rfl⟩
instance i77_0 : Lp cx (f77_0 indices n1) 33 L77_0 (fun (zs : Int) => [(0, .v (ssl eI indices)), (1, .v (iT n1)), (7, .v (ssl eI indices)), (8, .v (iT (indices.length : Int))), (9, .v (iT zs))]) (QO (QX 0 (fun (y : Unit) => [])) (QR (fun (y : Bool) => [(4, .v (.bool y))]))) := Lp.of (f := (fun
 | x_1 =>
  if x_1 < (indices.length : Int) then
  (ix indices x_1).bind fun v_3 =>
  (f42 v_3 0 (w64 (n1 - 1))).bind fun o5 =>
  (jn (QN (fun (y : Bool) => [(0, .v (ssl eI indices)), (1, .v (iT n1)), (7, .v (ssl eI indices)), (8, .v (iT (indices.length : Int))), (9, .v (iT x_1)), (31, .v (.bool y))])) ((if ¬ (o5 = true) then
  some true
  else
  (jn (QN (fun (y : Bool) => [(0, .v (ssl eI indices)), (1, .v (iT n1)), (7, .v (ssl eI indices)), (8, .v (iT (indices.length : Int))), (9, .v (iT x_1)), (31, .v (.bool y))])) ((if x_1 > 0 then
  (ix indices (w64 (x_1 - 1))).bind fun v_13 =>
  some (decide (v_13 >= v_3))
  else
  some false) : Option (Bool))).bind fun x_10 =>
  some x_10) : Option (Bool))).bind fun x_7 =>
  if x_7 = true then
  some (.inr (.inr false))
  else
  some (.inl (w64 (x_1 + 1)))
  else
  some (.inr (.inl ())) : Int -> Option (Int ⊕ (Unit ⊕ Bool)))) (by exact go)
instance i77 : Rn cx (f77 indices n1) 77 [(ssl eI indices), (iT n1)] (fun (r : Bool) => (.bool r)) (fun r => []) := Rn.o rfl (by unfold f77; exact go)
instance : Io0 cx 77 := ⟨rfl⟩
instance i98_0 {s0 : (List Atom)} {g_f : Nat} {cp_f : List T} {f : Atom -> Option Bool} [hp_f : ∀ x0, Rn cx (f x0) g_f ((.agg [(iT x0.Relation), (ssl eI x0.Terms)]) :: cp_f) (fun o => (.bool o)) (fun _ => [])] [Io0 cx g_f] : Lp cx (f98_0 s0 f) 19 L98_0 (fun (zs : Int) => [(0, .v (ssl eAtom s0)), (1, .v (.fn g_f cp_f)), (7, .v (iT (s0.length : Int))), (8, .v (iT zs))]) (QO (QX 0 (fun (y : Unit) => [])) (QR (fun (y : Int) => [(4, .v (iT y))]))) := Lp.of (by unfold f98_0; exact go)
instance i98 {s0 : (List Atom)} {g_f : Nat} {cp_f : List T} {f : Atom -> Option Bool} [hp_f : ∀ x0, Rn cx (f x0) g_f ((.agg [(iT x0.Relation), (ssl eI x0.Terms)]) :: cp_f) (fun o => (.bool o)) (fun _ => [])] [Io0 cx g_f] : Rn cx (f98 s0 f) 98 [(ssl eAtom s0), (.fn g_f cp_f)] (fun (r : Int) => (iT r)) (fun r => []) := Rn.o rfl (by unfold f98; exact go)
instance : Io0 cx 98 := ⟨rfl⟩
instance i78 {s0 : (List Atom)} {g_f : Nat} {cp_f : List T} {f : Atom -> Option Bool} [hp_f : ∀ x0, Rn cx (f x0) g_f ((.agg [(iT x0.Relation), (ssl eI x0.Terms)]) :: cp_f) (fun o => (.bool o)) (fun _ => [])] [Io0 cx g_f] : Rn cx (f78 s0 f) 78 [(ssl eAtom s0), (.fn g_f cp_f)] (fun (r : Bool) => (.bool r)) (fun r => []) := Rn.o rfl (by unfold f78; exact go)
instance : Io0 cx 78 := ⟨rfl⟩
instance i79 {own : Atom} {c : Atom} : Rn cx (f79 own c) 79 [(.agg [(iT own.Relation), (ssl eI own.Terms)]), (.ptr false [(iT c.Relation), (ssl eI c.Terms)])] (fun (r : Bool) => (.bool r)) (fun r => []) := Rn.o rfl (by unfold f79; exact go)
instance : Io0 cx 79 := ⟨rfl⟩
theorem r83 {n : Int} {r : Nat} (h : f83 n = some r) : VJx cx (.ca 83 [.nils, .int .i64 n] (.sl true true 1 r []) []) := by
 exact ca_grow (zs := [.int .i64 (0)]) (zt := [(iT 0)]) rfl rfl rfl rfl (by decide) (by decide) h
instance i83 : Rn cx (f83 n) 83 [.nils, .int .i64 n] (fun r => .sl true true 1 r []) (fun _ => []) := ⟨fun _ h => r83 h⟩
instance i56_0 : Lp cx (f56_0 slices) 36 L56_0 (fun (zs : Int × Int) => [(0, .v (ssl (eL eI) slices)), (3, .v (iT zs.1)), (9, .v (ssl (eL eI) slices)), (10, .v (iT (slices.length : Int))), (11, .v (iT zs.2))]) (QX 0 (fun (y : Int) => [(0, .v (ssl (eL eI) slices)), (3, .v (iT y))])) := Lp.of (f := (fun
 | (size_1, x_2) =>
  if x_2 < (slices.length : Int) then
  (ix slices x_2).bind fun v_4 =>
  (jn (QN (fun (y : Unit) => [(0, .v (ssl (eL eI) slices)), (3, .v (iT (w64 (size_1 + (v_4.length : Int))))), (9, .v (ssl (eL eI) slices)), (10, .v (iT (slices.length : Int))), (11, .v (iT x_2))])) ((if (w64 (size_1 + (v_4.length : Int))) < 0 then
  none
  else
  some ()) : Option Unit)).bind fun _ =>
  some (.inl (w64 (size_1 + (v_4.length : Int)), w64 (x_2 + 1)))
  else
  some (.inr size_1) : Int × Int -> Option ((Int × Int) ⊕ Int))) (by exact go)
instance i56_1 : Lp cx (f56_1 slices) 36 L56_1 (fun (zs : Nat × (List Int) × Int) => [(6, .v (.sl true true 1 zs.1 (arr eI true zs.2.1))), (25, .v (ssl (eL eI) slices)), (26, .v (iT (slices.length : Int))), (27, .v (iT zs.2.2))]) (QX 2 (fun (y : Nat × (List Int)) => [(6, .v (.sl true true 1 y.1 (arr eI true y.2)))])) := Lp.of (by unfold f56_1; exact go)
instance i56 : Rn cx (f56 slices) 56 [(ssl (eL eI) slices)] (fun (r : (List Int)) => (osl eI true r)) (fun r => []) := Rn.o rfl (by unfold f56; exact go)
instance : Io0 cx 56 := ⟨rfl⟩
theorem r57 {l : List Int} {r : List Int} (h : f57 l = some r) : VJx cx (.ca 57 [osl eI true l] (.tup []) [osl eI true r]) := by
 exact ca_sort (X := X0) (fun _ _ _ _ _ h => .inr (.inr (.inl h))) (fun _ _ _ _ h => h) rfl h
instance i57 {l : List Int} : Rn cx (f57 l) 57 [osl eI true l] (fun _ => .tup []) (fun r => [osl eI true r]) := ⟨fun _ h => r57 h⟩
theorem r58 {l : List Int} {r : List Int} (h : f58 l = some r) : VJx cx (.ca 58 [osl eI true l] (osl eI true r) [.und]) := by
 exact ca_comp (X := X0) (fun _ _ _ _ _ h => .inr (.inr (.inr (h)))) (fun _ _ _ _ h => h) rfl h
instance i58 {l : List Int} : Rn cx (f58 l) 58 [osl eI true l] (fun r => osl eI true r) (fun _ => [.und]) := ⟨fun _ h => r58 h⟩
instance i22 : Rn cx (f22 a b) 22 [(ssl eI a), (ssl eI b)] (fun (r : (List Int)) => (osl eI true r)) (fun r => []) := Rn.o (e := (
  sn 4 8 (osl (eL eI) false ([a, b])) <| 
  (f56 ([a, b])).bind fun o1 =>
  (f57 o1).bind fun o3 =>
  (f58 o3).bind fun o5 =>
  some o5 : Option (List Int))) rfl (by exact go)
instance : Io0 cx 22 := ⟨rfl⟩
instance i20_0 : Lp cx (f20_0 atom) 23 L20_0 (fun (zs : (List Int) × Int) => [(1, .v (.ptr true [(iT atom.Relation), (ssl eI atom.Terms)])), (3, .v (osl eI true zs.1)), (8, .v (ssl eI atom.Terms)), (9, .v (iT (atom.Terms.length : Int))), (10, .v (iT zs.2))]) (QX 0 (fun (y : (List Int)) => [(3, .v (osl eI true y))])) := Lp.of (f := (fun
 | (out_1, x_2) =>
  if x_2 < (atom.Terms.length : Int) then
  (ix atom.Terms x_2).bind fun v_4 =>
  (f42 v_4 0 3).bind fun o6 =>
  (jn (QN (fun (y : (List Int)) => [(1, .v (.ptr true [(iT atom.Relation), (ssl eI atom.Terms)])), (3, .v (osl eI true y)), (8, .v (ssl eI atom.Terms)), (9, .v (iT (atom.Terms.length : Int))), (10, .v (iT x_2))])) ((if o6 = true then
  (app 8 out_1 ([v_4])).bind fun l_11 =>
  some l_11
  else
  some out_1) : Option (List Int))).bind fun out_13 =>
  some (.inl (out_13, w64 (x_2 + 1)))
  else
  some (.inr out_1) : (List Int) × Int -> Option (((List Int) × Int) ⊕ (List Int)))) (by exact go)
instance i20 : Rn cx (f20 atom) 20 [(.agg [(iT atom.Relation), (ssl eI atom.Terms)])] (fun (r : (List Int)) => (osl eI true r)) (fun r => []) := Rn.o (e := (
  sn 4 3 (osl eI true ([])) <| 
  (iter (f20_0 atom) ([], 0)).bind fun out_16 =>
  (f22 out_16 ([] : (List Int))).bind fun o17 =>
  some o17 : Option (List Int))) rfl (by exact go)
instance : Io0 cx 20 := ⟨rfl⟩
instance i49_1 {occurring_19 : (List Int)} {x_20 : Int} {v_22 : Atom} : Lp cx (lw (relations, occurring_19, x_20) (f49_1 query v_22)) 94 L49_1 (fun (zs : Int) => [(0, .v (ssl eRelation relations)), (3, .v (.ptr true [(iT query.VariableCount), (ssl eAtom query.Atoms), (ssl eI query.Free)])), (5, .v (osl eI true occurring_19)), (7, .v (.ptr true [(iT v_22.Relation), (ssl eI v_22.Terms)])), (36, .v (ssl eAtom query.Atoms)), (37, .v (iT (query.Atoms.length : Int))), (38, .v (iT x_20)), (71, .v (ssl eI v_22.Terms)), (72, .v (iT (v_22.Terms.length : Int))), (73, .v (iT zs))]) (QO (QX 2 (fun (y : Unit) => [(0, .v (ssl eRelation relations)), (3, .v (.ptr true [(iT query.VariableCount), (ssl eAtom query.Atoms), (ssl eI query.Free)])), (5, .v (osl eI true occurring_19)), (7, .v (.ptr true [(iT v_22.Relation), (ssl eI v_22.Terms)])), (36, .v (ssl eAtom query.Atoms)), (37, .v (iT (query.Atoms.length : Int))), (38, .v (iT x_20))])) (QR (fun (y : Bool) => [(4, .v (.bool y))]))) := Lp.of (by unfold lw f49_1; exact go)
instance i49_0 : Lp cx (f49_0 relations query) 94 L49_0 (fun (zs : (List Int) × Int) => [(0, .v (ssl eRelation relations)), (3, .v (.ptr true [(iT query.VariableCount), (ssl eAtom query.Atoms), (ssl eI query.Free)])), (5, .v (osl eI true zs.1)), (36, .v (ssl eAtom query.Atoms)), (37, .v (iT (query.Atoms.length : Int))), (38, .v (iT zs.2))]) (QO (QX 0 (fun (y : (List Int)) => [(3, .v (.ptr true [(iT query.VariableCount), (ssl eAtom query.Atoms), (ssl eI query.Free)])), (5, .v (osl eI true y))])) (QR (fun (y : Bool) => [(4, .v (.bool y))]))) := Lp.of (f := (fun
 | (occurring_19, x_20) =>
  if x_20 < (query.Atoms.length : Int) then
  (ix query.Atoms x_20).bind fun v_22 =>
  (f42 v_22.Relation 0 (w64 ((relations.length : Int) - 1))).bind fun o24 =>
  (jn (QN (fun (y : Bool) => [(0, .v (ssl eRelation relations)), (3, .v (.ptr true [(iT query.VariableCount), (ssl eAtom query.Atoms), (ssl eI query.Free)])), (5, .v (osl eI true occurring_19)), (7, .v (.ptr true [(iT v_22.Relation), (ssl eI v_22.Terms)])), (36, .v (ssl eAtom query.Atoms)), (37, .v (iT (query.Atoms.length : Int))), (38, .v (iT x_20)), (69, .v (.bool y))])) ((if ¬ (o24 = true) then
  some true
  else
  (ix relations v_22.Relation).bind fun v_29 =>
  (jn (QN (fun (y : Bool) => [(0, .v (ssl eRelation relations)), (3, .v (.ptr true [(iT query.VariableCount), (ssl eAtom query.Atoms), (ssl eI query.Free)])), (5, .v (osl eI true occurring_19)), (7, .v (.ptr true [(iT v_22.Relation), (ssl eI v_22.Terms)])), (36, .v (ssl eAtom query.Atoms)), (37, .v (iT (query.Atoms.length : Int))), (38, .v (iT x_20)), (69, .v (.bool y))])) ((if (v_22.Terms.length : Int) ≠ v_29.Arity then
  some true
  else
  (cutL query.Atoms 0 x_20).bind fun l_34 =>
  (f78 l_34 (fun x0 => f79 x0 v_22)).bind fun o36 =>
  some o36) : Option (Bool))).bind fun x_31 =>
  some x_31) : Option (Bool))).bind fun x_26 =>
  if x_26 = true then
  some (.inr (.inr false))
  else
  (iter (lw (relations, occurring_19, x_20)  (f49_1 query v_22)) 0).bind fun o => match o with
  | .inl _ =>
  (f20 v_22).bind fun o49 =>
  (f22 occurring_19 o49).bind fun o51 =>
  some (.inl (o51, w64 (x_20 + 1)))
  | .inr x_48 =>
  some (.inr (.inr x_48))
  else
  some (.inr (.inl occurring_19)) : (List Int) × Int -> Option (((List Int) × Int) ⊕ ((List Int) ⊕ Bool)))) (by exact go)
instance i49 : Rn cx (f49 relations query) 49 [(ssl eRelation relations), (.agg [(iT query.VariableCount), (ssl eAtom query.Atoms), (ssl eI query.Free)])] (fun (r : Bool) => (.bool r)) (fun r => []) := Rn.o (e := (
  (f41 relations).bind fun o1 =>
  (jn (QN (fun (y : Bool) => [(0, .v (ssl eRelation relations)), (3, .v (.ptr true [(iT query.VariableCount), (ssl eAtom query.Atoms), (ssl eI query.Free)])), (33, .v (.bool y))])) ((if ¬ (o1 = true) then
  some true
  else
  (f42 query.VariableCount 0 4).bind fun o6 =>
  (jn (QN (fun (y : Bool) => [(0, .v (ssl eRelation relations)), (3, .v (.ptr true [(iT query.VariableCount), (ssl eAtom query.Atoms), (ssl eI query.Free)])), (33, .v (.bool y))])) ((if ¬ (o6 = true) then
  some true
  else
  (f42 (query.Atoms.length : Int) 1 3).bind fun o11 =>
  (jn (QN (fun (y : Bool) => [(0, .v (ssl eRelation relations)), (3, .v (.ptr true [(iT query.VariableCount), (ssl eAtom query.Atoms), (ssl eI query.Free)])), (33, .v (.bool y))])) ((if ¬ (o11 = true) then
  some true
  else
  (f77 query.Free query.VariableCount).bind fun o16 =>
  some (decide (¬ (o16 = true)))) : Option (Bool))).bind fun x_13 =>
  some x_13) : Option (Bool))).bind fun x_8 =>
  some x_8) : Option (Bool))).bind fun x_3 =>
  if x_3 = true then
  some false
  else
  sn 2 5 (osl eI true ([])) <| 
  (iter (f49_0 relations query) ([], 0)).bind fun o => match o with
  | .inl occurring_55 =>
  some (decide ((occurring_55.length : Int) = query.VariableCount))
  | .inr x_56 =>
  some x_56 : Option Bool)) rfl (by exact go)
instance : Io0 cx 49 := ⟨rfl⟩
instance i19 : Rn cx (f19 relations atom) 19 [(ssl eRelation relations), (.agg [(iT atom.Relation), (ssl eI atom.Terms)])] (fun (r : (List Int)) => (osl eI true r)) (fun r => []) := Rn.o (e := (
  (f42 atom.Relation 0 (w64 ((relations.length : Int) - 1))).bind fun o1 =>
  (jn (QN (fun (y : Bool) => [(0, .v (ssl eRelation relations)), (3, .v (.ptr true [(iT atom.Relation), (ssl eI atom.Terms)])), (24, .v (.bool y))])) ((if ¬ (o1 = true) then
  some true
  else
  (ix relations atom.Relation).bind fun v_6 =>
  (f42 v_6.KeyLength 0 (atom.Terms.length : Int)).bind fun o8 =>
  some (decide (¬ (o8 = true)))) : Option (Bool))).bind fun x_3 =>
  if x_3 = true then
  sn 1 4 (osl eI true ([])) <| 
  some ([])
  else
  (ix relations atom.Relation).bind fun v_11 =>
  (cutL atom.Terms 0 v_11.KeyLength).bind fun l_13 =>
  (f20 ({ Relation := 0, Terms := l_13 } : Atom)).bind fun o15 =>
  some o15 : Option (List Int))) rfl (by exact go)
instance : Io0 cx 19 := ⟨rfl⟩
instance i71_0 {s0 : (List Int)} {g_f : Nat} {cp_f : List T} {f : Int -> Option Bool} [hp_f : ∀ x0, Rn cx (f x0) g_f ((iT x0) :: cp_f) (fun o => (.bool o)) (fun _ => [])] [Io0 cx g_f] : Lp cx (f71_0 s0 f) 19 L71_0 (fun (zs : Int) => [(0, .v (ssl eI s0)), (1, .v (.fn g_f cp_f)), (7, .v (iT (s0.length : Int))), (8, .v (iT zs))]) (QO (QX 0 (fun (y : Unit) => [])) (QR (fun (y : Int) => [(4, .v (iT y))]))) := Lp.of (by unfold f71_0; exact go)
instance i71 {s0 : (List Int)} {g_f : Nat} {cp_f : List T} {f : Int -> Option Bool} [hp_f : ∀ x0, Rn cx (f x0) g_f ((iT x0) :: cp_f) (fun o => (.bool o)) (fun _ => [])] [Io0 cx g_f] : Rn cx (f71 s0 f) 71 [(ssl eI s0), (.fn g_f cp_f)] (fun (r : Int) => (iT r)) (fun r => []) := Rn.o rfl (by unfold f71; exact go)
instance : Io0 cx 71 := ⟨rfl⟩
instance i43 {s0 : (List Int)} {g_f : Nat} {cp_f : List T} {f : Int -> Option Bool} [hp_f : ∀ x0, Rn cx (f x0) g_f ((iT x0) :: cp_f) (fun o => (.bool o)) (fun _ => [])] [Io0 cx g_f] : Rn cx (f43 s0 f) 43 [(ssl eI s0), (.fn g_f cp_f)] (fun (r : Bool) => (.bool r)) (fun r => []) := Rn.o rfl (by unfold f43; exact go)
instance : Io0 cx 43 := ⟨rfl⟩
instance i82_0 {s0 : (List Int)} : Lp cx (f82_0 s0 v) 19 L82_0 (fun (zs : Int) => [(0, .v (ssl eI s0)), (1, .v (iT v)), (7, .v (iT (s0.length : Int))), (8, .v (iT zs))]) (QO (QX 0 (fun (y : Unit) => [])) (QR (fun (y : Int) => [(4, .v (iT y))]))) := Lp.of (by unfold f82_0; exact go)
instance i82 {s0 : (List Int)} : Rn cx (f82 s0 v) 82 [(ssl eI s0), (iT v)] (fun (r : Int) => (iT r)) (fun r => []) := Rn.o rfl (by unfold f82; exact go)
instance : Io0 cx 82 := ⟨rfl⟩
instance i55 {s0 : (List Int)} : Rn cx (f55 s0 v) 55 [(ssl eI s0), (iT v)] (fun (r : Bool) => (.bool r)) (fun r => []) := Rn.o rfl (by unfold f55; exact go)
instance : Io0 cx 55 := ⟨rfl⟩
instance i72 {c : (List Int)} : Rn cx (f72 n0 c) 72 [(iT n0), (.ptr false [(ssl eI c)])] (fun (r : Bool) => (.bool r)) (fun r => []) := Rn.o rfl (by unfold f72; exact go)
instance : Io0 cx 72 := ⟨rfl⟩
instance i45 : Rn cx (f45 a b) 45 [(ssl eI a), (ssl eI b)] (fun (r : Bool) => (.bool r)) (fun r => []) := Rn.o rfl (by unfold f45; exact go)
instance : Io0 cx 45 := ⟨rfl⟩
instance i100_1 {out_3 : (List Int)} : Lp cx (lw out_3 (f100_1 relations atoms skip)) 45 L100_1 (fun (zs : (List Int) × Int) => [(0, .v (ssl eRelation relations)), (1, .v (ssl eAtom atoms)), (2, .v (iT skip)), (9, .v (ssl eI out_3)), (10, .v (ssl eI zs.1)), (16, .v (ssl eAtom atoms)), (17, .v (iT (atoms.length : Int))), (18, .v (iT zs.2))]) (QX 2 (fun (y : (List Int)) => [(0, .v (ssl eRelation relations)), (1, .v (ssl eAtom atoms)), (2, .v (iT skip)), (9, .v (ssl eI out_3)), (10, .v (ssl eI y))])) := Lp.of (f := (fun
 | (larger_4, x_5) =>
  if x_5 < (atoms.length : Int) then
  (ix atoms x_5).bind fun v_7 =>
  (jn (QN (fun (y : Bool) => [(0, .v (ssl eRelation relations)), (1, .v (ssl eAtom atoms)), (2, .v (iT skip)), (9, .v (ssl eI out_3)), (10, .v (ssl eI larger_4)), (12, .v (.ptr true [(iT v_7.Relation), (ssl eI v_7.Terms)])), (16, .v (ssl eAtom atoms)), (17, .v (iT (atoms.length : Int))), (18, .v (iT x_5)), (32, .v (.bool y))])) ((if x_5 ≠ skip then
  (f19 relations v_7).bind fun o12 =>
  (f45 o12 larger_4).bind fun o14 =>
  some o14
  else
  some false) : Option (Bool))).bind fun x_9 =>
  (jn (QN (fun (y : (List Int)) => [(0, .v (ssl eRelation relations)), (1, .v (ssl eAtom atoms)), (2, .v (iT skip)), (9, .v (ssl eI out_3)), (10, .v (ssl eI y)), (16, .v (ssl eAtom atoms)), (17, .v (iT (atoms.length : Int))), (18, .v (iT x_5))])) ((if x_9 = true then
  (f20 v_7).bind fun o19 =>
  (f22 larger_4 o19).bind fun o21 =>
  sn 1 10 (ssl eI o21) <| 
  some o21
  else
  some larger_4) : Option (List Int))).bind fun larger_23 =>
  some (.inl (larger_23, w64 (x_5 + 1)))
  else
  some (.inr larger_4) : (List Int) × Int -> Option (((List Int) × Int) ⊕ (List Int)))) (by exact go)
instance i100_0 : Lp cx (f100_0 relations atoms skip) 45 L100_0 (fun (zs : (List Int)) => [(0, .v (ssl eRelation relations)), (1, .v (ssl eAtom atoms)), (2, .v (iT skip)), (9, .v (ssl eI zs))]) (QR (fun (y : (List Int)) => [(8, .v (ssl eI y))])) := Lp.of (f := (fun
 | out_3 =>
  (iter (lw out_3  (f100_1 relations atoms skip)) (out_3, 0)).bind fun larger_26 =>
  if (larger_26.length : Int) = (out_3.length : Int) then
  some (.inr out_3)
  else
  some (.inl larger_26) : (List Int) -> Option ((List Int) ⊕ (List Int)))) (by exact go)
instance i100 : Rn cx (f100 relations atoms skip variables) 100 [(ssl eRelation relations), (ssl eAtom atoms), (iT skip), (ssl eI variables)] (fun (r : (List Int)) => (ssl eI r)) (fun r => []) := Rn.o (e := (
  (f22 variables ([] : (List Int))).bind fun o1 =>
  sn 1 9 (ssl eI o1) <| 
  (iter (f100_0 relations atoms skip) o1).bind fun x_30 =>
  some x_30 : Option (List Int))) rfl (by exact go)
instance : Io0 cx 100 := ⟨rfl⟩
instance i21_0 : Lp cx (f21_0 a b) 25 L21_0 (fun (zs : (List Int) × Int) => [(1, .v (ssl eI b)), (5, .v (osl eI true zs.1)), (9, .v (ssl eI a)), (10, .v (iT (a.length : Int))), (11, .v (iT zs.2))]) (QX 0 (fun (y : (List Int)) => [(5, .v (osl eI true y))])) := Lp.of (f := (fun
 | (out_1, x_2) =>
  if x_2 < (a.length : Int) then
  (ix a x_2).bind fun v_4 =>
  (f55 b v_4).bind fun o6 =>
  (jn (QN (fun (y : (List Int)) => [(1, .v (ssl eI b)), (5, .v (osl eI true y)), (9, .v (ssl eI a)), (10, .v (iT (a.length : Int))), (11, .v (iT x_2))])) ((if ¬ (o6 = true) then
  (app 8 out_1 ([v_4])).bind fun l_11 =>
  some l_11
  else
  some out_1) : Option (List Int))).bind fun out_13 =>
  some (.inl (out_13, w64 (x_2 + 1)))
  else
  some (.inr out_1) : (List Int) × Int -> Option (((List Int) × Int) ⊕ (List Int)))) (by exact go)
instance i21 : Rn cx (f21 a b) 21 [(ssl eI a), (ssl eI b)] (fun (r : (List Int)) => (osl eI true r)) (fun r => []) := Rn.o (e := (
  sn 3 5 (osl eI true ([])) <| 
  (iter (f21_0 a b) ([], 0)).bind fun out_16 =>
  some out_16 : Option (List Int))) rfl (by exact go)
instance : Io0 cx 21 := ⟨rfl⟩
instance i81_1 {out_13 : (List Int)} : Lp cx (lw (relations, out_13) (f81_1 atoms o7)) 64 L81_1 (fun (zs : (List Int) × Int) => [(0, .v (ssl eRelation relations)), (1, .v (ssl eAtom atoms)), (9, .v (ssl eI o7)), (10, .v (ssl eI out_13)), (11, .v (ssl eI zs.1)), (36, .v (ssl eAtom atoms)), (37, .v (iT (atoms.length : Int))), (38, .v (iT zs.2))]) (QX 2 (fun (y : (List Int)) => [(0, .v (ssl eRelation relations)), (1, .v (ssl eAtom atoms)), (9, .v (ssl eI o7)), (10, .v (ssl eI out_13)), (11, .v (ssl eI y))])) := Lp.of (f := (fun
 | (larger_14, x_15) =>
  if x_15 < (atoms.length : Int) then
  (ix atoms x_15).bind fun v_17 =>
  (f20 v_17).bind fun o19 =>
  (f21 o19 o7).bind fun o21 =>
  (f21 o21 larger_14).bind fun o23 =>
  (jn (QN (fun (y : (List Int)) => [(0, .v (ssl eRelation relations)), (1, .v (ssl eAtom atoms)), (9, .v (ssl eI o7)), (10, .v (ssl eI out_13)), (11, .v (ssl eI y)), (36, .v (ssl eAtom atoms)), (37, .v (iT (atoms.length : Int))), (38, .v (iT x_15))])) ((if (o23.length : Int) < (o21.length : Int) then
  (f22 larger_14 o21).bind fun o28 =>
  sn 1 11 (ssl eI o28) <| 
  some o28
  else
  some larger_14) : Option (List Int))).bind fun larger_30 =>
  some (.inl (larger_30, w64 (x_15 + 1)))
  else
  some (.inr larger_14) : (List Int) × Int -> Option (((List Int) × Int) ⊕ (List Int)))) (by exact go)
instance i81_0 : Lp cx (lw relations (f81_0 atoms o7)) 64 L81_0 (fun (zs : (List Int)) => [(0, .v (ssl eRelation relations)), (1, .v (ssl eAtom atoms)), (9, .v (ssl eI o7)), (10, .v (ssl eI zs))]) (QR (fun (y : (List Int)) => [(0, .v (ssl eRelation relations)), (8, .v (ssl eI y))])) := Lp.of (f := (fun
 | out_13 =>
  (iter (lw (relations, out_13)  (f81_1 atoms o7)) (out_13, 0)).bind fun larger_33 =>
  if (larger_33.length : Int) = (out_13.length : Int) then
  some (.inr out_13)
  else
  some (.inl larger_33) : (List Int) -> Option ((List Int) ⊕ (List Int)))) (by exact go)
instance i81 {atom : Int} : Rn cx (f81 relations atoms free atom) 81 [(ssl eRelation relations), (ssl eAtom atoms), (ssl eI free), (iT atom)] (fun (r : (List Int)) => (ssl eI r)) (fun r => []) := Rn.o (e := (
  (ix atoms atom).bind fun v_1 =>
  (f19 relations v_1).bind fun o3 =>
  sn 0 24 (ssl eI o3) <| 
  sn 1 25 (osl (eL eI) false ([free, o3])) <| 
  (f56 ([free, o3])).bind fun o5 =>
  sn 0 26 (ssl eI o5) <| 
  (f100 relations atoms atom o5).bind fun o7 =>
  (f20 v_1).bind fun o9 =>
  (f21 o9 o7).bind fun o11 =>
  sn 1 10 (ssl eI o11) <| 
  (iter (lw relations  (f81_0 atoms o7)) o11).bind fun x_37 =>
  some x_37 : Option (List Int))) rfl (by exact go)
instance : Io0 cx 81 := ⟨rfl⟩
instance i54 {from3 : Int} : Rn cx (f54 relations atoms free from3 to) 54 [(ssl eRelation relations), (ssl eAtom atoms), (ssl eI free), (iT from3), (iT to)] (fun (r : Bool) => (.bool r)) (fun r => []) := Rn.o (e := (
  (ix atoms to).bind fun v_1 =>
  (f20 v_1).bind fun o3 =>
  (jn (QN (fun (y : Bool) => [(10, .v (.bool y))])) ((if from3 ≠ to then
  (f81 relations atoms free from3).bind fun o8 =>
  (f21 o3 o8).bind fun o10 =>
  some (decide ((o10.length : Int) < (o3.length : Int)))
  else
  some false) : Option (Bool))).bind fun x_5 =>
  some x_5 : Option Bool)) rfl (by exact go)
instance : Io0 cx 54 := ⟨rfl⟩
instance i50 : Rn cx (f50 relations query from2 to) 50 [(ssl eRelation relations), (.agg [(iT query.VariableCount), (ssl eAtom query.Atoms), (ssl eI query.Free)]), (iT from2), (iT to)] (fun (r : Bool) => (.bool r)) (fun r => []) := Rn.o (e := (
  (f49 relations query).bind fun o1 =>
  (jn (QN (fun (y : Bool) => [(8, .v (.bool y))])) ((if o1 = true then
  (f42 from2 0 (w64 ((query.Atoms.length : Int) - 1))).bind fun o6 =>
  (jn (QN (fun (y : Bool) => [(8, .v (.bool y))])) ((if o6 = true then
  (f42 to 0 (w64 ((query.Atoms.length : Int) - 1))).bind fun o11 =>
  (jn (QN (fun (y : Bool) => [(8, .v (.bool y))])) ((if o11 = true then
  (f54 relations query.Atoms query.Free from2 to).bind fun o16 =>
  some o16
  else
  some false) : Option (Bool))).bind fun x_13 =>
  some x_13
  else
  some false) : Option (Bool))).bind fun x_8 =>
  some x_8
  else
  some false) : Option (Bool))).bind fun x_3 =>
  some x_3 : Option Bool)) rfl (by exact go)
instance : Io0 cx 50 := ⟨rfl⟩
theorem r119 {s0 : (List Int)} {r : (List Int)} (h : f119 s0 = some r) : VJx cx (.ca 119 [(ssl eI s0)] (osl eI true r) []) := by
 unfold f119 at h
 refine ca_clone (X := noExt) (fun _ _ _ _ h => h) (fun _ _ _ _ h => h) rfl (by decide) rfl (cl_eq h) ?_
 refine Wc.start (V1 := [(0, .v (ssl eI s0))]) (by simp) ?_
 refine Wc.seq ?_
 obtain ⟨l_1, h2, h⟩ := bind_some h
 have gx2 := appT_arr2 (E := eI) (b := true) (b' := false) (y := false) h2 (by decide) (arr_sc rfl _)
 simp [-aI_app0, -aB_app0, -aS_app0, -aL_app0, -aLt_app1I, -aLf_app1I, -aLt_app10I, -aLf_app10I] at gx2
 refine Wc.evs (by conv => lhs; simp [-aI_app0, -aB_app0, -aS_app0, -aL_app0, -aI_app10, -aB_app10, -aS_app10, -aLt_app10I, -aLf_app10I, -aLt_app1I, -aLf_app1I, gx2]) ?_
 refine Wo.gh (vle_co (s := 2) (t1 := (osl eI true l_1)) rfl (by simp) (tle_own rfl) (by conv => lhs; simp)) ?_
 refine Wo.nil ?_
 refine Wc.ret (res_of (.inr rfl) ?_)
 cases h
 exact ⟨_, _, _, by conv => lhs; simp, by (conv => lhs; simp [cx, ioTab, List.range, List.range.loop]) <;> rfl, by first | rfl | simp [-aI_app0, -aB_app0, -aS_app0, -aL_app0, -aI_app10, -aB_app10, -aS_app10, -aLt_app10I, -aLf_app10I, -aLt_app1I, -aLf_app1I, gx2]⟩
instance i119 {s0 : (List Int)} : Rn cx (f119 s0) 119 [(ssl eI s0)] (fun (r : (List Int)) => (osl eI true r)) (fun r => []) := ⟨fun _ h => r119 h⟩
instance : Io0 cx 119 := ⟨rfl⟩
instance i99_0 : Lp cx (lw (relations, query, skip) (f99_0 variables)) 38 L99_0 (fun (zs : (List Int) × Int) => [(0, .v (ssl eRelation relations)), (2, .v (iT skip)), (5, .v (.ptr true [(iT query.VariableCount), (ssl eAtom query.Atoms), (ssl eI query.Free)])), (9, .v (osl eI true zs.1)), (19, .v (ssl eI variables)), (20, .v (iT (variables.length : Int))), (21, .v (iT zs.2))]) (QX 0 (fun (y : (List Int)) => [(0, .v (ssl eRelation relations)), (2, .v (iT skip)), (5, .v (.ptr true [(iT query.VariableCount), (ssl eAtom query.Atoms), (ssl eI query.Free)])), (9, .v (osl eI true y))])) := Lp.of (f := (fun
 | (given_6, x_7) =>
  if x_7 < (variables.length : Int) then
  (ix variables x_7).bind fun v_9 =>
  (f42 v_9 0 3).bind fun o11 =>
  (jn (QN (fun (y : (List Int)) => [(0, .v (ssl eRelation relations)), (2, .v (iT skip)), (5, .v (.ptr true [(iT query.VariableCount), (ssl eAtom query.Atoms), (ssl eI query.Free)])), (9, .v (osl eI true y)), (19, .v (ssl eI variables)), (20, .v (iT (variables.length : Int))), (21, .v (iT x_7))])) ((if o11 = true then
  (app 8 given_6 ([v_9])).bind fun l_16 =>
  some l_16
  else
  some given_6) : Option (List Int))).bind fun given_18 =>
  some (.inl (given_18, w64 (x_7 + 1)))
  else
  some (.inr given_6) : (List Int) × Int -> Option (((List Int) × Int) ⊕ (List Int)))) (by exact go)
instance i99 : Rn cx (f99 relations query skip variables) 99 [(ssl eRelation relations), (.agg [(iT query.VariableCount), (ssl eAtom query.Atoms), (ssl eI query.Free)]), (iT skip), (ssl eI variables)] (fun (r : (List Int)) => (ssl eI r)) (fun r => []) := Rn.o (e := (
  (f49 relations query).bind fun o1 =>
  if ¬ (o1 = true) then
  sn 1 8 (osl eI true ([])) <| 
  some ([])
  else
  (f119 query.Free).bind fun o4 =>
  (iter (lw (relations, query, skip)  (f99_0 variables)) (o4, 0)).bind fun given_21 =>
  sn 5 36 (ssl eI given_21) <| 
  (f100 relations query.Atoms skip given_21).bind fun o22 =>
  some o22 : Option (List Int))) rfl (by exact go)
instance : Io0 cx 99 := ⟨rfl⟩
instance i80 {from2 : (List Int)} {to : (List Int)} : Rn cx (f80 relations query from2 to) 80 [(ssl eRelation relations), (.agg [(iT query.VariableCount), (ssl eAtom query.Atoms), (ssl eI query.Free)]), (ssl eI from2), (ssl eI to)] (fun (r : Bool) => (.bool r)) (fun r => []) := Rn.o (e := (
  (f49 relations query).bind fun o1 =>
  (jn (QN (fun (y : Bool) => [(8, .v (.bool y))])) ((if o1 = true then
  (f99 relations query (-1) from2).bind fun o6 =>
  (f45 to o6).bind fun o8 =>
  some o8
  else
  some false) : Option (Bool))).bind fun x_3 =>
  some x_3 : Option Bool)) rfl (by exact go)
instance : Io0 cx 80 := ⟨rfl⟩
instance i51 : Rn cx (f51 relations query from2 to) 51 [(ssl eRelation relations), (.agg [(iT query.VariableCount), (ssl eAtom query.Atoms), (ssl eI query.Free)]), (iT from2), (iT to)] (fun (r : Bool) => (.bool r)) (fun r => []) := Rn.o (e := (
  (f50 relations query from2 to).bind fun o1 =>
  (jn (QN (fun (y : Bool) => [(0, .v (ssl eRelation relations)), (8, .v (.bool y))])) ((if o1 = true then
  (ix query.Atoms from2).bind fun v_6 =>
  (ix query.Atoms to).bind fun v_8 =>
  (f19 relations v_6).bind fun o10 =>
  (f19 relations v_8).bind fun o12 =>
  (f80 relations query o10 o12).bind fun o14 =>
  some o14
  else
  some false) : Option (Bool))).bind fun x_3 =>
  some x_3 : Option Bool)) rfl (by exact go)
instance : Io0 cx 51 := ⟨rfl⟩
end
end Go.Proofs.YtjfeimhiiomgoaaGreatDoorH
