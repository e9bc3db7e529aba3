import Derived.Test.YtjfeimhiiomgoaaGreatTg1a
set_option maxHeartbeats 2000000
set_option linter.unusedVariables false
set_option linter.unusedSimpArgs false
set_option linter.defProp false
set_option linter.unusedSectionVars false
set_option maxRecDepth 100000
namespace Go.Proofs.YtjfeimhiiomgoaaGreatH
open Go
noncomputable section
variable {slices : (List (List Int))} {atoms : (List Atom)} {a b free indices not o19 o7 o9 plus_38 s0 variables want : (List Int)} {l relations : (List Relation)} {atom v_19 : Atom} {from2 high i i_15 i_17 k left low n0 n1 n_12 n_17 n_40 skip to v x : Int} {q query : Query}
instance i109_4 {a_43 : Int} : Lp cx (lw (k, n_40) (f109_4 q plus_38 a_43)) 120 L109_4 (fun (zs : (List Int) × Int) => [(3, .v (iT k)), (5, .v (.ptr true [(iT q.VariableCount), (ssl eAtom q.Atoms), (ssl eI q.Free)])), (9, .v (osl eI true plus_38)), (12, .v (osl eI true zs.1)), (13, .v (iT n_40)), (14, .v (iT a_43)), (15, .v (iT zs.2))]) (QX 8 (fun (y : (List Int)) => [(3, .v (iT k)), (5, .v (.ptr true [(iT q.VariableCount), (ssl eAtom q.Atoms), (ssl eI q.Free)])), (9, .v (osl eI true plus_38)), (12, .v (osl eI true y)), (13, .v (iT n_40)), (14, .v (iT a_43))])) := Lp.of (f := (fun
 | (met_45, b_46) =>
  if b_46 < (q.Atoms.length : Int) then
  (f45 met_45 a_43).bind fun o48 =>
  (jn (QN (fun (y : Bool) => [(3, .v (iT k)), (5, .v (.ptr true [(iT q.VariableCount), (ssl eAtom q.Atoms), (ssl eI q.Free)])), (9, .v (osl eI true plus_38)), (12, .v (osl eI true met_45)), (13, .v (iT n_40)), (14, .v (iT a_43)), (15, .v (iT b_46)), (112, .v (.bool y))])) ((if o48 = true then
  (f45 met_45 b_46).bind fun o53 =>
  (jn (QN (fun (y : Bool) => [(3, .v (iT k)), (5, .v (.ptr true [(iT q.VariableCount), (ssl eAtom q.Atoms), (ssl eI q.Free)])), (9, .v (osl eI true plus_38)), (12, .v (osl eI true met_45)), (13, .v (iT n_40)), (14, .v (iT a_43)), (15, .v (iT b_46)), (112, .v (.bool y))])) ((if ¬ (o53 = true) then
  (ix q.Atoms a_43).bind fun v_58 =>
  (ix q.Atoms b_46).bind fun v_60 =>
  (f111 v_58).bind fun o62 =>
  (f111 v_60).bind fun o64 =>
  (f164 o62 o64 plus_38).bind fun o66 =>
  some o66
  else
  some false) : Option (Bool))).bind fun x_55 =>
  some x_55
  else
  some false) : Option (Bool))).bind fun x_50 =>
  (jn (QN (fun (y : (List Int)) => [(3, .v (iT k)), (5, .v (.ptr true [(iT q.VariableCount), (ssl eAtom q.Atoms), (ssl eI q.Free)])), (9, .v (osl eI true plus_38)), (12, .v (osl eI true y)), (13, .v (iT n_40)), (14, .v (iT a_43)), (15, .v (iT b_46))])) ((if x_50 = true then
  (app 8 met_45 ([b_46])).bind fun l_71 =>
  some l_71
  else
  some met_45) : Option (List Int))).bind fun met_73 =>
  some (.inl (met_73, w64 (b_46 + 1)))
  else
  some (.inr met_45) : (List Int) × Int -> Option (((List Int) × Int) ⊕ (List Int)))) (by exact go)
instance i109_3 : Lp cx (lw (k, n_40) (f109_3 q plus_38)) 120 L109_3 (fun (zs : (List Int) × Int) => [(3, .v (iT k)), (5, .v (.ptr true [(iT q.VariableCount), (ssl eAtom q.Atoms), (ssl eI q.Free)])), (9, .v (osl eI true plus_38)), (12, .v (osl eI true zs.1)), (13, .v (iT n_40)), (14, .v (iT zs.2))]) (QX 6 (fun (y : (List Int)) => [(3, .v (iT k)), (5, .v (.ptr true [(iT q.VariableCount), (ssl eAtom q.Atoms), (ssl eI q.Free)])), (9, .v (osl eI true plus_38)), (12, .v (osl eI true y)), (13, .v (iT n_40))])) := Lp.of (f := (fun
 | (met_42, a_43) =>
  if a_43 < (q.Atoms.length : Int) then
  (iter (lw (k, n_40)  (f109_4 q plus_38 a_43)) (met_42, 0)).bind fun met_76 =>
  some (.inl (met_76, w64 (a_43 + 1)))
  else
  some (.inr met_42) : (List Int) × Int -> Option (((List Int) × Int) ⊕ (List Int)))) (by exact go)
instance i109_1 : Lp cx (lw k (f109_1 q plus_38)) 120 L109_1 (fun (zs : (List Int) × Int) => [(3, .v (iT k)), (5, .v (.ptr true [(iT q.VariableCount), (ssl eAtom q.Atoms), (ssl eI q.Free)])), (9, .v (osl eI true plus_38)), (12, .v (osl eI true zs.1)), (13, .v (iT zs.2))]) (QX 4 (fun (y : (List Int)) => [(3, .v (iT k)), (12, .v (osl eI true y))])) := Lp.of (f := (fun
 | (met_39, n_40) =>
  if n_40 < (q.Atoms.length : Int) then
  (iter (lw (k, n_40)  (f109_3 q plus_38)) (met_39, 0)).bind fun met_79 =>
  some (.inl (met_79, w64 (n_40 + 1)))
  else
  some (.inr met_39) : (List Int) × Int -> Option (((List Int) × Int) ⊕ (List Int)))) (by exact go)
instance i109 : Rn cx (f109 l q i k) 109 [(ssl eRelation l), (.agg [(iT q.VariableCount), (ssl eAtom q.Atoms), (ssl eI q.Free)]), (iT i), (iT k)] (fun (r : Bool) => (.bool r)) (fun r => []) := Rn.o (e := (
  if i = k then
  some false
  else
  (ix q.Atoms i).bind fun v_2 =>
  (f46 l v_2).bind fun o4 =>
  (f113 q.Free o4).bind fun o6 =>
  (iter (lw k  (f109_0 l q i)) (o6, 0)).bind fun plus_38 =>
  sn 3 12 (osl eI true ([i])) <| 
  (iter (lw k  (f109_1 q plus_38)) ([i], 0)).bind fun met_82 =>
  (f45 met_82 k).bind fun o83 =>
  some o83 : Option Bool)) rfl (by exact go)
instance : Io0 cx 109 := ⟨rfl⟩
instance i44_1 {k_1 : Int} : Lp cx (f44_1 l q k_1) 33 L44_1 (fun (zs : Bool × Int) => [(0, .v (ssl eRelation l)), (3, .v (.ptr true [(iT q.VariableCount), (ssl eAtom q.Atoms), (ssl eI q.Free)])), (5, .v (iT k_1)), (6, .v (.bool zs.1)), (7, .v (iT zs.2))]) (QX 2 (fun (y : Bool) => [(0, .v (ssl eRelation l)), (3, .v (.ptr true [(iT q.VariableCount), (ssl eAtom q.Atoms), (ssl eI q.Free)])), (5, .v (iT k_1)), (6, .v (.bool y))])) := Lp.of (f := (fun
 | (is_3, i_4) =>
  if i_4 < (q.Atoms.length : Int) then
  (jn (QN (fun (y : Bool) => [(0, .v (ssl eRelation l)), (3, .v (.ptr true [(iT q.VariableCount), (ssl eAtom q.Atoms), (ssl eI q.Free)])), (5, .v (iT k_1)), (6, .v (.bool y)), (7, .v (iT i_4))])) ((if is_3 = true then
  some true
  else
  (f109 l q i_4 k_1).bind fun o9 =>
  some o9) : Option (Bool))).bind fun is_6 =>
  some (.inl (is_6, w64 (i_4 + 1)))
  else
  some (.inr is_3) : Bool × Int -> Option ((Bool × Int) ⊕ Bool))) (by exact go)
instance i44_0 : Lp cx (f44_0 l q) 33 L44_0 (fun (zs : Int) => [(0, .v (ssl eRelation l)), (3, .v (.ptr true [(iT q.VariableCount), (ssl eAtom q.Atoms), (ssl eI q.Free)])), (5, .v (iT zs))]) (QO (QX 0 (fun (y : Unit) => [])) (QR (fun (y : Int) => [(4, .v (iT y))]))) := Lp.of (by unfold f44_0; exact go)
instance i44 : Rn cx (f44 l q) 44 [(ssl eRelation l), (.agg [(iT q.VariableCount), (ssl eAtom q.Atoms), (ssl eI q.Free)])] (fun (r : Int) => (iT r)) (fun r => []) := Rn.o rfl (by unfold f44; exact go)
instance : Io0 cx 44 := ⟨rfl⟩
instance i112 : Rn cx (f112 q k) 112 [(.agg [(iT q.VariableCount), (ssl eAtom q.Atoms), (ssl eI q.Free)]), (iT k)] (fun (r : Query) => (.agg [(iT r.VariableCount), (osl eAtom false r.Atoms), (osl eI true r.Free)])) (fun r => []) := Rn.o (e := (
  sn 2 4 (.ptr true [(iT 0), (osl eAtom true ([])), (osl eI true ([]))]) <| 
  (f43 q).bind fun o1 =>
  (f110 k 0 (w64 ((q.Atoms.length : Int) - 1))).bind fun o3 =>
  (jn (QN (fun (y : Int × (List Atom) × (List Int)) => [(4, .v (.ptr true [(iT 0), (osl eAtom true ([])), (osl eI true ([]))])), (5, .v (.ptr true [(iT y.1), (osl eAtom false y.2.1), (osl eI true y.2.2)]))])) ((if o3 = true then
  sn 1 5 (.ptr true [(iT o1.VariableCount), (ssl eAtom o1.Atoms), (osl eI true o1.Free)]) <| 
  (cutL o1.Atoms 0 k).bind fun l_8 =>
  (cutL o1.Atoms (w64 (k + 1)) o1.Atoms.length).bind fun l_10 =>
  (app 32 ([]) l_8).bind fun l_12 =>
  (app 32 l_12 l_10).bind fun l_14 =>
  sn 12 25 (osl eAtom false l_14) <| 
  some (o1.VariableCount, l_14, o1.Free)
  else
  some (o1.VariableCount, o1.Atoms, o1.Free)) : Option (Int × (List Atom) × (List Int)))).bind fun (x_16, x_17, x_18) =>
  some ({ VariableCount := x_16, Atoms := x_17, Free := x_18 } : Query) : Option Query)) rfl (by exact go)
instance : Io0 cx 112 := ⟨rfl⟩
instance i47 : Rn cx (f47 q k) 47 [(.agg [(iT q.VariableCount), (ssl eAtom q.Atoms), (ssl eI q.Free)]), (iT k)] (fun (r : Query) => (.agg [(iT r.VariableCount), (osl eAtom false r.Atoms), (osl eI true r.Free)])) (fun r => []) := Rn.o (e := (
  sn 2 4 (.ptr true [(iT 0), (osl eAtom true ([])), (osl eI true ([]))]) <| 
  (f112 q k).bind fun o1 =>
  (ix q.Atoms k).bind fun v_3 =>
  (f111 v_3).bind fun o5 =>
  (f113 q.Free o5).bind fun o7 =>
  some ({ VariableCount := o1.VariableCount, Atoms := o1.Atoms, Free := o7 } : Query) : Option Query)) rfl (by exact go)
instance : Io0 cx 47 := ⟨rfl⟩
instance i8_1 {out_6 : (List RewritingStep)} {x_7 : Int} {x_8 : (List Atom)} {x_9 : (List Int)} {o11 : Int} {v_14 : Atom} : Lp cx (lw (out_6, x_7, x_8, o11) (f8_1 l x_9 v_14)) 83 L8_1 (fun (zs : Int × (List Int) × (List Int) × (List Int) × Int) => [(0, .v (ssl eRelation l)), (6, .v (osl eRewritingStep true out_6)), (7, .v (.ptr true [(iT x_7), (ssl eAtom x_8), (osl eI true x_9)])), (8, .v (iT o11)), (9, .v (.ptr true [(iT v_14.Relation), (ssl eI v_14.Terms)])), (10, .v (.ptr true [(iT zs.1), (osl eI true zs.2.1), (osl eI true zs.2.2.1), (osl eI true zs.2.2.2.1)])), (11, .v (iT zs.2.2.2.2))]) (QX 2 (fun (y : Int × (List Int) × (List Int) × (List Int)) => [(0, .v (ssl eRelation l)), (6, .v (osl eRewritingStep true out_6)), (7, .v (.ptr true [(iT x_7), (ssl eAtom x_8), (osl eI true x_9)])), (8, .v (iT o11)), (10, .v (.ptr true [(iT y.1), (osl eI true y.2.1), (osl eI true y.2.2.1), (osl eI true y.2.2.2)]))])) := Lp.of (f := (fun
 | (v_18, v_19, v_20, v_21, j_22) =>
  if j_22 < 4 then
  (jb 3 (QN (fun (y : (List Int) × (List Int)) => [(0, .v (ssl eRelation l)), (6, .v (osl eRewritingStep true out_6)), (7, .v (.ptr true [(iT x_7), (ssl eAtom x_8), (osl eI true x_9)])), (8, .v (iT o11)), (9, .v (.ptr true [(iT v_14.Relation), (ssl eI v_14.Terms)])), (10, .v (.ptr true [(iT v_18), (osl eI true v_19), (osl eI true y.1), (osl eI true y.2)])), (11, .v (iT j_22))])) (((f45 x_9 j_22).bind fun o26 =>
  (jn (QN (fun (y : Bool) => [(0, .v (ssl eRelation l)), (6, .v (osl eRewritingStep true out_6)), (7, .v (.ptr true [(iT x_7), (ssl eAtom x_8), (osl eI true x_9)])), (8, .v (iT o11)), (9, .v (.ptr true [(iT v_14.Relation), (ssl eI v_14.Terms)])), (10, .v (.ptr true [(iT v_18), (osl eI true v_19), (osl eI true v_20), (osl eI true v_21)])), (11, .v (iT j_22)), (57, .v (.bool y))])) ((if o26 = true then
  some true
  else
  (f45 v_14.Terms j_22).bind fun o31 =>
  some (decide (¬ (o31 = true)))) : Option (Bool))).bind fun x_28 =>
  if x_28 = true then
  some (v_20, v_21)
  else
  (f46 l v_14).bind fun o34 =>
  (f45 o34 j_22).bind fun o36 =>
  (jn (QN (fun (y : (List Int) × (List Int)) => [(0, .v (ssl eRelation l)), (6, .v (osl eRewritingStep true out_6)), (7, .v (.ptr true [(iT x_7), (ssl eAtom x_8), (osl eI true x_9)])), (8, .v (iT o11)), (9, .v (.ptr true [(iT v_14.Relation), (ssl eI v_14.Terms)])), (10, .v (.ptr true [(iT v_18), (osl eI true v_19), (osl eI true y.1), (osl eI true y.2)])), (11, .v (iT j_22))])) ((if o36 = true then
  (app 8 v_20 ([j_22])).bind fun l_41 =>
  some (l_41, v_21)
  else
  (app 8 v_21 ([j_22])).bind fun l_43 =>
  some (v_20, l_43)) : Option ((List Int) × (List Int)))).bind fun (v_45, v_46) =>
  some (v_45, v_46)) : Option ((List Int) × (List Int)))).bind fun (v_47, v_48) =>
  some (.inl (v_18, v_19, v_47, v_48, w64 (j_22 + 1)))
  else
  some (.inr (v_18, v_19, v_20, v_21)) : Int × (List Int) × (List Int) × (List Int) × Int -> Option ((Int × (List Int) × (List Int) × (List Int) × Int) ⊕ (Int × (List Int) × (List Int) × (List Int))))) (by exact go)
instance i8_0 : Lp cx (f8_0 l) 83 L8_0 (fun (zs : (List RewritingStep) × Int × (List Atom) × (List Int)) => [(0, .v (ssl eRelation l)), (6, .v (osl eRewritingStep true zs.1)), (7, .v (.ptr true [(iT zs.2.1), (osl eAtom false zs.2.2.1), (osl eI true zs.2.2.2)]))]) (QO (QX 0 (fun (y : (List RewritingStep)) => [(6, .v (osl eRewritingStep true y))])) (QR (fun (y : (List RewritingStep) × Bool) => [(4, .v (osl eRewritingStep true y.1)), (5, .v (.bool y.2))]))) := Lp.of (f := (fun
 | (out_6, x_7, x_8, x_9) =>
  if (x_8.length : Int) > 0 then
  (f44 l ({ VariableCount := x_7, Atoms := x_8, Free := x_9 } : Query)).bind fun o11 =>
  if o11 < 0 then
  sn 3 4 (osl eRewritingStep true ([])) <| 
  some (.inr (.inr ([], false)))
  else
  sn 0 7 (.ptr true [(iT x_7), (ssl eAtom x_8), (osl eI true x_9)]) <| 
  (ix x_8 o11).bind fun v_14 =>
  (app 8 ([]) v_14.Terms).bind fun l_16 =>
  sn 14 40 (osl eI true l_16) <| 
  sn 2 42 (.agg [(iT v_14.Relation), (osl eI true l_16), (osl eI true ([])), (osl eI true ([]))]) <| 
  (iter (lw (out_6, x_7, x_8, o11)  (f8_1 l x_9 v_14)) (v_14.Relation, l_16, [], [], 0)).bind fun (v_51, v_52, v_53, v_54) =>
  (app 80 out_6 ([({ Atom := ({ Relation := v_51, Terms := v_52 } : Atom), Existential := v_53, Universal := v_54 } : RewritingStep)])).bind fun l_55 =>
  sn 5 7 (.ptr true [(iT x_7), (ssl eAtom x_8), (ssl eI x_9)]) <| 
  (f47 ({ VariableCount := x_7, Atoms := x_8, Free := x_9 } : Query) o11).bind fun o57 =>
  some (.inl (l_55, o57.VariableCount, o57.Atoms, o57.Free))
  else
  some (.inr (.inl out_6)) : (List RewritingStep) × Int × (List Atom) × (List Int) -> Option (((List RewritingStep) × Int × (List Atom) × (List Int)) ⊕ ((List RewritingStep) ⊕ ((List RewritingStep) × Bool))))) (by exact go)
instance i8 : Rn cx (f8 l q) 8 [(ssl eRelation l), (.agg [(iT q.VariableCount), (ssl eAtom q.Atoms), (ssl eI q.Free)])] (fun (r : (List RewritingStep) × Bool) => (.tup [(osl eRewritingStep true r.1), (.bool r.2)])) (fun r => []) := Rn.o (e := (
  sn 5 6 (osl eRewritingStep true ([])) <| 
  (f42 l q).bind fun o1 =>
  if o1 ≠ 1 then
  some ([], false)
  else
  (f43 q).bind fun o4 =>
  (iter (f8_0 l) ([], o4.VariableCount, o4.Atoms, o4.Free)).bind fun o => match o with
  | .inl out_61 =>
  some (out_61, true)
  | .inr (x_62, x_63) =>
  some (x_62, x_63) : Option ((List RewritingStep) × Bool))) rfl (by exact go)
instance : Io0 cx 8 := ⟨rfl⟩
instance i121 : Rn cx (f121 n0 low high) 121 [(iT n0), (iT low), (iT high)] (fun (r : Bool) => (.bool r)) (fun r => []) := Rn.o (e := (
  (jn (QN (fun (y : Bool) => [(6, .v (.bool y))])) ((if low <= n0 then
  some (decide (n0 <= high))
  else
  some false) : Option (Bool))).bind fun x_1 =>
  some x_1 : Option Bool)) rfl (by exact go)
instance : Io0 cx 121 := ⟨rfl⟩
instance i175 {relation : Relation} : Rn cx (f175 relation) 175 [(.agg [(.str relation.Name), (iT relation.Arity), (iT relation.KeyLength)])] (fun (r : Bool) => (.bool r)) (fun r => []) := Rn.o (e := (
  (jn (QN (fun (y : Bool) => [(2, .v (.bool y))])) ((if (relation.Name.length : Int) = 1 then
  (ix relation.Name 0).bind fun c_4 =>
  (jn (QN (fun (y : Bool) => [(2, .v (.bool y))])) ((if (c_4.toNat : Int) >= 97 then
  (jn (QN (fun (y : Bool) => [(2, .v (.bool y))])) ((if (c_4.toNat : Int) <= 122 then
  (f121 relation.Arity 1 3).bind fun o12 =>
  (jn (QN (fun (y : Bool) => [(2, .v (.bool y))])) ((if o12 = true then
  (f121 relation.KeyLength 0 relation.Arity).bind fun o17 =>
  some o17
  else
  some false) : Option (Bool))).bind fun x_14 =>
  some x_14
  else
  some false) : Option (Bool))).bind fun x_9 =>
  some x_9
  else
  some false) : Option (Bool))).bind fun x_6 =>
  some x_6
  else
  some false) : Option (Bool))).bind fun x_1 =>
  some x_1 : Option Bool)) rfl (by exact go)
instance : Io0 cx 175 := ⟨rfl⟩
instance i134_0 : Lp cx (f134_0 relations) 34 L134_0 (fun (zs : Int) => [(0, .v (ssl eRelation relations)), (5, .v (ssl eRelation relations)), (6, .v (iT (relations.length : Int))), (7, .v (iT zs))]) (QO (QX 0 (fun (y : Unit) => [(0, .v (ssl eRelation relations))])) (QR (fun (y : Bool) => [(2, .v (.bool y))]))) := Lp.of (f := (fun
 | x_1 =>
  if x_1 < (relations.length : Int) then
  (ix relations x_1).bind fun v_3 =>
  (f175 v_3).bind fun o5 =>
  (jn (QN (fun (y : Bool) => [(0, .v (ssl eRelation relations)), (5, .v (ssl eRelation relations)), (6, .v (iT (relations.length : Int))), (7, .v (iT x_1)), (29, .v (.bool y))])) ((if ¬ (o5 = true) then
  some true
  else
  (jn (QN (fun (y : Bool) => [(0, .v (ssl eRelation relations)), (5, .v (ssl eRelation relations)), (6, .v (iT (relations.length : Int))), (7, .v (iT x_1)), (29, .v (.bool y))])) ((if x_1 > 0 then
  (ix relations (w64 (x_1 - 1))).bind fun v_13 =>
  some (!(Op.bytesLess v_13.Name v_3.Name))
  else
  some false) : Option (Bool))).bind fun x_10 =>
  some x_10) : Option (Bool))).bind fun x_7 =>
  if x_7 = true then
  some (.inr (.inr false))
  else
  some (.inl (w64 (x_1 + 1)))
  else
  some (.inr (.inl ())) : Int -> Option (Int ⊕ (Unit ⊕ Bool)))) (by exact go)
instance i134 : Rn cx (f134 relations) 134 [(ssl eRelation relations)] (fun (r : Bool) => (.bool r)) (fun r => []) := Rn.o rfl (by unfold f134; exact go)
instance : Io0 cx 134 := ⟨rfl⟩
instance i93_0 : Lp cx (f93_0 indices n1) 33 L93_0 (fun (zs : Int) => [(0, .v (ssl eI indices)), (1, .v (iT n1)), (7, .v (ssl eI indices)), (8, .v (iT (indices.length : Int))), (9, .v (iT zs))]) (QO (QX 0 (fun (y : Unit) => [])) (QR (fun (y : Bool) => [(4, .v (.bool y))]))) := Lp.of (f := (fun
 | x_1 =>
  if x_1 < (indices.length : Int) then
  (ix indices x_1).bind fun v_3 =>
  (f121 v_3 0 (w64 (n1 - 1))).bind fun o5 =>
  (jn (QN (fun (y : Bool) => [(0, .v (ssl eI indices)), (1, .v (iT n1)), (7, .v (ssl eI indices)), (8, .v (iT (indices.length : Int))), (9, .v (iT x_1)), (31, .v (.bool y))])) ((if ¬ (o5 = true) then
  some true
  else
  (jn (QN (fun (y : Bool) => [(0, .v (ssl eI indices)), (1, .v (iT n1)), (7, .v (ssl eI indices)), (8, .v (iT (indices.length : Int))), (9, .v (iT x_1)), (31, .v (.bool y))])) ((if x_1 > 0 then
  (ix indices (w64 (x_1 - 1))).bind fun v_13 =>
  some (decide (v_13 >= v_3))
  else
  some false) : Option (Bool))).bind fun x_10 =>
  some x_10) : Option (Bool))).bind fun x_7 =>
  if x_7 = true then
  some (.inr (.inr false))
  else
  some (.inl (w64 (x_1 + 1)))
  else
  some (.inr (.inl ())) : Int -> Option (Int ⊕ (Unit ⊕ Bool)))) (by exact go)
instance i93 : Rn cx (f93 indices n1) 93 [(ssl eI indices), (iT n1)] (fun (r : Bool) => (.bool r)) (fun r => []) := Rn.o rfl (by unfold f93; exact go)
instance : Io0 cx 93 := ⟨rfl⟩
instance i206_0 {s0 : (List Atom)} {g_f : Nat} {cp_f : List T} {f : Atom -> Option Bool} [hp_f : ∀ x0, Rn cx (f x0) g_f ((.agg [(iT x0.Relation), (ssl eI x0.Terms)]) :: cp_f) (fun o => (.bool o)) (fun _ => [])] [Io0 cx g_f] : Lp cx (f206_0 s0 f) 19 L206_0 (fun (zs : Int) => [(0, .v (ssl eAtom s0)), (1, .v (.fn g_f cp_f)), (7, .v (iT (s0.length : Int))), (8, .v (iT zs))]) (QO (QX 0 (fun (y : Unit) => [])) (QR (fun (y : Int) => [(4, .v (iT y))]))) := Lp.of (by unfold f206_0; exact go)
instance i206 {s0 : (List Atom)} {g_f : Nat} {cp_f : List T} {f : Atom -> Option Bool} [hp_f : ∀ x0, Rn cx (f x0) g_f ((.agg [(iT x0.Relation), (ssl eI x0.Terms)]) :: cp_f) (fun o => (.bool o)) (fun _ => [])] [Io0 cx g_f] : Rn cx (f206 s0 f) 206 [(ssl eAtom s0), (.fn g_f cp_f)] (fun (r : Int) => (iT r)) (fun r => []) := Rn.o rfl (by unfold f206; exact go)
instance : Io0 cx 206 := ⟨rfl⟩
instance i165 {s0 : (List Atom)} {g_f : Nat} {cp_f : List T} {f : Atom -> Option Bool} [hp_f : ∀ x0, Rn cx (f x0) g_f ((.agg [(iT x0.Relation), (ssl eI x0.Terms)]) :: cp_f) (fun o => (.bool o)) (fun _ => [])] [Io0 cx g_f] : Rn cx (f165 s0 f) 165 [(ssl eAtom s0), (.fn g_f cp_f)] (fun (r : Bool) => (.bool r)) (fun r => []) := Rn.o rfl (by unfold f165; exact go)
instance : Io0 cx 165 := ⟨rfl⟩
instance i166 {own : Atom} {c : Atom} : Rn cx (f166 own c) 166 [(.agg [(iT own.Relation), (ssl eI own.Terms)]), (.ptr false [(iT c.Relation), (ssl eI c.Terms)])] (fun (r : Bool) => (.bool r)) (fun r => []) := Rn.o rfl (by unfold f166; exact go)
instance : Io0 cx 166 := ⟨rfl⟩
theorem r169 {n : Int} {r : Nat} (h : f169 n = some r) : VJx cx (.ca 169 [.nils, .int .i64 n] (.sl true true 1 r []) []) := by
 exact ca_grow (zs := [.int .i64 (0)]) (zt := [(iT 0)]) rfl rfl rfl rfl (by decide) (by decide) h
instance i169 {n : Int} : Rn cx (f169 n) 169 [.nils, .int .i64 n] (fun r => .sl true true 1 r []) (fun _ => []) := ⟨fun _ h => r169 h⟩
instance i122_0 : Lp cx (f122_0 slices) 36 L122_0 (fun (zs : Int × Int) => [(0, .v (ssl (eL eI) slices)), (3, .v (iT zs.1)), (9, .v (ssl (eL eI) slices)), (10, .v (iT (slices.length : Int))), (11, .v (iT zs.2))]) (QX 0 (fun (y : Int) => [(0, .v (ssl (eL eI) slices)), (3, .v (iT y))])) := Lp.of (f := (fun
 | (size_1, x_2) =>
  if x_2 < (slices.length : Int) then
  (ix slices x_2).bind fun v_4 =>
  (jn (QN (fun (y : Unit) => [(0, .v (ssl (eL eI) slices)), (3, .v (iT (w64 (size_1 + (v_4.length : Int))))), (9, .v (ssl (eL eI) slices)), (10, .v (iT (slices.length : Int))), (11, .v (iT x_2))])) ((if (w64 (size_1 + (v_4.length : Int))) < 0 then
  none
  else
  some ()) : Option Unit)).bind fun _ =>
  some (.inl (w64 (size_1 + (v_4.length : Int)), w64 (x_2 + 1)))
  else
  some (.inr size_1) : Int × Int -> Option ((Int × Int) ⊕ Int))) (by exact go)
instance i122_1 : Lp cx (f122_1 slices) 36 L122_1 (fun (zs : Nat × (List Int) × Int) => [(6, .v (.sl true true 1 zs.1 (arr eI true zs.2.1))), (25, .v (ssl (eL eI) slices)), (26, .v (iT (slices.length : Int))), (27, .v (iT zs.2.2))]) (QX 2 (fun (y : Nat × (List Int)) => [(6, .v (.sl true true 1 y.1 (arr eI true y.2)))])) := Lp.of (by unfold f122_1; exact go)
instance i122 : Rn cx (f122 slices) 122 [(ssl (eL eI) slices)] (fun (r : (List Int)) => (osl eI true r)) (fun r => []) := Rn.o rfl (by unfold f122; exact go)
instance : Io0 cx 122 := ⟨rfl⟩
theorem r123 {l : List Int} {r : List Int} (h : f123 l = some r) : VJx cx (.ca 123 [osl eI true l] (.tup []) [osl eI true r]) := by
 exact ca_sort (X := X0) (fun _ _ _ _ _ h => .inl h) (fun _ _ _ _ h => h) rfl h
instance i123 {l : List Int} : Rn cx (f123 l) 123 [osl eI true l] (fun _ => .tup []) (fun r => [osl eI true r]) := ⟨fun _ h => r123 h⟩
theorem r124 {l : List Int} {r : List Int} (h : f124 l = some r) : VJx cx (.ca 124 [osl eI true l] (osl eI true r) [.und]) := by
 exact ca_comp (X := X0) (fun _ _ _ _ _ h => .inr (h)) (fun _ _ _ _ h => h) rfl h
instance i124 {l : List Int} : Rn cx (f124 l) 124 [osl eI true l] (fun r => osl eI true r) (fun _ => [.und]) := ⟨fun _ h => r124 h⟩
instance i57 : Rn cx (f57 a b) 57 [(ssl eI a), (ssl eI b)] (fun (r : (List Int)) => (osl eI true r)) (fun r => []) := Rn.o (e := (
  sn 4 8 (osl (eL eI) false ([a, b])) <| 
  (f122 ([a, b])).bind fun o1 =>
  (f123 o1).bind fun o3 =>
  (f124 o3).bind fun o5 =>
  some o5 : Option (List Int))) rfl (by exact go)
instance : Io0 cx 57 := ⟨rfl⟩
instance i55_0 : Lp cx (f55_0 atom) 23 L55_0 (fun (zs : (List Int) × Int) => [(1, .v (.ptr true [(iT atom.Relation), (ssl eI atom.Terms)])), (3, .v (osl eI true zs.1)), (8, .v (ssl eI atom.Terms)), (9, .v (iT (atom.Terms.length : Int))), (10, .v (iT zs.2))]) (QX 0 (fun (y : (List Int)) => [(3, .v (osl eI true y))])) := Lp.of (f := (fun
 | (out_1, x_2) =>
  if x_2 < (atom.Terms.length : Int) then
  (ix atom.Terms x_2).bind fun v_4 =>
  (f121 v_4 0 3).bind fun o6 =>
  (jn (QN (fun (y : (List Int)) => [(1, .v (.ptr true [(iT atom.Relation), (ssl eI atom.Terms)])), (3, .v (osl eI true y)), (8, .v (ssl eI atom.Terms)), (9, .v (iT (atom.Terms.length : Int))), (10, .v (iT x_2))])) ((if o6 = true then
  (app 8 out_1 ([v_4])).bind fun l_11 =>
  some l_11
  else
  some out_1) : Option (List Int))).bind fun out_13 =>
  some (.inl (out_13, w64 (x_2 + 1)))
  else
  some (.inr out_1) : (List Int) × Int -> Option (((List Int) × Int) ⊕ (List Int)))) (by exact go)
instance i55 : Rn cx (f55 atom) 55 [(.agg [(iT atom.Relation), (ssl eI atom.Terms)])] (fun (r : (List Int)) => (osl eI true r)) (fun r => []) := Rn.o (e := (
  sn 4 3 (osl eI true ([])) <| 
  (iter (f55_0 atom) ([], 0)).bind fun out_16 =>
  (f57 out_16 ([] : (List Int))).bind fun o17 =>
  some o17 : Option (List Int))) rfl (by exact go)
instance : Io0 cx 55 := ⟨rfl⟩
instance i115_1 {occurring_19 : (List Int)} {x_20 : Int} {v_22 : Atom} : Lp cx (lw (relations, occurring_19, x_20) (f115_1 query v_22)) 94 L115_1 (fun (zs : Int) => [(0, .v (ssl eRelation relations)), (3, .v (.ptr true [(iT query.VariableCount), (ssl eAtom query.Atoms), (ssl eI query.Free)])), (5, .v (osl eI true occurring_19)), (7, .v (.ptr true [(iT v_22.Relation), (ssl eI v_22.Terms)])), (36, .v (ssl eAtom query.Atoms)), (37, .v (iT (query.Atoms.length : Int))), (38, .v (iT x_20)), (71, .v (ssl eI v_22.Terms)), (72, .v (iT (v_22.Terms.length : Int))), (73, .v (iT zs))]) (QO (QX 2 (fun (y : Unit) => [(0, .v (ssl eRelation relations)), (3, .v (.ptr true [(iT query.VariableCount), (ssl eAtom query.Atoms), (ssl eI query.Free)])), (5, .v (osl eI true occurring_19)), (7, .v (.ptr true [(iT v_22.Relation), (ssl eI v_22.Terms)])), (36, .v (ssl eAtom query.Atoms)), (37, .v (iT (query.Atoms.length : Int))), (38, .v (iT x_20))])) (QR (fun (y : Bool) => [(4, .v (.bool y))]))) := Lp.of (by unfold lw f115_1; exact go)
instance i115_0 : Lp cx (f115_0 relations query) 94 L115_0 (fun (zs : (List Int) × Int) => [(0, .v (ssl eRelation relations)), (3, .v (.ptr true [(iT query.VariableCount), (ssl eAtom query.Atoms), (ssl eI query.Free)])), (5, .v (osl eI true zs.1)), (36, .v (ssl eAtom query.Atoms)), (37, .v (iT (query.Atoms.length : Int))), (38, .v (iT zs.2))]) (QO (QX 0 (fun (y : (List Int)) => [(3, .v (.ptr true [(iT query.VariableCount), (ssl eAtom query.Atoms), (ssl eI query.Free)])), (5, .v (osl eI true y))])) (QR (fun (y : Bool) => [(4, .v (.bool y))]))) := Lp.of (f := (fun
 | (occurring_19, x_20) =>
  if x_20 < (query.Atoms.length : Int) then
  (ix query.Atoms x_20).bind fun v_22 =>
  (f121 v_22.Relation 0 (w64 ((relations.length : Int) - 1))).bind fun o24 =>
  (jn (QN (fun (y : Bool) => [(0, .v (ssl eRelation relations)), (3, .v (.ptr true [(iT query.VariableCount), (ssl eAtom query.Atoms), (ssl eI query.Free)])), (5, .v (osl eI true occurring_19)), (7, .v (.ptr true [(iT v_22.Relation), (ssl eI v_22.Terms)])), (36, .v (ssl eAtom query.Atoms)), (37, .v (iT (query.Atoms.length : Int))), (38, .v (iT x_20)), (69, .v (.bool y))])) ((if ¬ (o24 = true) then
  some true
  else
  (ix relations v_22.Relation).bind fun v_29 =>
  (jn (QN (fun (y : Bool) => [(0, .v (ssl eRelation relations)), (3, .v (.ptr true [(iT query.VariableCount), (ssl eAtom query.Atoms), (ssl eI query.Free)])), (5, .v (osl eI true occurring_19)), (7, .v (.ptr true [(iT v_22.Relation), (ssl eI v_22.Terms)])), (36, .v (ssl eAtom query.Atoms)), (37, .v (iT (query.Atoms.length : Int))), (38, .v (iT x_20)), (69, .v (.bool y))])) ((if (v_22.Terms.length : Int) ≠ v_29.Arity then
  some true
  else
  (cutL query.Atoms 0 x_20).bind fun l_34 =>
  (f165 l_34 (fun x0 => f166 x0 v_22)).bind fun o36 =>
  some o36) : Option (Bool))).bind fun x_31 =>
  some x_31) : Option (Bool))).bind fun x_26 =>
  if x_26 = true then
  some (.inr (.inr false))
  else
  (iter (lw (relations, occurring_19, x_20)  (f115_1 query v_22)) 0).bind fun o => match o with
  | .inl _ =>
  (f55 v_22).bind fun o49 =>
  (f57 occurring_19 o49).bind fun o51 =>
  some (.inl (o51, w64 (x_20 + 1)))
  | .inr x_48 =>
  some (.inr (.inr x_48))
  else
  some (.inr (.inl occurring_19)) : (List Int) × Int -> Option (((List Int) × Int) ⊕ ((List Int) ⊕ Bool)))) (by exact go)
instance i115 : Rn cx (f115 relations query) 115 [(ssl eRelation relations), (.agg [(iT query.VariableCount), (ssl eAtom query.Atoms), (ssl eI query.Free)])] (fun (r : Bool) => (.bool r)) (fun r => []) := Rn.o (e := (
  (f134 relations).bind fun o1 =>
  (jn (QN (fun (y : Bool) => [(0, .v (ssl eRelation relations)), (3, .v (.ptr true [(iT query.VariableCount), (ssl eAtom query.Atoms), (ssl eI query.Free)])), (33, .v (.bool y))])) ((if ¬ (o1 = true) then
  some true
  else
  (f121 query.VariableCount 0 4).bind fun o6 =>
  (jn (QN (fun (y : Bool) => [(0, .v (ssl eRelation relations)), (3, .v (.ptr true [(iT query.VariableCount), (ssl eAtom query.Atoms), (ssl eI query.Free)])), (33, .v (.bool y))])) ((if ¬ (o6 = true) then
  some true
  else
  (f121 (query.Atoms.length : Int) 1 3).bind fun o11 =>
  (jn (QN (fun (y : Bool) => [(0, .v (ssl eRelation relations)), (3, .v (.ptr true [(iT query.VariableCount), (ssl eAtom query.Atoms), (ssl eI query.Free)])), (33, .v (.bool y))])) ((if ¬ (o11 = true) then
  some true
  else
  (f93 query.Free query.VariableCount).bind fun o16 =>
  some (decide (¬ (o16 = true)))) : Option (Bool))).bind fun x_13 =>
  some x_13) : Option (Bool))).bind fun x_8 =>
  some x_8) : Option (Bool))).bind fun x_3 =>
  if x_3 = true then
  some false
  else
  sn 2 5 (osl eI true ([])) <| 
  (iter (f115_0 relations query) ([], 0)).bind fun o => match o with
  | .inl occurring_55 =>
  some (decide ((occurring_55.length : Int) = query.VariableCount))
  | .inr x_56 =>
  some x_56 : Option Bool)) rfl (by exact go)
instance : Io0 cx 115 := ⟨rfl⟩
instance i54 : Rn cx (f54 relations atom) 54 [(ssl eRelation relations), (.agg [(iT atom.Relation), (ssl eI atom.Terms)])] (fun (r : (List Int)) => (osl eI true r)) (fun r => []) := Rn.o (e := (
  (f121 atom.Relation 0 (w64 ((relations.length : Int) - 1))).bind fun o1 =>
  (jn (QN (fun (y : Bool) => [(0, .v (ssl eRelation relations)), (3, .v (.ptr true [(iT atom.Relation), (ssl eI atom.Terms)])), (24, .v (.bool y))])) ((if ¬ (o1 = true) then
  some true
  else
  (ix relations atom.Relation).bind fun v_6 =>
  (f121 v_6.KeyLength 0 (atom.Terms.length : Int)).bind fun o8 =>
  some (decide (¬ (o8 = true)))) : Option (Bool))).bind fun x_3 =>
  if x_3 = true then
  sn 1 4 (osl eI true ([])) <| 
  some ([])
  else
  (ix relations atom.Relation).bind fun v_11 =>
  (cutL atom.Terms 0 v_11.KeyLength).bind fun l_13 =>
  (f55 ({ Relation := 0, Terms := l_13 } : Atom)).bind fun o15 =>
  some o15 : Option (List Int))) rfl (by exact go)
instance : Io0 cx 54 := ⟨rfl⟩
instance i95_0 {s0 : (List Int)} {g_f : Nat} {cp_f : List T} {f : Int -> Option Bool} [hp_f : ∀ x0, Rn cx (f x0) g_f ((iT x0) :: cp_f) (fun o => (.bool o)) (fun _ => [])] [Io0 cx g_f] : Lp cx (f95_0 s0 f) 19 L95_0 (fun (zs : Int) => [(0, .v (ssl eI s0)), (1, .v (.fn g_f cp_f)), (7, .v (iT (s0.length : Int))), (8, .v (iT zs))]) (QO (QX 0 (fun (y : Unit) => [])) (QR (fun (y : Int) => [(4, .v (iT y))]))) := Lp.of (by unfold f95_0; exact go)
instance i95 {s0 : (List Int)} {g_f : Nat} {cp_f : List T} {f : Int -> Option Bool} [hp_f : ∀ x0, Rn cx (f x0) g_f ((iT x0) :: cp_f) (fun o => (.bool o)) (fun _ => [])] [Io0 cx g_f] : Rn cx (f95 s0 f) 95 [(ssl eI s0), (.fn g_f cp_f)] (fun (r : Int) => (iT r)) (fun r => []) := Rn.o rfl (by unfold f95; exact go)
instance : Io0 cx 95 := ⟨rfl⟩
instance i179 {s0 : (List Int)} {g_f : Nat} {cp_f : List T} {f : Int -> Option Bool} [hp_f : ∀ x0, Rn cx (f x0) g_f ((iT x0) :: cp_f) (fun o => (.bool o)) (fun _ => [])] [Io0 cx g_f] : Rn cx (f179 s0 f) 179 [(ssl eI s0), (.fn g_f cp_f)] (fun (r : Bool) => (.bool r)) (fun r => []) := Rn.o rfl (by unfold f179; exact go)
instance : Io0 cx 179 := ⟨rfl⟩
instance i156_0 : Lp cx (f156_0 s0 v) 19 L156_0 (fun (zs : Int) => [(0, .v (ssl eI s0)), (1, .v (iT v)), (7, .v (iT (s0.length : Int))), (8, .v (iT zs))]) (QO (QX 0 (fun (y : Unit) => [])) (QR (fun (y : Int) => [(4, .v (iT y))]))) := Lp.of (by unfold f156_0; exact go)
instance i156 : Rn cx (f156 s0 v) 156 [(ssl eI s0), (iT v)] (fun (r : Int) => (iT r)) (fun r => []) := Rn.o rfl (by unfold f156; exact go)
instance : Io0 cx 156 := ⟨rfl⟩
instance i97 : Rn cx (f97 s0 v) 97 [(ssl eI s0), (iT v)] (fun (r : Bool) => (.bool r)) (fun r => []) := Rn.o rfl (by unfold f97; exact go)
instance : Io0 cx 97 := ⟨rfl⟩
instance i222 {c : (List Int)} : Rn cx (f222 n0 c) 222 [(iT n0), (.ptr false [(ssl eI c)])] (fun (r : Bool) => (.bool r)) (fun r => []) := Rn.o rfl (by unfold f222; exact go)
instance : Io0 cx 222 := ⟨rfl⟩
instance i181 : Rn cx (f181 a b) 181 [(ssl eI a), (ssl eI b)] (fun (r : Bool) => (.bool r)) (fun r => []) := Rn.o rfl (by unfold f181; exact go)
instance : Io0 cx 181 := ⟨rfl⟩
instance i208_1 {out_3 : (List Int)} : Lp cx (lw out_3 (f208_1 relations atoms skip)) 45 L208_1 (fun (zs : (List Int) × Int) => [(0, .v (ssl eRelation relations)), (1, .v (ssl eAtom atoms)), (2, .v (iT skip)), (9, .v (ssl eI out_3)), (10, .v (ssl eI zs.1)), (16, .v (ssl eAtom atoms)), (17, .v (iT (atoms.length : Int))), (18, .v (iT zs.2))]) (QX 2 (fun (y : (List Int)) => [(0, .v (ssl eRelation relations)), (1, .v (ssl eAtom atoms)), (2, .v (iT skip)), (9, .v (ssl eI out_3)), (10, .v (ssl eI y))])) := Lp.of (f := (fun
 | (larger_4, x_5) =>
  if x_5 < (atoms.length : Int) then
  (ix atoms x_5).bind fun v_7 =>
  (jn (QN (fun (y : Bool) => [(0, .v (ssl eRelation relations)), (1, .v (ssl eAtom atoms)), (2, .v (iT skip)), (9, .v (ssl eI out_3)), (10, .v (ssl eI larger_4)), (12, .v (.ptr true [(iT v_7.Relation), (ssl eI v_7.Terms)])), (16, .v (ssl eAtom atoms)), (17, .v (iT (atoms.length : Int))), (18, .v (iT x_5)), (32, .v (.bool y))])) ((if x_5 ≠ skip then
  (f54 relations v_7).bind fun o12 =>
  (f181 o12 larger_4).bind fun o14 =>
  some o14
  else
  some false) : Option (Bool))).bind fun x_9 =>
  (jn (QN (fun (y : (List Int)) => [(0, .v (ssl eRelation relations)), (1, .v (ssl eAtom atoms)), (2, .v (iT skip)), (9, .v (ssl eI out_3)), (10, .v (ssl eI y)), (16, .v (ssl eAtom atoms)), (17, .v (iT (atoms.length : Int))), (18, .v (iT x_5))])) ((if x_9 = true then
  (f55 v_7).bind fun o19 =>
  (f57 larger_4 o19).bind fun o21 =>
  sn 1 10 (ssl eI o21) <| 
  some o21
  else
  some larger_4) : Option (List Int))).bind fun larger_23 =>
  some (.inl (larger_23, w64 (x_5 + 1)))
  else
  some (.inr larger_4) : (List Int) × Int -> Option (((List Int) × Int) ⊕ (List Int)))) (by exact go)
instance i208_0 : Lp cx (f208_0 relations atoms skip) 45 L208_0 (fun (zs : (List Int)) => [(0, .v (ssl eRelation relations)), (1, .v (ssl eAtom atoms)), (2, .v (iT skip)), (9, .v (ssl eI zs))]) (QR (fun (y : (List Int)) => [(8, .v (ssl eI y))])) := Lp.of (f := (fun
 | out_3 =>
  (iter (lw out_3  (f208_1 relations atoms skip)) (out_3, 0)).bind fun larger_26 =>
  if (larger_26.length : Int) = (out_3.length : Int) then
  some (.inr out_3)
  else
  some (.inl larger_26) : (List Int) -> Option ((List Int) ⊕ (List Int)))) (by exact go)
instance i208 : Rn cx (f208 relations atoms skip variables) 208 [(ssl eRelation relations), (ssl eAtom atoms), (iT skip), (ssl eI variables)] (fun (r : (List Int)) => (ssl eI r)) (fun r => []) := Rn.o (e := (
  (f57 variables ([] : (List Int))).bind fun o1 =>
  sn 1 9 (ssl eI o1) <| 
  (iter (f208_0 relations atoms skip) o1).bind fun x_30 =>
  some x_30 : Option (List Int))) rfl (by exact go)
instance : Io0 cx 208 := ⟨rfl⟩
instance i56_0 : Lp cx (f56_0 a b) 25 L56_0 (fun (zs : (List Int) × Int) => [(1, .v (ssl eI b)), (5, .v (osl eI true zs.1)), (9, .v (ssl eI a)), (10, .v (iT (a.length : Int))), (11, .v (iT zs.2))]) (QX 0 (fun (y : (List Int)) => [(5, .v (osl eI true y))])) := Lp.of (f := (fun
 | (out_1, x_2) =>
  if x_2 < (a.length : Int) then
  (ix a x_2).bind fun v_4 =>
  (f97 b v_4).bind fun o6 =>
  (jn (QN (fun (y : (List Int)) => [(1, .v (ssl eI b)), (5, .v (osl eI true y)), (9, .v (ssl eI a)), (10, .v (iT (a.length : Int))), (11, .v (iT x_2))])) ((if ¬ (o6 = true) then
  (app 8 out_1 ([v_4])).bind fun l_11 =>
  some l_11
  else
  some out_1) : Option (List Int))).bind fun out_13 =>
  some (.inl (out_13, w64 (x_2 + 1)))
  else
  some (.inr out_1) : (List Int) × Int -> Option (((List Int) × Int) ⊕ (List Int)))) (by exact go)
instance i56 : Rn cx (f56 a b) 56 [(ssl eI a), (ssl eI b)] (fun (r : (List Int)) => (osl eI true r)) (fun r => []) := Rn.o (e := (
  sn 3 5 (osl eI true ([])) <| 
  (iter (f56_0 a b) ([], 0)).bind fun out_16 =>
  some out_16 : Option (List Int))) rfl (by exact go)
instance : Io0 cx 56 := ⟨rfl⟩
instance i168_1 {out_13 : (List Int)} : Lp cx (lw (relations, out_13) (f168_1 atoms o7)) 64 L168_1 (fun (zs : (List Int) × Int) => [(0, .v (ssl eRelation relations)), (1, .v (ssl eAtom atoms)), (9, .v (ssl eI o7)), (10, .v (ssl eI out_13)), (11, .v (ssl eI zs.1)), (36, .v (ssl eAtom atoms)), (37, .v (iT (atoms.length : Int))), (38, .v (iT zs.2))]) (QX 2 (fun (y : (List Int)) => [(0, .v (ssl eRelation relations)), (1, .v (ssl eAtom atoms)), (9, .v (ssl eI o7)), (10, .v (ssl eI out_13)), (11, .v (ssl eI y))])) := Lp.of (f := (fun
 | (larger_14, x_15) =>
  if x_15 < (atoms.length : Int) then
  (ix atoms x_15).bind fun v_17 =>
  (f55 v_17).bind fun o19 =>
  (f56 o19 o7).bind fun o21 =>
  (f56 o21 larger_14).bind fun o23 =>
  (jn (QN (fun (y : (List Int)) => [(0, .v (ssl eRelation relations)), (1, .v (ssl eAtom atoms)), (9, .v (ssl eI o7)), (10, .v (ssl eI out_13)), (11, .v (ssl eI y)), (36, .v (ssl eAtom atoms)), (37, .v (iT (atoms.length : Int))), (38, .v (iT x_15))])) ((if (o23.length : Int) < (o21.length : Int) then
  (f57 larger_14 o21).bind fun o28 =>
  sn 1 11 (ssl eI o28) <| 
  some o28
  else
  some larger_14) : Option (List Int))).bind fun larger_30 =>
  some (.inl (larger_30, w64 (x_15 + 1)))
  else
  some (.inr larger_14) : (List Int) × Int -> Option (((List Int) × Int) ⊕ (List Int)))) (by exact go)
instance i168_0 : Lp cx (lw relations (f168_0 atoms o7)) 64 L168_0 (fun (zs : (List Int)) => [(0, .v (ssl eRelation relations)), (1, .v (ssl eAtom atoms)), (9, .v (ssl eI o7)), (10, .v (ssl eI zs))]) (QR (fun (y : (List Int)) => [(0, .v (ssl eRelation relations)), (8, .v (ssl eI y))])) := Lp.of (f := (fun
 | out_13 =>
  (iter (lw (relations, out_13)  (f168_1 atoms o7)) (out_13, 0)).bind fun larger_33 =>
  if (larger_33.length : Int) = (out_13.length : Int) then
  some (.inr out_13)
  else
  some (.inl larger_33) : (List Int) -> Option ((List Int) ⊕ (List Int)))) (by exact go)
instance i168 {atom : Int} : Rn cx (f168 relations atoms free atom) 168 [(ssl eRelation relations), (ssl eAtom atoms), (ssl eI free), (iT atom)] (fun (r : (List Int)) => (ssl eI r)) (fun r => []) := Rn.o (e := (
  (ix atoms atom).bind fun v_1 =>
  (f54 relations v_1).bind fun o3 =>
  sn 0 24 (ssl eI o3) <| 
  sn 1 25 (osl (eL eI) false ([free, o3])) <| 
  (f122 ([free, o3])).bind fun o5 =>
  sn 0 26 (ssl eI o5) <| 
  (f208 relations atoms atom o5).bind fun o7 =>
  (f55 v_1).bind fun o9 =>
  (f56 o9 o7).bind fun o11 =>
  sn 1 10 (ssl eI o11) <| 
  (iter (lw relations  (f168_0 atoms o7)) o11).bind fun x_37 =>
  some x_37 : Option (List Int))) rfl (by exact go)
instance : Io0 cx 168 := ⟨rfl⟩
instance i120 {from3 : Int} : Rn cx (f120 relations atoms free from3 to) 120 [(ssl eRelation relations), (ssl eAtom atoms), (ssl eI free), (iT from3), (iT to)] (fun (r : Bool) => (.bool r)) (fun r => []) := Rn.o (e := (
  (ix atoms to).bind fun v_1 =>
  (f55 v_1).bind fun o3 =>
  (jn (QN (fun (y : Bool) => [(10, .v (.bool y))])) ((if from3 ≠ to then
  (f168 relations atoms free from3).bind fun o8 =>
  (f56 o3 o8).bind fun o10 =>
  some (decide ((o10.length : Int) < (o3.length : Int)))
  else
  some false) : Option (Bool))).bind fun x_5 =>
  some x_5 : Option Bool)) rfl (by exact go)
instance : Io0 cx 120 := ⟨rfl⟩
instance i116 : Rn cx (f116 relations query from2 to) 116 [(ssl eRelation relations), (.agg [(iT query.VariableCount), (ssl eAtom query.Atoms), (ssl eI query.Free)]), (iT from2), (iT to)] (fun (r : Bool) => (.bool r)) (fun r => []) := Rn.o (e := (
  (f115 relations query).bind fun o1 =>
  (jn (QN (fun (y : Bool) => [(8, .v (.bool y))])) ((if o1 = true then
  (f121 from2 0 (w64 ((query.Atoms.length : Int) - 1))).bind fun o6 =>
  (jn (QN (fun (y : Bool) => [(8, .v (.bool y))])) ((if o6 = true then
  (f121 to 0 (w64 ((query.Atoms.length : Int) - 1))).bind fun o11 =>
  (jn (QN (fun (y : Bool) => [(8, .v (.bool y))])) ((if o11 = true then
  (f120 relations query.Atoms query.Free from2 to).bind fun o16 =>
  some o16
  else
  some false) : Option (Bool))).bind fun x_13 =>
  some x_13
  else
  some false) : Option (Bool))).bind fun x_8 =>
  some x_8
  else
  some false) : Option (Bool))).bind fun x_3 =>
  some x_3 : Option Bool)) rfl (by exact go)
instance : Io0 cx 116 := ⟨rfl⟩
theorem r192 {s0 : (List Int)} {r : (List Int)} (h : f192 s0 = some r) : VJx cx (.ca 192 [(ssl eI s0)] (osl eI true r) []) := by
 unfold f192 at h
 refine ca_clone (X := noExt) (fun _ _ _ _ h => h) (fun _ _ _ _ h => h) rfl (by decide) rfl (cl_eq h) ?_
 refine Wc.start (V1 := [(0, .v (ssl eI s0))]) (by simp) ?_
 refine Wc.seq ?_
 obtain ⟨l_1, h2, h⟩ := bind_some h
 have gx2 := appT_arr2 (E := eI) (b := true) (b' := false) (y := false) h2 (by decide) (arr_sc rfl _)
 simp [-aI_app0, -aB_app0, -aS_app0, -aL_app0, -aLt_app1I, -aLf_app1I, -aLt_app10I, -aLf_app10I] at gx2
 refine Wc.evs (by conv => lhs; simp [-aI_app0, -aB_app0, -aS_app0, -aL_app0, -aI_app10, -aB_app10, -aS_app10, -aLt_app10I, -aLf_app10I, -aLt_app1I, -aLf_app1I, gx2]) ?_
 refine Wo.gh (vle_co (s := 2) (t1 := (osl eI true l_1)) rfl (by simp) (tle_own rfl) (by conv => lhs; simp)) ?_
 refine Wo.nil ?_
 refine Wc.ret (res_of (.inr rfl) ?_)
 cases h
 exact ⟨_, _, _, by conv => lhs; simp, by (conv => lhs; simp [cx, ioTab, List.range, List.range.loop]) <;> rfl, by first | rfl | simp [-aI_app0, -aB_app0, -aS_app0, -aL_app0, -aI_app10, -aB_app10, -aS_app10, -aLt_app10I, -aLf_app10I, -aLt_app1I, -aLf_app1I, gx2]⟩
instance i192 : Rn cx (f192 s0) 192 [(ssl eI s0)] (fun (r : (List Int)) => (osl eI true r)) (fun r => []) := ⟨fun _ h => r192 h⟩
instance : Io0 cx 192 := ⟨rfl⟩
instance i207_0 : Lp cx (lw (relations, query, skip) (f207_0 variables)) 38 L207_0 (fun (zs : (List Int) × Int) => [(0, .v (ssl eRelation relations)), (2, .v (iT skip)), (5, .v (.ptr true [(iT query.VariableCount), (ssl eAtom query.Atoms), (ssl eI query.Free)])), (9, .v (osl eI true zs.1)), (19, .v (ssl eI variables)), (20, .v (iT (variables.length : Int))), (21, .v (iT zs.2))]) (QX 0 (fun (y : (List Int)) => [(0, .v (ssl eRelation relations)), (2, .v (iT skip)), (5, .v (.ptr true [(iT query.VariableCount), (ssl eAtom query.Atoms), (ssl eI query.Free)])), (9, .v (osl eI true y))])) := Lp.of (f := (fun
 | (given_6, x_7) =>
  if x_7 < (variables.length : Int) then
  (ix variables x_7).bind fun v_9 =>
  (f121 v_9 0 3).bind fun o11 =>
  (jn (QN (fun (y : (List Int)) => [(0, .v (ssl eRelation relations)), (2, .v (iT skip)), (5, .v (.ptr true [(iT query.VariableCount), (ssl eAtom query.Atoms), (ssl eI query.Free)])), (9, .v (osl eI true y)), (19, .v (ssl eI variables)), (20, .v (iT (variables.length : Int))), (21, .v (iT x_7))])) ((if o11 = true then
  (app 8 given_6 ([v_9])).bind fun l_16 =>
  some l_16
  else
  some given_6) : Option (List Int))).bind fun given_18 =>
  some (.inl (given_18, w64 (x_7 + 1)))
  else
  some (.inr given_6) : (List Int) × Int -> Option (((List Int) × Int) ⊕ (List Int)))) (by exact go)
instance i207 : Rn cx (f207 relations query skip variables) 207 [(ssl eRelation relations), (.agg [(iT query.VariableCount), (ssl eAtom query.Atoms), (ssl eI query.Free)]), (iT skip), (ssl eI variables)] (fun (r : (List Int)) => (ssl eI r)) (fun r => []) := Rn.o (e := (
  (f115 relations query).bind fun o1 =>
  if ¬ (o1 = true) then
  sn 1 8 (osl eI true ([])) <| 
  some ([])
  else
  (f192 query.Free).bind fun o4 =>
  (iter (lw (relations, query, skip)  (f207_0 variables)) (o4, 0)).bind fun given_21 =>
  sn 5 36 (ssl eI given_21) <| 
  (f208 relations query.Atoms skip given_21).bind fun o22 =>
  some o22 : Option (List Int))) rfl (by exact go)
instance : Io0 cx 207 := ⟨rfl⟩
instance i167 {from2 : (List Int)} {to : (List Int)} : Rn cx (f167 relations query from2 to) 167 [(ssl eRelation relations), (.agg [(iT query.VariableCount), (ssl eAtom query.Atoms), (ssl eI query.Free)]), (ssl eI from2), (ssl eI to)] (fun (r : Bool) => (.bool r)) (fun r => []) := Rn.o (e := (
  (f115 relations query).bind fun o1 =>
  (jn (QN (fun (y : Bool) => [(8, .v (.bool y))])) ((if o1 = true then
  (f207 relations query (-1) from2).bind fun o6 =>
  (f181 to o6).bind fun o8 =>
  some o8
  else
  some false) : Option (Bool))).bind fun x_3 =>
  some x_3 : Option Bool)) rfl (by exact go)
instance : Io0 cx 167 := ⟨rfl⟩
instance i117 : Rn cx (f117 relations query from2 to) 117 [(ssl eRelation relations), (.agg [(iT query.VariableCount), (ssl eAtom query.Atoms), (ssl eI query.Free)]), (iT from2), (iT to)] (fun (r : Bool) => (.bool r)) (fun r => []) := Rn.o (e := (
  (f116 relations query from2 to).bind fun o1 =>
  (jn (QN (fun (y : Bool) => [(0, .v (ssl eRelation relations)), (8, .v (.bool y))])) ((if o1 = true then
  (ix query.Atoms from2).bind fun v_6 =>
  (ix query.Atoms to).bind fun v_8 =>
  (f54 relations v_6).bind fun o10 =>
  (f54 relations v_8).bind fun o12 =>
  (f167 relations query o10 o12).bind fun o14 =>
  some o14
  else
  some false) : Option (Bool))).bind fun x_3 =>
  some x_3 : Option Bool)) rfl (by exact go)
instance : Io0 cx 117 := ⟨rfl⟩
end
end Go.Proofs.YtjfeimhiiomgoaaGreatH
