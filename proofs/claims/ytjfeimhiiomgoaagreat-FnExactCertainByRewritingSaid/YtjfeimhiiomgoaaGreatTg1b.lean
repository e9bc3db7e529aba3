import Derived.Test.YtjfeimhiiomgoaaGreatTg1a
set_option maxHeartbeats 2000000
set_option linter.unusedVariables false
set_option linter.unusedSimpArgs false
set_option linter.defProp false
set_option linter.unusedSectionVars false
set_option maxRecDepth 100000
namespace Go.Proofs.YtjfeimhiiomgoaaGreatH
open Go
noncomputable section
variable {slices : (List (List Int))} {atoms : (List Atom)} {a b free from2 indices not o19 o7 o9 plus_38 s0 s1 s2 terms vals values variables want : (List Int)} {l relations : (List Relation)} {rewriting : (List RewritingStep)} {atom v_19 : Atom} {d db : Database} {f : Fact} {high i i_15 i_17 k left low n0 n1 n_12 n_17 n_40 skip t to v x y : Int} {q query : Query}
instance i109_2 {n_9 : Int} : Lp cx (lw (k, n_9) (f109_2 l q i)) 120 L109_2 (fun (zs : (List Int) × Int) => [(0, .v (ssl eRelation l)), (2, .v (iT i)), (3, .v (iT k)), (5, .v (.ptr true [(iT q.VariableCount), (ssl eAtom q.Atoms), (ssl eI q.Free)])), (9, .v (osl eI true zs.1)), (10, .v (iT n_9)), (11, .v (iT zs.2))]) (QX 2 (fun (y : (List Int)) => [(0, .v (ssl eRelation l)), (2, .v (iT i)), (3, .v (iT k)), (5, .v (.ptr true [(iT q.VariableCount), (ssl eAtom q.Atoms), (ssl eI q.Free)])), (9, .v (osl eI true y)), (10, .v (iT n_9))])) := Lp.of (f := (fun
 | (plus_11, j_12) =>
  if j_12 < (q.Atoms.length : Int) then
  (jn (QN (fun (y : Bool) => [(0, .v (ssl eRelation l)), (2, .v (iT i)), (3, .v (iT k)), (5, .v (.ptr true [(iT q.VariableCount), (ssl eAtom q.Atoms), (ssl eI q.Free)])), (9, .v (osl eI true plus_11)), (10, .v (iT n_9)), (11, .v (iT j_12)), (56, .v (.bool y))])) ((if j_12 ≠ i then
  (ix q.Atoms j_12).bind fun v_17 =>
  (f46 l v_17).bind fun o19 =>
  (f163 plus_11 o19).bind fun o21 =>
  some o21
  else
  some false) : Option (Bool))).bind fun x_14 =>
  (jn (QN (fun (y : (List Int)) => [(0, .v (ssl eRelation l)), (2, .v (iT i)), (3, .v (iT k)), (5, .v (.ptr true [(iT q.VariableCount), (ssl eAtom q.Atoms), (ssl eI q.Free)])), (9, .v (osl eI true y)), (10, .v (iT n_9)), (11, .v (iT j_12))])) ((if x_14 = true then
  (ix q.Atoms j_12).bind fun v_26 =>
  (f111 v_26).bind fun o28 =>
  (f113 plus_11 o28).bind fun o30 =>
  some o30
  else
  some plus_11) : Option (List Int))).bind fun plus_32 =>
  some (.inl (plus_32, w64 (j_12 + 1)))
  else
  some (.inr plus_11) : (List Int) × Int -> Option (((List Int) × Int) ⊕ (List Int)))) (by exact go)
instance i109_0 : Lp cx (lw k (f109_0 l q i)) 120 L109_0 (fun (zs : (List Int) × Int) => [(0, .v (ssl eRelation l)), (2, .v (iT i)), (3, .v (iT k)), (5, .v (.ptr true [(iT q.VariableCount), (ssl eAtom q.Atoms), (ssl eI q.Free)])), (9, .v (osl eI true zs.1)), (10, .v (iT zs.2))]) (QX 0 (fun (y : (List Int)) => [(2, .v (iT i)), (3, .v (iT k)), (5, .v (.ptr true [(iT q.VariableCount), (ssl eAtom q.Atoms), (ssl eI q.Free)])), (9, .v (osl eI true y))])) := Lp.of (f := (fun
 | (plus_8, n_9) =>
  if n_9 < (q.Atoms.length : Int) then
  (iter (lw (k, n_9)  (f109_2 l q i)) (plus_8, 0)).bind fun plus_35 =>
  some (.inl (plus_35, w64 (n_9 + 1)))
  else
  some (.inr plus_8) : (List Int) × Int -> Option (((List Int) × Int) ⊕ (List Int)))) (by exact go)
instance i109_4 {a_43 : Int} : Lp cx (lw (k, n_40) (f109_4 q plus_38 a_43)) 120 L109_4 (fun (zs : (List Int) × Int) => [(3, .v (iT k)), (5, .v (.ptr true [(iT q.VariableCount), (ssl eAtom q.Atoms), (ssl eI q.Free)])), (9, .v (osl eI true plus_38)), (12, .v (osl eI true zs.1)), (13, .v (iT n_40)), (14, .v (iT a_43)), (15, .v (iT zs.2))]) (QX 8 (fun (y : (List Int)) => [(3, .v (iT k)), (5, .v (.ptr true [(iT q.VariableCount), (ssl eAtom q.Atoms), (ssl eI q.Free)])), (9, .v (osl eI true plus_38)), (12, .v (osl eI true y)), (13, .v (iT n_40)), (14, .v (iT a_43))])) := Lp.of (f := (fun
 | (met_45, b_46) =>
  if b_46 < (q.Atoms.length : Int) then
  (f45 met_45 a_43).bind fun o48 =>
  (jn (QN (fun (y : Bool) => [(3, .v (iT k)), (5, .v (.ptr true [(iT q.VariableCount), (ssl eAtom q.Atoms), (ssl eI q.Free)])), (9, .v (osl eI true plus_38)), (12, .v (osl eI true met_45)), (13, .v (iT n_40)), (14, .v (iT a_43)), (15, .v (iT b_46)), (112, .v (.bool y))])) ((if o48 = true then
  (f45 met_45 b_46).bind fun o53 =>
  (jn (QN (fun (y : Bool) => [(3, .v (iT k)), (5, .v (.ptr true [(iT q.VariableCount), (ssl eAtom q.Atoms), (ssl eI q.Free)])), (9, .v (osl eI true plus_38)), (12, .v (osl eI true met_45)), (13, .v (iT n_40)), (14, .v (iT a_43)), (15, .v (iT b_46)), (112, .v (.bool y))])) ((if ¬ (o53 = true) then
  (ix q.Atoms a_43).bind fun v_58 =>
  (ix q.Atoms b_46).bind fun v_60 =>
  (f111 v_58).bind fun o62 =>
  (f111 v_60).bind fun o64 =>
  (f164 o62 o64 plus_38).bind fun o66 =>
  some o66
  else
  some false) : Option (Bool))).bind fun x_55 =>
  some x_55
  else
  some false) : Option (Bool))).bind fun x_50 =>
  (jn (QN (fun (y : (List Int)) => [(3, .v (iT k)), (5, .v (.ptr true [(iT q.VariableCount), (ssl eAtom q.Atoms), (ssl eI q.Free)])), (9, .v (osl eI true plus_38)), (12, .v (osl eI true y)), (13, .v (iT n_40)), (14, .v (iT a_43)), (15, .v (iT b_46))])) ((if x_50 = true then
  (app 8 met_45 ([b_46])).bind fun l_71 =>
  some l_71
  else
  some met_45) : Option (List Int))).bind fun met_73 =>
  some (.inl (met_73, w64 (b_46 + 1)))
  else
  some (.inr met_45) : (List Int) × Int -> Option (((List Int) × Int) ⊕ (List Int)))) (by exact go)
instance i109_3 : Lp cx (lw (k, n_40) (f109_3 q plus_38)) 120 L109_3 (fun (zs : (List Int) × Int) => [(3, .v (iT k)), (5, .v (.ptr true [(iT q.VariableCount), (ssl eAtom q.Atoms), (ssl eI q.Free)])), (9, .v (osl eI true plus_38)), (12, .v (osl eI true zs.1)), (13, .v (iT n_40)), (14, .v (iT zs.2))]) (QX 6 (fun (y : (List Int)) => [(3, .v (iT k)), (5, .v (.ptr true [(iT q.VariableCount), (ssl eAtom q.Atoms), (ssl eI q.Free)])), (9, .v (osl eI true plus_38)), (12, .v (osl eI true y)), (13, .v (iT n_40))])) := Lp.of (f := (fun
 | (met_42, a_43) =>
  if a_43 < (q.Atoms.length : Int) then
  (iter (lw (k, n_40)  (f109_4 q plus_38 a_43)) (met_42, 0)).bind fun met_76 =>
  some (.inl (met_76, w64 (a_43 + 1)))
  else
  some (.inr met_42) : (List Int) × Int -> Option (((List Int) × Int) ⊕ (List Int)))) (by exact go)
instance i109_1 : Lp cx (lw k (f109_1 q plus_38)) 120 L109_1 (fun (zs : (List Int) × Int) => [(3, .v (iT k)), (5, .v (.ptr true [(iT q.VariableCount), (ssl eAtom q.Atoms), (ssl eI q.Free)])), (9, .v (osl eI true plus_38)), (12, .v (osl eI true zs.1)), (13, .v (iT zs.2))]) (QX 4 (fun (y : (List Int)) => [(3, .v (iT k)), (12, .v (osl eI true y))])) := Lp.of (f := (fun
 | (met_39, n_40) =>
  if n_40 < (q.Atoms.length : Int) then
  (iter (lw (k, n_40)  (f109_3 q plus_38)) (met_39, 0)).bind fun met_79 =>
  some (.inl (met_79, w64 (n_40 + 1)))
  else
  some (.inr met_39) : (List Int) × Int -> Option (((List Int) × Int) ⊕ (List Int)))) (by exact go)
instance i109 : Rn cx (f109 l q i k) 109 [(ssl eRelation l), (.agg [(iT q.VariableCount), (ssl eAtom q.Atoms), (ssl eI q.Free)]), (iT i), (iT k)] (fun (r : Bool) => (.bool r)) (fun r => []) := Rn.o (e := (
  if i = k then
  some false
  else
  (ix q.Atoms i).bind fun v_2 =>
  (f46 l v_2).bind fun o4 =>
  (f113 q.Free o4).bind fun o6 =>
  (iter (lw k  (f109_0 l q i)) (o6, 0)).bind fun plus_38 =>
  sn 3 12 (osl eI true ([i])) <| 
  (iter (lw k  (f109_1 q plus_38)) ([i], 0)).bind fun met_82 =>
  (f45 met_82 k).bind fun o83 =>
  some o83 : Option Bool)) rfl (by exact go)
instance : Io0 cx 109 := ⟨rfl⟩
instance i44_1 {k_1 : Int} : Lp cx (f44_1 l q k_1) 33 L44_1 (fun (zs : Bool × Int) => [(0, .v (ssl eRelation l)), (3, .v (.ptr true [(iT q.VariableCount), (ssl eAtom q.Atoms), (ssl eI q.Free)])), (5, .v (iT k_1)), (6, .v (.bool zs.1)), (7, .v (iT zs.2))]) (QX 2 (fun (y : Bool) => [(0, .v (ssl eRelation l)), (3, .v (.ptr true [(iT q.VariableCount), (ssl eAtom q.Atoms), (ssl eI q.Free)])), (5, .v (iT k_1)), (6, .v (.bool y))])) := Lp.of (f := (fun
 | (is_3, i_4) =>
  if i_4 < (q.Atoms.length : Int) then
  (jn (QN (fun (y : Bool) => [(0, .v (ssl eRelation l)), (3, .v (.ptr true [(iT q.VariableCount), (ssl eAtom q.Atoms), (ssl eI q.Free)])), (5, .v (iT k_1)), (6, .v (.bool y)), (7, .v (iT i_4))])) ((if is_3 = true then
  some true
  else
  (f109 l q i_4 k_1).bind fun o9 =>
  some o9) : Option (Bool))).bind fun is_6 =>
  some (.inl (is_6, w64 (i_4 + 1)))
  else
  some (.inr is_3) : Bool × Int -> Option ((Bool × Int) ⊕ Bool))) (by exact go)
instance i44_0 : Lp cx (f44_0 l q) 33 L44_0 (fun (zs : Int) => [(0, .v (ssl eRelation l)), (3, .v (.ptr true [(iT q.VariableCount), (ssl eAtom q.Atoms), (ssl eI q.Free)])), (5, .v (iT zs))]) (QO (QX 0 (fun (y : Unit) => [])) (QR (fun (y : Int) => [(4, .v (iT y))]))) := Lp.of (by unfold f44_0; exact go)
instance i44 : Rn cx (f44 l q) 44 [(ssl eRelation l), (.agg [(iT q.VariableCount), (ssl eAtom q.Atoms), (ssl eI q.Free)])] (fun (r : Int) => (iT r)) (fun r => []) := Rn.o rfl (by unfold f44; exact go)
instance : Io0 cx 44 := ⟨rfl⟩
instance i112 : Rn cx (f112 q k) 112 [(.agg [(iT q.VariableCount), (ssl eAtom q.Atoms), (ssl eI q.Free)]), (iT k)] (fun (r : Query) => (.agg [(iT r.VariableCount), (osl eAtom false r.Atoms), (osl eI true r.Free)])) (fun r => []) := Rn.o (e := (
  sn 2 4 (.ptr true [(iT 0), (osl eAtom true ([])), (osl eI true ([]))]) <| 
  (f43 q).bind fun o1 =>
  (f110 k 0 (w64 ((q.Atoms.length : Int) - 1))).bind fun o3 =>
  (jn (QN (fun (y : Int × (List Atom) × (List Int)) => [(4, .v (.ptr true [(iT 0), (osl eAtom true ([])), (osl eI true ([]))])), (5, .v (.ptr true [(iT y.1), (osl eAtom false y.2.1), (osl eI true y.2.2)]))])) ((if o3 = true then
  sn 1 5 (.ptr true [(iT o1.VariableCount), (ssl eAtom o1.Atoms), (osl eI true o1.Free)]) <| 
  (cutL o1.Atoms 0 k).bind fun l_8 =>
  (cutL o1.Atoms (w64 (k + 1)) o1.Atoms.length).bind fun l_10 =>
  (app 32 ([]) l_8).bind fun l_12 =>
  (app 32 l_12 l_10).bind fun l_14 =>
  sn 12 25 (osl eAtom false l_14) <| 
  some (o1.VariableCount, l_14, o1.Free)
  else
  some (o1.VariableCount, o1.Atoms, o1.Free)) : Option (Int × (List Atom) × (List Int)))).bind fun (x_16, x_17, x_18) =>
  some ({ VariableCount := x_16, Atoms := x_17, Free := x_18 } : Query) : Option Query)) rfl (by exact go)
instance : Io0 cx 112 := ⟨rfl⟩
instance i47 : Rn cx (f47 q k) 47 [(.agg [(iT q.VariableCount), (ssl eAtom q.Atoms), (ssl eI q.Free)]), (iT k)] (fun (r : Query) => (.agg [(iT r.VariableCount), (osl eAtom false r.Atoms), (osl eI true r.Free)])) (fun r => []) := Rn.o (e := (
  sn 2 4 (.ptr true [(iT 0), (osl eAtom true ([])), (osl eI true ([]))]) <| 
  (f112 q k).bind fun o1 =>
  (ix q.Atoms k).bind fun v_3 =>
  (f111 v_3).bind fun o5 =>
  (f113 q.Free o5).bind fun o7 =>
  some ({ VariableCount := o1.VariableCount, Atoms := o1.Atoms, Free := o7 } : Query) : Option Query)) rfl (by exact go)
instance : Io0 cx 47 := ⟨rfl⟩
instance i8_1 {out_6 : (List RewritingStep)} {x_7 : Int} {x_8 : (List Atom)} {x_9 : (List Int)} {o11 : Int} {v_14 : Atom} : Lp cx (lw (out_6, x_7, x_8, o11) (f8_1 l x_9 v_14)) 83 L8_1 (fun (zs : Int × (List Int) × (List Int) × (List Int) × Int) => [(0, .v (ssl eRelation l)), (6, .v (osl eRewritingStep true out_6)), (7, .v (.ptr true [(iT x_7), (ssl eAtom x_8), (osl eI true x_9)])), (8, .v (iT o11)), (9, .v (.ptr true [(iT v_14.Relation), (ssl eI v_14.Terms)])), (10, .v (.ptr true [(iT zs.1), (osl eI true zs.2.1), (osl eI true zs.2.2.1), (osl eI true zs.2.2.2.1)])), (11, .v (iT zs.2.2.2.2))]) (QX 2 (fun (y : Int × (List Int) × (List Int) × (List Int)) => [(0, .v (ssl eRelation l)), (6, .v (osl eRewritingStep true out_6)), (7, .v (.ptr true [(iT x_7), (ssl eAtom x_8), (osl eI true x_9)])), (8, .v (iT o11)), (10, .v (.ptr true [(iT y.1), (osl eI true y.2.1), (osl eI true y.2.2.1), (osl eI true y.2.2.2)]))])) := Lp.of (f := (fun
 | (v_18, v_19, v_20, v_21, j_22) =>
  if j_22 < 4 then
  (jb 3 (QN (fun (y : (List Int) × (List Int)) => [(0, .v (ssl eRelation l)), (6, .v (osl eRewritingStep true out_6)), (7, .v (.ptr true [(iT x_7), (ssl eAtom x_8), (osl eI true x_9)])), (8, .v (iT o11)), (9, .v (.ptr true [(iT v_14.Relation), (ssl eI v_14.Terms)])), (10, .v (.ptr true [(iT v_18), (osl eI true v_19), (osl eI true y.1), (osl eI true y.2)])), (11, .v (iT j_22))])) (((f45 x_9 j_22).bind fun o26 =>
  (jn (QN (fun (y : Bool) => [(0, .v (ssl eRelation l)), (6, .v (osl eRewritingStep true out_6)), (7, .v (.ptr true [(iT x_7), (ssl eAtom x_8), (osl eI true x_9)])), (8, .v (iT o11)), (9, .v (.ptr true [(iT v_14.Relation), (ssl eI v_14.Terms)])), (10, .v (.ptr true [(iT v_18), (osl eI true v_19), (osl eI true v_20), (osl eI true v_21)])), (11, .v (iT j_22)), (57, .v (.bool y))])) ((if o26 = true then
  some true
  else
  (f45 v_14.Terms j_22).bind fun o31 =>
  some (decide (¬ (o31 = true)))) : Option (Bool))).bind fun x_28 =>
  if x_28 = true then
  some (v_20, v_21)
  else
  (f46 l v_14).bind fun o34 =>
  (f45 o34 j_22).bind fun o36 =>
  (jn (QN (fun (y : (List Int) × (List Int)) => [(0, .v (ssl eRelation l)), (6, .v (osl eRewritingStep true out_6)), (7, .v (.ptr true [(iT x_7), (ssl eAtom x_8), (osl eI true x_9)])), (8, .v (iT o11)), (9, .v (.ptr true [(iT v_14.Relation), (ssl eI v_14.Terms)])), (10, .v (.ptr true [(iT v_18), (osl eI true v_19), (osl eI true y.1), (osl eI true y.2)])), (11, .v (iT j_22))])) ((if o36 = true then
  (app 8 v_20 ([j_22])).bind fun l_41 =>
  some (l_41, v_21)
  else
  (app 8 v_21 ([j_22])).bind fun l_43 =>
  some (v_20, l_43)) : Option ((List Int) × (List Int)))).bind fun (v_45, v_46) =>
  some (v_45, v_46)) : Option ((List Int) × (List Int)))).bind fun (v_47, v_48) =>
  some (.inl (v_18, v_19, v_47, v_48, w64 (j_22 + 1)))
  else
  some (.inr (v_18, v_19, v_20, v_21)) : Int × (List Int) × (List Int) × (List Int) × Int -> Option ((Int × (List Int) × (List Int) × (List Int) × Int) ⊕ (Int × (List Int) × (List Int) × (List Int))))) (by exact go)
instance i8_0 : Lp cx (f8_0 l) 83 L8_0 (fun (zs : (List RewritingStep) × Int × (List Atom) × (List Int)) => [(0, .v (ssl eRelation l)), (6, .v (osl eRewritingStep true zs.1)), (7, .v (.ptr true [(iT zs.2.1), (osl eAtom false zs.2.2.1), (osl eI true zs.2.2.2)]))]) (QO (QX 0 (fun (y : (List RewritingStep)) => [(6, .v (osl eRewritingStep true y))])) (QR (fun (y : (List RewritingStep) × Bool) => [(4, .v (osl eRewritingStep true y.1)), (5, .v (.bool y.2))]))) := Lp.of (f := (fun
 | (out_6, x_7, x_8, x_9) =>
  if (x_8.length : Int) > 0 then
  (f44 l ({ VariableCount := x_7, Atoms := x_8, Free := x_9 } : Query)).bind fun o11 =>
  if o11 < 0 then
  sn 3 4 (osl eRewritingStep true ([])) <| 
  some (.inr (.inr ([], false)))
  else
  sn 0 7 (.ptr true [(iT x_7), (ssl eAtom x_8), (osl eI true x_9)]) <| 
  (ix x_8 o11).bind fun v_14 =>
  (app 8 ([]) v_14.Terms).bind fun l_16 =>
  sn 14 40 (osl eI true l_16) <| 
  sn 2 42 (.agg [(iT v_14.Relation), (osl eI true l_16), (osl eI true ([])), (osl eI true ([]))]) <| 
  (iter (lw (out_6, x_7, x_8, o11)  (f8_1 l x_9 v_14)) (v_14.Relation, l_16, [], [], 0)).bind fun (v_51, v_52, v_53, v_54) =>
  (app 80 out_6 ([({ Atom := ({ Relation := v_51, Terms := v_52 } : Atom), Existential := v_53, Universal := v_54 } : RewritingStep)])).bind fun l_55 =>
  sn 5 7 (.ptr true [(iT x_7), (ssl eAtom x_8), (ssl eI x_9)]) <| 
  (f47 ({ VariableCount := x_7, Atoms := x_8, Free := x_9 } : Query) o11).bind fun o57 =>
  some (.inl (l_55, o57.VariableCount, o57.Atoms, o57.Free))
  else
  some (.inr (.inl out_6)) : (List RewritingStep) × Int × (List Atom) × (List Int) -> Option (((List RewritingStep) × Int × (List Atom) × (List Int)) ⊕ ((List RewritingStep) ⊕ ((List RewritingStep) × Bool))))) (by exact go)
instance i8 : Rn cx (f8 l q) 8 [(ssl eRelation l), (.agg [(iT q.VariableCount), (ssl eAtom q.Atoms), (ssl eI q.Free)])] (fun (r : (List RewritingStep) × Bool) => (.tup [(osl eRewritingStep true r.1), (.bool r.2)])) (fun r => []) := Rn.o (e := (
  sn 5 6 (osl eRewritingStep true ([])) <| 
  (f42 l q).bind fun o1 =>
  if o1 ≠ 1 then
  some ([], false)
  else
  (f43 q).bind fun o4 =>
  (iter (f8_0 l) ([], o4.VariableCount, o4.Atoms, o4.Free)).bind fun o => match o with
  | .inl out_61 =>
  some (out_61, true)
  | .inr (x_62, x_63) =>
  some (x_62, x_63) : Option ((List RewritingStep) × Bool))) rfl (by exact go)
instance : Io0 cx 8 := ⟨rfl⟩
instance i127_0 : Lp cx (f127_0 f) 44 L127_0 (fun (zs : Int) => [(3, .v (.ptr true [(iT f.Relation), (ssl eI f.Values)])), (5, .v (iT zs))]) (QO (QX 0 (fun (y : Unit) => [])) (QR (fun (y : Bool) => [(4, .v (.bool y))]))) := Lp.of (by unfold f127_0; exact go)
instance i127 : Rn cx (f127 l f) 127 [(ssl eRelation l), (.agg [(iT f.Relation), (ssl eI f.Values)])] (fun (r : Bool) => (.bool r)) (fun r => []) := Rn.o (e := (
  (f129 l).bind fun o1 =>
  (jn (QN (fun (y : Bool) => [(3, .v (.ptr true [(iT f.Relation), (ssl eI f.Values)])), (29, .v (.bool y))])) ((if ¬ (o1 = true) then
  some true
  else
  (f110 f.Relation 0 (w64 ((l.length : Int) - 1))).bind fun o6 =>
  (jn (QN (fun (y : Bool) => [(3, .v (.ptr true [(iT f.Relation), (ssl eI f.Values)])), (29, .v (.bool y))])) ((if ¬ (o6 = true) then
  some true
  else
  (ix l f.Relation).bind fun v_11 =>
  some (decide ((f.Values.length : Int) ≠ v_11.Arity))) : Option (Bool))).bind fun x_8 =>
  some x_8) : Option (Bool))).bind fun x_3 =>
  if x_3 = true then
  some false
  else
  (iter (f127_0 f) 0).bind fun o => match o with
  | .inl _ =>
  some true
  | .inr x_23 =>
  some x_23 : Option Bool)) rfl (by exact go)
instance : Io0 cx 127 := ⟨rfl⟩
instance i172_0 : Lp cx (f172_0 a b) 46 L172_0 (fun (zs : Int) => [(0, .v (ssl eI a)), (1, .v (ssl eI b)), (5, .v (iT zs))]) (QO (QX 0 (fun (y : Unit) => [(0, .v (ssl eI a)), (1, .v (ssl eI b))])) (QR (fun (y : Int) => [(4, .v (iT y))]))) := Lp.of (f := (fun
 | i_1 =>
  (jn (QN (fun (y : Bool) => [(0, .v (ssl eI a)), (1, .v (ssl eI b)), (5, .v (iT i_1)), (15, .v (.bool y))])) ((if i_1 < (a.length : Int) then
  some (decide (i_1 < (b.length : Int)))
  else
  some false) : Option (Bool))).bind fun x_2 =>
  if x_2 = true then
  (ix a i_1).bind fun v_6 =>
  (ix b i_1).bind fun v_8 =>
  if v_6 < v_8 then
  some (.inr (.inr (-1)))
  else
  if v_6 > v_8 then
  some (.inr (.inr 1))
  else
  some (.inl (w64 (i_1 + 1)))
  else
  some (.inr (.inl ())) : Int -> Option (Int ⊕ (Unit ⊕ Int)))) (by exact go)
instance i172 : Rn cx (f172 a b) 172 [(ssl eI a), (ssl eI b)] (fun (r : Int) => (iT r)) (fun r => []) := Rn.o rfl (by unfold f172; exact go)
instance : Io0 cx 172 := ⟨rfl⟩
instance i128 {a : Fact} {b : Fact} : Rn cx (f128 a b) 128 [(.agg [(iT a.Relation), (ssl eI a.Values)]), (.agg [(iT b.Relation), (ssl eI b.Values)])] (fun (r : Int) => (iT r)) (fun r => []) := Rn.o rfl (by unfold f128; exact go)
instance : Io0 cx 128 := ⟨rfl⟩
instance i69_0 : Lp cx (f69_0 d) 48 L69_0 (fun (zs : Int) => [(1, .v (.ptr true [(ssl eRelation d.Relations), (ssl eFact d.Facts)])), (3, .v (iT zs))]) (QO (QX 0 (fun (y : Unit) => [(1, .v (.ptr true [(ssl eRelation d.Relations), (ssl eFact d.Facts)]))])) (QR (fun (y : Bool) => [(2, .v (.bool y))]))) := Lp.of (f := (fun
 | i_1 =>
  if i_1 < (d.Facts.length : Int) then
  (ix d.Facts i_1).bind fun v_3 =>
  (f127 d.Relations v_3).bind fun o5 =>
  (jn (QN (fun (y : Bool) => [(1, .v (.ptr true [(ssl eRelation d.Relations), (ssl eFact d.Facts)])), (3, .v (iT i_1)), (38, .v (.bool y))])) ((if ¬ (o5 = true) then
  some true
  else
  (jn (QN (fun (y : Bool) => [(1, .v (.ptr true [(ssl eRelation d.Relations), (ssl eFact d.Facts)])), (3, .v (iT i_1)), (38, .v (.bool y))])) ((if i_1 > 0 then
  (ix d.Facts (w64 (i_1 - 1))).bind fun v_13 =>
  (f128 v_13 v_3).bind fun o15 =>
  some (decide (o15 >= 0))
  else
  some false) : Option (Bool))).bind fun x_10 =>
  some x_10) : Option (Bool))).bind fun x_7 =>
  if x_7 = true then
  some (.inr (.inr false))
  else
  some (.inl (w64 (i_1 + 1)))
  else
  some (.inr (.inl ())) : Int -> Option (Int ⊕ (Unit ⊕ Bool)))) (by exact go)
instance i69 : Rn cx (f69 d) 69 [(.agg [(ssl eRelation d.Relations), (ssl eFact d.Facts)])] (fun (r : Bool) => (.bool r)) (fun r => []) := Rn.o (e := (
  (iter (f69_0 d) 0).bind fun o => match o with
  | .inl _ =>
  (f129 d.Relations).bind fun o21 =>
  (jn (QN (fun (y : Bool) => [(2, .v (.bool y))])) ((if o21 = true then
  some (decide ((d.Facts.length : Int) <= 14))
  else
  some false) : Option (Bool))).bind fun x_23 =>
  some x_23
  | .inr x_20 =>
  some x_20 : Option Bool)) rfl (by exact go)
instance : Io0 cx 69 := ⟨rfl⟩
instance i130_1 {f : (List RewritingStep)} {i_1 : Int} {v_3 : RewritingStep} : Lp cx (lw (l, f, i_1) (f130_1 v_3)) 81 L130_1 (fun (zs : Int) => [(0, .v (ssl eRelation l)), (1, .v (ssl eRewritingStep f)), (5, .v (iT i_1)), (6, .v (.ptr true [(iT v_3.Atom.Relation), (ssl eI v_3.Atom.Terms)])), (7, .v (iT zs))]) (QO (QX 2 (fun (y : Unit) => [(0, .v (ssl eRelation l)), (1, .v (ssl eRewritingStep f)), (5, .v (iT i_1)), (6, .v (.ptr true [(iT v_3.Atom.Relation), (ssl eI v_3.Atom.Terms)]))])) (QR (fun (y : Bool) => [(4, .v (.bool y))]))) := Lp.of (by unfold lw f130_1; exact go)
instance i130_0 {f : (List RewritingStep)} : Lp cx (f130_0 l f) 81 L130_0 (fun (zs : Int) => [(0, .v (ssl eRelation l)), (1, .v (ssl eRewritingStep f)), (5, .v (iT zs))]) (QO (QX 0 (fun (y : Unit) => [(1, .v (ssl eRewritingStep f))])) (QR (fun (y : Bool) => [(4, .v (.bool y))]))) := Lp.of (f := (fun
 | i_1 =>
  if i_1 < (f.length : Int) then
  (ix f i_1).bind fun v_3 =>
  (f129 l).bind fun o5 =>
  (jn (QN (fun (y : Bool) => [(0, .v (ssl eRelation l)), (1, .v (ssl eRewritingStep f)), (5, .v (iT i_1)), (6, .v (.ptr true [(iT v_3.Atom.Relation), (ssl eI v_3.Atom.Terms)])), (42, .v (.bool y))])) ((if ¬ (o5 = true) then
  some true
  else
  (f110 v_3.Atom.Relation 0 (w64 ((l.length : Int) - 1))).bind fun o10 =>
  (jn (QN (fun (y : Bool) => [(0, .v (ssl eRelation l)), (1, .v (ssl eRewritingStep f)), (5, .v (iT i_1)), (6, .v (.ptr true [(iT v_3.Atom.Relation), (ssl eI v_3.Atom.Terms)])), (42, .v (.bool y))])) ((if ¬ (o10 = true) then
  some true
  else
  (ix l v_3.Atom.Relation).bind fun v_15 =>
  some (decide ((v_3.Atom.Terms.length : Int) ≠ v_15.Arity))) : Option (Bool))).bind fun x_12 =>
  some x_12) : Option (Bool))).bind fun x_7 =>
  if x_7 = true then
  some (.inr (.inr false))
  else
  (iter (lw (l, f, i_1)  (f130_1 v_3)) 0).bind fun o => match o with
  | .inl _ =>
  (f46 l v_3.Atom).bind fun o28 =>
  (f163 o28 v_3.Existential).bind fun o30 =>
  (jn (QN (fun (y : Bool) => [(0, .v (ssl eRelation l)), (1, .v (ssl eRewritingStep f)), (5, .v (iT i_1)), (77, .v (.bool y))])) ((if ¬ (o30 = true) then
  some true
  else
  (f111 v_3.Atom).bind fun o35 =>
  (f163 o35 v_3.Universal).bind fun o37 =>
  some (decide (¬ (o37 = true)))) : Option (Bool))).bind fun x_32 =>
  if x_32 = true then
  some (.inr (.inr false))
  else
  some (.inl (w64 (i_1 + 1)))
  | .inr x_27 =>
  some (.inr (.inr x_27))
  else
  some (.inr (.inl ())) : Int -> Option (Int ⊕ (Unit ⊕ Bool)))) (by exact go)
instance i130 {f : (List RewritingStep)} : Rn cx (f130 l f) 130 [(ssl eRelation l), (ssl eRewritingStep f)] (fun (r : Bool) => (.bool r)) (fun r => []) := Rn.o rfl (by unfold f130; exact go)
instance : Io0 cx 130 := ⟨rfl⟩
instance i131_0 : Lp cx (f131_0 n0) 13 L131_0 (fun (zs : (List Int)) => [(0, .v (iT n0)), (3, .v (osl eI true zs))]) (QX 0 (fun (y : (List Int)) => [(3, .v (osl eI true y))])) := Lp.of (by unfold f131_0; exact go)
instance i131 : Rn cx (f131 n0) 131 [(iT n0)] (fun (r : (List Int)) => (osl eI true r)) (fun r => []) := Rn.o (e := (
  sn 3 3 (osl eI true ([])) <| 
  (iter (f131_0 n0) ([])).bind fun l_7 =>
  some l_7 : Option (List Int))) rfl (by exact go)
instance : Io0 cx 131 := ⟨rfl⟩
instance i236 : Rn cx (f236 l f) 236 [(ssl eRelation l), (.agg [(iT f.Relation), (ssl eI f.Values)])] (fun (r : (List Int)) => (osl eI true r)) (fun r => []) := Rn.o (e := (
  (f127 l f).bind fun o1 =>
  if ¬ (o1 = true) then
  sn 2 4 (osl eI true ([])) <| 
  some ([])
  else
  (ix l f.Relation).bind fun v_4 =>
  (cutL f.Values 0 v_4.KeyLength).bind fun l_6 =>
  (app 8 ([]) l_6).bind fun l_8 =>
  sn 12 4 (osl eI true l_8) <| 
  some l_8 : Option (List Int))) rfl (by exact go)
instance : Io0 cx 236 := ⟨rfl⟩
instance i196 {a : Fact} {b : Fact} : Rn cx (f196 l a b) 196 [(ssl eRelation l), (.agg [(iT a.Relation), (ssl eI a.Values)]), (.agg [(iT b.Relation), (ssl eI b.Values)])] (fun (r : Bool) => (.bool r)) (fun r => []) := Rn.o (e := (
  (f127 l a).bind fun o1 =>
  (jn (QN (fun (y : Bool) => [(0, .v (ssl eRelation l)), (6, .v (.bool y))])) ((if o1 = true then
  (f127 l b).bind fun o6 =>
  (jn (QN (fun (y : Bool) => [(0, .v (ssl eRelation l)), (6, .v (.bool y))])) ((if o6 = true then
  (jn (QN (fun (y : Bool) => [(0, .v (ssl eRelation l)), (6, .v (.bool y))])) ((if a.Relation = b.Relation then
  (f236 l a).bind fun o14 =>
  (f236 l b).bind fun o16 =>
  (f172 o14 o16).bind fun o18 =>
  some (decide (o18 = 0))
  else
  some false) : Option (Bool))).bind fun x_11 =>
  some x_11
  else
  some false) : Option (Bool))).bind fun x_8 =>
  some x_8
  else
  some false) : Option (Bool))).bind fun x_3 =>
  some x_3 : Option Bool)) rfl (by exact go)
instance : Io0 cx 196 := ⟨rfl⟩
instance i150_0 : Lp cx (f150_0 d i) 45 L150_0 (fun (zs : (List Int) × Int) => [(1, .v (iT i)), (2, .v (.ptr true [(ssl eRelation d.Relations), (ssl eFact d.Facts)])), (5, .v (osl eI true zs.1)), (6, .v (iT zs.2))]) (QX 0 (fun (y : (List Int)) => [(5, .v (osl eI true y))])) := Lp.of (f := (fun
 | (out_1, k_2) =>
  (jn (QN (fun (y : Bool) => [(1, .v (iT i)), (2, .v (.ptr true [(ssl eRelation d.Relations), (ssl eFact d.Facts)])), (5, .v (osl eI true out_1)), (6, .v (iT k_2)), (24, .v (.bool y))])) ((if k_2 < (d.Facts.length : Int) then
  (f69 d).bind fun o6 =>
  (jn (QN (fun (y : Bool) => [(1, .v (iT i)), (2, .v (.ptr true [(ssl eRelation d.Relations), (ssl eFact d.Facts)])), (5, .v (osl eI true out_1)), (6, .v (iT k_2)), (24, .v (.bool y))])) ((if o6 = true then
  (f110 i 0 (w64 ((d.Facts.length : Int) - 1))).bind fun o11 =>
  some o11
  else
  some false) : Option (Bool))).bind fun x_8 =>
  some x_8
  else
  some false) : Option (Bool))).bind fun x_3 =>
  if x_3 = true then
  (ix d.Facts i).bind fun v_14 =>
  (ix d.Facts k_2).bind fun v_16 =>
  (f196 d.Relations v_14 v_16).bind fun o18 =>
  (jn (QN (fun (y : (List Int)) => [(1, .v (iT i)), (2, .v (.ptr true [(ssl eRelation d.Relations), (ssl eFact d.Facts)])), (5, .v (osl eI true y)), (6, .v (iT k_2))])) ((if o18 = true then
  (app 8 out_1 ([k_2])).bind fun l_23 =>
  some l_23
  else
  some out_1) : Option (List Int))).bind fun out_25 =>
  some (.inl (out_25, w64 (k_2 + 1)))
  else
  some (.inr out_1) : (List Int) × Int -> Option (((List Int) × Int) ⊕ (List Int)))) (by exact go)
instance i150 : Rn cx (f150 d i) 150 [(.agg [(ssl eRelation d.Relations), (ssl eFact d.Facts)]), (iT i)] (fun (r : (List Int)) => (osl eI true r)) (fun r => []) := Rn.o (e := (
  sn 4 5 (osl eI true ([])) <| 
  (iter (f150_0 d i) ([], 0)).bind fun out_28 =>
  some out_28 : Option (List Int))) rfl (by exact go)
instance : Io0 cx 150 := ⟨rfl⟩
instance i86_0 : Lp cx (f86_0 d) 31 L86_0 (fun (zs : (List (List Int)) × Int) => [(1, .v (.ptr true [(ssl eRelation d.Relations), (ssl eFact d.Facts)])), (3, .v (osl (eL eI) true zs.1)), (4, .v (iT zs.2))]) (QX 0 (fun (y : (List (List Int))) => [(3, .v (osl (eL eI) true y))])) := Lp.of (f := (fun
 | (out_1, i_2) =>
  (jn (QN (fun (y : Bool) => [(1, .v (.ptr true [(ssl eRelation d.Relations), (ssl eFact d.Facts)])), (3, .v (osl (eL eI) true out_1)), (4, .v (iT i_2)), (15, .v (.bool y))])) ((if i_2 < (d.Facts.length : Int) then
  (f69 d).bind fun o6 =>
  some o6
  else
  some false) : Option (Bool))).bind fun x_3 =>
  if x_3 = true then
  (f150 d i_2).bind fun o9 =>
  (ix o9 0).bind fun v_11 =>
  (jn (QN (fun (y : (List (List Int))) => [(1, .v (.ptr true [(ssl eRelation d.Relations), (ssl eFact d.Facts)])), (3, .v (osl (eL eI) true y)), (4, .v (iT i_2))])) ((if v_11 = i_2 then
  (app 24 out_1 ([o9])).bind fun l_16 =>
  some l_16
  else
  some out_1) : Option (List (List Int)))).bind fun out_18 =>
  some (.inl (out_18, w64 (i_2 + 1)))
  else
  some (.inr out_1) : (List (List Int)) × Int -> Option (((List (List Int)) × Int) ⊕ (List (List Int))))) (by exact go)
instance i86 : Rn cx (f86 d) 86 [(.agg [(ssl eRelation d.Relations), (ssl eFact d.Facts)])] (fun (r : (List (List Int))) => (osl (eL eI) true r)) (fun r => []) := Rn.o (e := (
  sn 4 3 (osl (eL eI) true ([])) <| 
  (iter (f86_0 d) ([], 0)).bind fun out_21 =>
  some out_21 : Option (List (List Int)))) rfl (by exact go)
instance : Io0 cx 86 := ⟨rfl⟩
instance i174_0 {a : Atom} : Lp cx (f174_0 a f) 79 L174_0 (fun (zs : (List Int) × Int) => [(3, .v (.ptr true [(iT a.Relation), (ssl eI a.Terms)])), (4, .v (.ptr true [(iT f.Relation), (ssl eI f.Values)])), (8, .v (osl eI true zs.1)), (9, .v (iT zs.2))]) (QO (QX 0 (fun (y : (List Int)) => [(8, .v (osl eI true y))])) (QR (fun (y : (List Int) × Bool) => [(6, .v (osl eI true y.1)), (7, .v (.bool y.2))]))) := Lp.of (f := (fun
 | (x_7, i_8) =>
  if i_8 < (a.Terms.length : Int) then
  (jb 1 (QO (QN (fun (y : (List Int)) => [(3, .v (.ptr true [(iT a.Relation), (ssl eI a.Terms)])), (4, .v (.ptr true [(iT f.Relation), (ssl eI f.Values)])), (8, .v (osl eI true y)), (9, .v (iT i_8))])) (QR (fun (y : (List Int) × Bool) => [(6, .v (osl eI true y.1)), (7, .v (.bool y.2))]))) (((ix a.Terms i_8).bind fun v_12 =>
  if v_12 < 0 then
  (ix f.Values i_8).bind fun v_15 =>
  if (w64 ((-1) - v_12)) ≠ v_15 then
  some (.inr (x_7, false))
  else
  some (.inl x_7)
  else
  (ix x_7 v_12).bind fun v_18 =>
  (jn (QN (fun (y : Bool) => [(3, .v (.ptr true [(iT a.Relation), (ssl eI a.Terms)])), (4, .v (.ptr true [(iT f.Relation), (ssl eI f.Values)])), (8, .v (osl eI true x_7)), (9, .v (iT i_8)), (10, .v (iT v_12)), (68, .v (.bool y))])) ((if v_18 >= 0 then
  (ix f.Values i_8).bind fun v_23 =>
  some (decide (v_18 ≠ v_23))
  else
  some false) : Option (Bool))).bind fun x_20 =>
  if x_20 = true then
  some (.inr (x_7, false))
  else
  (ix f.Values i_8).bind fun v_26 =>
  some (.inl (x_7.set v_12.toNat v_26))) : Option ((List Int) ⊕ ((List Int) × Bool)))).bind fun o => match o with
  | .inl x_29 =>
  some (.inl (x_29, w64 (i_8 + 1)))
  | .inr (x_30, x_31) =>
  some (.inr (.inr (x_30, x_31)))
  else
  some (.inr (.inl x_7)) : (List Int) × Int -> Option (((List Int) × Int) ⊕ ((List Int) ⊕ ((List Int) × Bool))))) (by exact go)
instance i174 {a : Atom} : Rn cx (f174 a f vals) 174 [(.agg [(iT a.Relation), (ssl eI a.Terms)]), (.agg [(iT f.Relation), (ssl eI f.Values)]), (ssl eI vals)] (fun (r : (List Int) × Bool) => (.tup [(osl eI true r.1), (.bool r.2)])) (fun r => []) := Rn.o (e := (
  (app 8 ([]) vals).bind fun l_1 =>
  sn 8 8 (osl eI true l_1) <| 
  (jn (QN (fun (y : Bool) => [(3, .v (.ptr true [(iT a.Relation), (ssl eI a.Terms)])), (4, .v (.ptr true [(iT f.Relation), (ssl eI f.Values)])), (8, .v (osl eI true l_1)), (27, .v (.bool y))])) ((if f.Relation ≠ a.Relation then
  some true
  else
  some (decide ((f.Values.length : Int) ≠ (a.Terms.length : Int)))) : Option (Bool))).bind fun x_3 =>
  if x_3 = true then
  some (l_1, false)
  else
  (iter (f174_0 a f) (l_1, 0)).bind fun o => match o with
  | .inl x_34 =>
  some (x_34, true)
  | .inr (x_35, x_36) =>
  some (x_35, x_36) : Option ((List Int) × Bool))) rfl (by exact go)
instance : Io0 cx 174 := ⟨rfl⟩
instance i132_1 {d : Database} {f : (List RewritingStep)} {n2 : Int} {vals : (List Int)} {v_2 : RewritingStep} {v_4 : Relation} {o6 : (List (List Int))} {i_8 : Int} {o23 : ((List Int) × Bool)} {rec : Database -> (List RewritingStep) -> Int -> (List Int) -> Option Bool} [hrec : ∀ d f n2 vals, Rn cx (rec d f n2 vals) 132 [(.agg [(ssl eRelation d.Relations), (ssl eFact d.Facts)]), (ssl eRewritingStep f), (iT n2), (ssl eI vals)] (fun o => (.bool o)) (fun o => [])] : Lp cx (lw (vals, v_4) (f132_1 d f n2 rec v_2 o6 i_8 o23)) 116 L132_1 (fun (zs : Bool × Int) => [(1, .v (ssl eRewritingStep f)), (2, .v (iT n2)), (3, .v (ssl eI vals)), (4, .v (.ptr true [(ssl eRelation d.Relations), (ssl eFact d.Facts)])), (9, .v (.ptr true [(iT v_2.Atom.Relation), (ssl eI v_2.Atom.Terms)])), (10, .v (iT v_4.KeyLength)), (11, .v (osl (eL eI) true o6)), (12, .v (iT i_8)), (14, .v (osl eI true o23.1)), (15, .v (.bool zs.1)), (16, .v (iT zs.2))]) (QX 2 (fun (y : Bool) => [(1, .v (ssl eRewritingStep f)), (2, .v (iT n2)), (3, .v (ssl eI vals)), (4, .v (.ptr true [(ssl eRelation d.Relations), (ssl eFact d.Facts)])), (9, .v (.ptr true [(iT v_2.Atom.Relation), (ssl eI v_2.Atom.Terms)])), (10, .v (iT v_4.KeyLength)), (11, .v (osl (eL eI) true o6)), (12, .v (iT i_8)), (15, .v (.bool y))])) := Lp.of (f := (fun
 | (is_25, k_26) =>
  (ix o6 i_8).bind fun v_27 =>
  (jn (QN (fun (y : Bool) => [(1, .v (ssl eRewritingStep f)), (2, .v (iT n2)), (3, .v (ssl eI vals)), (4, .v (.ptr true [(ssl eRelation d.Relations), (ssl eFact d.Facts)])), (9, .v (.ptr true [(iT v_2.Atom.Relation), (ssl eI v_2.Atom.Terms)])), (10, .v (iT v_4.KeyLength)), (11, .v (osl (eL eI) true o6)), (12, .v (iT i_8)), (14, .v (osl eI true o23.1)), (15, .v (.bool is_25)), (16, .v (iT k_26)), (86, .v (.bool y))])) ((if k_26 < (v_27.length : Int) then
  some is_25
  else
  some false) : Option (Bool))).bind fun x_29 =>
  if x_29 = true then
  (ix v_27 k_26).bind fun v_33 =>
  (ix d.Facts v_33).bind fun v_35 =>
  (f174 v_2.Atom v_35 o23.1).bind fun o37 =>
  (jn (QN (fun (y : Bool) => [(1, .v (ssl eRewritingStep f)), (2, .v (iT n2)), (3, .v (ssl eI vals)), (4, .v (.ptr true [(ssl eRelation d.Relations), (ssl eFact d.Facts)])), (9, .v (.ptr true [(iT v_2.Atom.Relation), (ssl eI v_2.Atom.Terms)])), (10, .v (iT v_4.KeyLength)), (11, .v (osl (eL eI) true o6)), (12, .v (iT i_8)), (14, .v (osl eI true o23.1)), (15, .v (.bool y)), (16, .v (iT k_26))])) ((if o37.2 = true then
  (rec d f (w64 (n2 + 1)) o37.1).bind fun o42 =>
  some o42
  else
  some false) : Option (Bool))).bind fun is_39 =>
  some (.inl (is_39, w64 (k_26 + 1)))
  else
  some (.inr is_25) : Bool × Int -> Option ((Bool × Int) ⊕ Bool))) (by exact go)
instance i132_0 {d : Database} {f : (List RewritingStep)} {n2 : Int} {vals : (List Int)} {v_2 : RewritingStep} {v_4 : Relation} {o6 : (List (List Int))} {rec : Database -> (List RewritingStep) -> Int -> (List Int) -> Option Bool} [hrec : ∀ d f n2 vals, Rn cx (rec d f n2 vals) 132 [(.agg [(ssl eRelation d.Relations), (ssl eFact d.Facts)]), (ssl eRewritingStep f), (iT n2), (ssl eI vals)] (fun o => (.bool o)) (fun o => [])] : Lp cx (f132_0 d f n2 vals rec v_2 v_4 o6) 116 L132_0 (fun (zs : Int) => [(1, .v (ssl eRewritingStep f)), (2, .v (iT n2)), (3, .v (ssl eI vals)), (4, .v (.ptr true [(ssl eRelation d.Relations), (ssl eFact d.Facts)])), (9, .v (.ptr true [(iT v_2.Atom.Relation), (ssl eI v_2.Atom.Terms)])), (10, .v (iT v_4.KeyLength)), (11, .v (osl (eL eI) true o6)), (12, .v (iT zs))]) (QO (QX 0 (fun (y : Unit) => [])) (QR (fun (y : Bool) => [(8, .v (.bool y))]))) := Lp.of (f := (fun
 | i_8 =>
  if i_8 < (o6.length : Int) then
  (jb 1 (QO (QN (fun (y : Unit) => [(1, .v (ssl eRewritingStep f)), (2, .v (iT n2)), (3, .v (ssl eI vals)), (4, .v (.ptr true [(ssl eRelation d.Relations), (ssl eFact d.Facts)])), (9, .v (.ptr true [(iT v_2.Atom.Relation), (ssl eI v_2.Atom.Terms)])), (10, .v (iT v_4.KeyLength)), (11, .v (osl (eL eI) true o6)), (12, .v (iT i_8))])) (QR (fun (y : Bool) => [(8, .v (.bool y))]))) (((ix o6 i_8).bind fun v_12 =>
  (ix v_12 0).bind fun v_14 =>
  (ix d.Facts v_14).bind fun v_16 =>
  if v_16.Relation ≠ v_2.Atom.Relation then
  some (.inl ())
  else
  (cutL v_2.Atom.Terms 0 v_4.KeyLength).bind fun l_19 =>
  (cutL v_16.Values 0 v_4.KeyLength).bind fun l_21 =>
  (f174 ({ Relation := v_2.Atom.Relation, Terms := l_19 } : Atom) ({ Relation := v_2.Atom.Relation, Values := l_21 } : Fact) vals).bind fun o23 =>
  (iter (lw (vals, v_4)  (f132_1 d f n2 rec v_2 o6 i_8 o23)) (o23.2, 0)).bind fun is_46 =>
  if is_46 = true then
  some (.inr true)
  else
  some (.inl ())) : Option (Unit ⊕ Bool))).bind fun o => match o with
  | .inl _ =>
  some (.inl (w64 (i_8 + 1)))
  | .inr x_48 =>
  some (.inr (.inr x_48))
  else
  some (.inr (.inl ())) : Int -> Option (Int ⊕ (Unit ⊕ Bool)))) (by exact go)
instance i132 : ∀ (n : Nat) d f n2 vals, Rn cx (f132 n d f n2 vals) 132 [(.agg [(ssl eRelation d.Relations), (ssl eFact d.Facts)]), (ssl eRewritingStep f), (iT n2), (ssl eI vals)] (fun (r : Bool) => (.bool r)) (fun r => []) := by
 intro n
 induction n with
 | zero => intro d f n2 vals; exact ⟨fun r h => by simp [f132] at h⟩
 | succ n ih =>
  intro d f n2 vals
  refine Rn.of rfl rfl (by decide) rfl ?_
  simp only [f132]
  exact go
instance : Io0 cx 132 := ⟨rfl⟩
instance i70_0 {f : (List RewritingStep)} : Lp cx (lw (d, f) (f70_0 vals)) 43 L70_0 (fun (zs : (List Int) × Int) => [(1, .v (ssl eRewritingStep f)), (2, .v (ssl eI vals)), (3, .v (.ptr true [(ssl eRelation d.Relations), (ssl eFact d.Facts)])), (7, .v (osl eI true zs.1)), (8, .v (iT zs.2))]) (QX 0 (fun (y : (List Int)) => [(1, .v (ssl eRewritingStep f)), (3, .v (.ptr true [(ssl eRelation d.Relations), (ssl eFact d.Facts)])), (7, .v (osl eI true y))])) := Lp.of (by unfold lw f70_0; exact go)
instance i70 {f : (List RewritingStep)} : Rn cx (f70 d f vals) 70 [(.agg [(ssl eRelation d.Relations), (ssl eFact d.Facts)]), (ssl eRewritingStep f), (ssl eI vals)] (fun (r : Bool) => (.bool r)) (fun r => []) := Rn.o (e := (
  (f69 d).bind fun o1 =>
  (jn (QN (fun (y : Bool) => [(1, .v (ssl eRewritingStep f)), (2, .v (ssl eI vals)), (3, .v (.ptr true [(ssl eRelation d.Relations), (ssl eFact d.Facts)])), (23, .v (.bool y))])) ((if ¬ (o1 = true) then
  some true
  else
  (f130 d.Relations f).bind fun o6 =>
  (jn (QN (fun (y : Bool) => [(1, .v (ssl eRewritingStep f)), (2, .v (ssl eI vals)), (3, .v (.ptr true [(ssl eRelation d.Relations), (ssl eFact d.Facts)])), (23, .v (.bool y))])) ((if ¬ (o6 = true) then
  some true
  else
  some (decide ((vals.length : Int) > 4))) : Option (Bool))).bind fun x_8 =>
  some x_8) : Option (Bool))).bind fun x_3 =>
  if x_3 = true then
  some false
  else
  (f131 4).bind fun o12 =>
  (iter (lw (d, f)  (f70_0 vals)) (o12, 0)).bind fun x_24 =>
  (f132 64 d f 0 x_24).bind fun o25 =>
  some o25 : Option Bool)) rfl (by exact go)
instance : Io0 cx 70 := ⟨rfl⟩
instance i20 : Rn cx (f20 d q) 20 [(.agg [(ssl eRelation d.Relations), (ssl eFact d.Facts)]), (.agg [(iT q.VariableCount), (ssl eAtom q.Atoms), (ssl eI q.Free)])] (fun (r : Bool × Bool) => (.tup [(.bool r.1), (.bool r.2)])) (fun r => []) := Rn.o (e := (
  (f8 d.Relations q).bind fun o1 =>
  (jn (QN (fun (y : Bool) => [(2, .v (.ptr true [(ssl eRelation d.Relations), (ssl eFact d.Facts)])), (6, .v (osl eRewritingStep true o1.1)), (27, .v (.bool y))])) ((if ¬ (o1.2 = true) then
  some true
  else
  (f69 d).bind fun o6 =>
  (jn (QN (fun (y : Bool) => [(2, .v (.ptr true [(ssl eRelation d.Relations), (ssl eFact d.Facts)])), (6, .v (osl eRewritingStep true o1.1)), (27, .v (.bool y))])) ((if ¬ (o6 = true) then
  some true
  else
  some (decide ((q.Free.length : Int) > 0))) : Option (Bool))).bind fun x_8 =>
  some x_8) : Option (Bool))).bind fun x_3 =>
  if x_3 = true then
  some (false, false)
  else
  sn 3 30 (osl eI true ([])) <| 
  (f70 d o1.1 ([])).bind fun o12 =>
  some (o12, true) : Option (Bool × Bool))) rfl (by exact go)
instance : Io0 cx 20 := ⟨rfl⟩
instance i121 : Rn cx (f121 n0 low high) 121 [(iT n0), (iT low), (iT high)] (fun (r : Bool) => (.bool r)) (fun r => []) := Rn.o (e := (
  (jn (QN (fun (y : Bool) => [(6, .v (.bool y))])) ((if low <= n0 then
  some (decide (n0 <= high))
  else
  some false) : Option (Bool))).bind fun x_1 =>
  some x_1 : Option Bool)) rfl (by exact go)
instance : Io0 cx 121 := ⟨rfl⟩
instance i175 {relation : Relation} : Rn cx (f175 relation) 175 [(.agg [(.str relation.Name), (iT relation.Arity), (iT relation.KeyLength)])] (fun (r : Bool) => (.bool r)) (fun r => []) := Rn.o (e := (
  (jn (QN (fun (y : Bool) => [(2, .v (.bool y))])) ((if (relation.Name.length : Int) = 1 then
  (ix relation.Name 0).bind fun c_4 =>
  (jn (QN (fun (y : Bool) => [(2, .v (.bool y))])) ((if (c_4.toNat : Int) >= 97 then
  (jn (QN (fun (y : Bool) => [(2, .v (.bool y))])) ((if (c_4.toNat : Int) <= 122 then
  (f121 relation.Arity 1 3).bind fun o12 =>
  (jn (QN (fun (y : Bool) => [(2, .v (.bool y))])) ((if o12 = true then
  (f121 relation.KeyLength 0 relation.Arity).bind fun o17 =>
  some o17
  else
  some false) : Option (Bool))).bind fun x_14 =>
  some x_14
  else
  some false) : Option (Bool))).bind fun x_9 =>
  some x_9
  else
  some false) : Option (Bool))).bind fun x_6 =>
  some x_6
  else
  some false) : Option (Bool))).bind fun x_1 =>
  some x_1 : Option Bool)) rfl (by exact go)
instance : Io0 cx 175 := ⟨rfl⟩
instance i134_0 : Lp cx (f134_0 relations) 34 L134_0 (fun (zs : Int) => [(0, .v (ssl eRelation relations)), (5, .v (ssl eRelation relations)), (6, .v (iT (relations.length : Int))), (7, .v (iT zs))]) (QO (QX 0 (fun (y : Unit) => [(0, .v (ssl eRelation relations))])) (QR (fun (y : Bool) => [(2, .v (.bool y))]))) := Lp.of (f := (fun
 | x_1 =>
  if x_1 < (relations.length : Int) then
  (ix relations x_1).bind fun v_3 =>
  (f175 v_3).bind fun o5 =>
  (jn (QN (fun (y : Bool) => [(0, .v (ssl eRelation relations)), (5, .v (ssl eRelation relations)), (6, .v (iT (relations.length : Int))), (7, .v (iT x_1)), (29, .v (.bool y))])) ((if ¬ (o5 = true) then
  some true
  else
  (jn (QN (fun (y : Bool) => [(0, .v (ssl eRelation relations)), (5, .v (ssl eRelation relations)), (6, .v (iT (relations.length : Int))), (7, .v (iT x_1)), (29, .v (.bool y))])) ((if x_1 > 0 then
  (ix relations (w64 (x_1 - 1))).bind fun v_13 =>
  some (!(Op.bytesLess v_13.Name v_3.Name))
  else
  some false) : Option (Bool))).bind fun x_10 =>
  some x_10) : Option (Bool))).bind fun x_7 =>
  if x_7 = true then
  some (.inr (.inr false))
  else
  some (.inl (w64 (x_1 + 1)))
  else
  some (.inr (.inl ())) : Int -> Option (Int ⊕ (Unit ⊕ Bool)))) (by exact go)
instance i134 : Rn cx (f134 relations) 134 [(ssl eRelation relations)] (fun (r : Bool) => (.bool r)) (fun r => []) := Rn.o rfl (by unfold f134; exact go)
instance : Io0 cx 134 := ⟨rfl⟩
instance i93_0 : Lp cx (f93_0 indices n1) 33 L93_0 (fun (zs : Int) => [(0, .v (ssl eI indices)), (1, .v (iT n1)), (7, .v (ssl eI indices)), (8, .v (iT (indices.length : Int))), (9, .v (iT zs))]) (QO (QX 0 (fun (y : Unit) => [])) (QR (fun (y : Bool) => [(4, .v (.bool y))]))) := Lp.of (f := (fun
 | x_1 =>
  if x_1 < (indices.length : Int) then
  (ix indices x_1).bind fun v_3 =>
  (f121 v_3 0 (w64 (n1 - 1))).bind fun o5 =>
  (jn (QN (fun (y : Bool) => [(0, .v (ssl eI indices)), (1, .v (iT n1)), (7, .v (ssl eI indices)), (8, .v (iT (indices.length : Int))), (9, .v (iT x_1)), (31, .v (.bool y))])) ((if ¬ (o5 = true) then
  some true
  else
  (jn (QN (fun (y : Bool) => [(0, .v (ssl eI indices)), (1, .v (iT n1)), (7, .v (ssl eI indices)), (8, .v (iT (indices.length : Int))), (9, .v (iT x_1)), (31, .v (.bool y))])) ((if x_1 > 0 then
  (ix indices (w64 (x_1 - 1))).bind fun v_13 =>
  some (decide (v_13 >= v_3))
  else
  some false) : Option (Bool))).bind fun x_10 =>
  some x_10) : Option (Bool))).bind fun x_7 =>
  if x_7 = true then
  some (.inr (.inr false))
  else
  some (.inl (w64 (x_1 + 1)))
  else
  some (.inr (.inl ())) : Int -> Option (Int ⊕ (Unit ⊕ Bool)))) (by exact go)
instance i93 : Rn cx (f93 indices n1) 93 [(ssl eI indices), (iT n1)] (fun (r : Bool) => (.bool r)) (fun r => []) := Rn.o rfl (by unfold f93; exact go)
instance : Io0 cx 93 := ⟨rfl⟩
instance i206_0 {s0 : (List Atom)} {g_f : Nat} {cp_f : List T} {f : Atom -> Option Bool} [hp_f : ∀ x0, Rn cx (f x0) g_f ((.agg [(iT x0.Relation), (ssl eI x0.Terms)]) :: cp_f) (fun o => (.bool o)) (fun _ => [])] [Io0 cx g_f] : Lp cx (f206_0 s0 f) 19 L206_0 (fun (zs : Int) => [(0, .v (ssl eAtom s0)), (1, .v (.fn g_f cp_f)), (7, .v (iT (s0.length : Int))), (8, .v (iT zs))]) (QO (QX 0 (fun (y : Unit) => [])) (QR (fun (y : Int) => [(4, .v (iT y))]))) := Lp.of (by unfold f206_0; exact go)
instance i206 {s0 : (List Atom)} {g_f : Nat} {cp_f : List T} {f : Atom -> Option Bool} [hp_f : ∀ x0, Rn cx (f x0) g_f ((.agg [(iT x0.Relation), (ssl eI x0.Terms)]) :: cp_f) (fun o => (.bool o)) (fun _ => [])] [Io0 cx g_f] : Rn cx (f206 s0 f) 206 [(ssl eAtom s0), (.fn g_f cp_f)] (fun (r : Int) => (iT r)) (fun r => []) := Rn.o rfl (by unfold f206; exact go)
instance : Io0 cx 206 := ⟨rfl⟩
instance i165 {s0 : (List Atom)} {g_f : Nat} {cp_f : List T} {f : Atom -> Option Bool} [hp_f : ∀ x0, Rn cx (f x0) g_f ((.agg [(iT x0.Relation), (ssl eI x0.Terms)]) :: cp_f) (fun o => (.bool o)) (fun _ => [])] [Io0 cx g_f] : Rn cx (f165 s0 f) 165 [(ssl eAtom s0), (.fn g_f cp_f)] (fun (r : Bool) => (.bool r)) (fun r => []) := Rn.o rfl (by unfold f165; exact go)
instance : Io0 cx 165 := ⟨rfl⟩
instance i166 {own : Atom} {c : Atom} : Rn cx (f166 own c) 166 [(.agg [(iT own.Relation), (ssl eI own.Terms)]), (.ptr false [(iT c.Relation), (ssl eI c.Terms)])] (fun (r : Bool) => (.bool r)) (fun r => []) := Rn.o rfl (by unfold f166; exact go)
instance : Io0 cx 166 := ⟨rfl⟩
theorem r169 {n : Int} {r : Nat} (h : f169 n = some r) : VJx cx (.ca 169 [.nils, .int .i64 n] (.sl true true 1 r []) []) := by
 exact ca_grow (zs := [.int .i64 (0)]) (zt := [(iT 0)]) rfl rfl rfl rfl (by decide) (by decide) h
instance i169 {n : Int} : Rn cx (f169 n) 169 [.nils, .int .i64 n] (fun r => .sl true true 1 r []) (fun _ => []) := ⟨fun _ h => r169 h⟩
end
end Go.Proofs.YtjfeimhiiomgoaaGreatH
