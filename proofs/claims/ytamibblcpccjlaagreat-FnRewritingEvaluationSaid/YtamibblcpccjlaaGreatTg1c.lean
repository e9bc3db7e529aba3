import Derived.Test.YtamibblcpccjlaaGreatTg1b
set_option maxHeartbeats 2000000
set_option linter.unusedVariables false
set_option linter.unusedSimpArgs false
set_option linter.defProp false
set_option linter.unusedSectionVars false
set_option maxRecDepth 100000
namespace Go.Proofs.YtamibblcpccjlaaGreatH
open Go
noncomputable section
instance i176_3 {q : Query} {k : Int} {o9 : (List Int)} {n_12 : Int} {i_15 : Int} {o19 : (List Int)} {met_33 : Bool} : Lp cx (lw (q, k, n_12, i_15) (f176_3 o9 o19 met_33)) 96 L176_3 (fun (zs : (List Int) × Int) => [(2, .v (iT k)), (4, .v (.ptr true [(iT q.VariableCount), (ssl eAtom q.Atoms), (ssl eI q.Free)])), (7, .v (osl eI true zs.1)), (8, .v (osl eI true o9)), (9, .v (iT n_12)), (10, .v (iT i_15)), (11, .v (osl eI true o19)), (12, .v (.bool met_33)), (14, .v (iT zs.2))]) (QX 6 (fun (y : (List Int)) => [(2, .v (iT k)), (4, .v (.ptr true [(iT q.VariableCount), (ssl eAtom q.Atoms), (ssl eI q.Free)])), (7, .v (osl eI true y)), (8, .v (osl eI true o9)), (9, .v (iT n_12)), (10, .v (iT i_15))])) := Lp.of (f := (fun
 | (out_34, j_35) =>
  (jn (QN (fun (y : Bool) => [(2, .v (iT k)), (4, .v (.ptr true [(iT q.VariableCount), (ssl eAtom q.Atoms), (ssl eI q.Free)])), (7, .v (osl eI true out_34)), (8, .v (osl eI true o9)), (9, .v (iT n_12)), (10, .v (iT i_15)), (11, .v (osl eI true o19)), (12, .v (.bool met_33)), (14, .v (iT j_35)), (78, .v (.bool y))])) ((if j_35 < (o19.length : Int) then
  some met_33
  else
  some false) : Option (Bool))).bind fun x_36 =>
  if x_36 = true then
  (ix o19 j_35).bind fun v_40 =>
  (f80 o9 v_40).bind fun o42 =>
  (jn (QN (fun (y : (List Int)) => [(2, .v (iT k)), (4, .v (.ptr true [(iT q.VariableCount), (ssl eAtom q.Atoms), (ssl eI q.Free)])), (7, .v (osl eI true y)), (8, .v (osl eI true o9)), (9, .v (iT n_12)), (10, .v (iT i_15)), (11, .v (osl eI true o19)), (12, .v (.bool met_33)), (14, .v (iT j_35))])) ((if ¬ (o42 = true) then
  sn 6 93 (osl eI true ([v_40])) <| 
  (f151 out_34 ([v_40])).bind fun o47 =>
  some o47
  else
  some out_34) : Option (List Int))).bind fun out_49 =>
  some (.inl (out_49, w64 (j_35 + 1)))
  else
  some (.inr out_34) : (List Int) × Int → Option (((List Int) × Int) ⊕ (List Int)))) (by exact go)
instance i176_1 {q : Query} {k : Int} {o9 : (List Int)} {n_12 : Int} : Lp cx (lw n_12 (f176_1 q k o9)) 96 L176_1 (fun (zs : (List Int) × Int) => [(2, .v (iT k)), (4, .v (.ptr true [(iT q.VariableCount), (ssl eAtom q.Atoms), (ssl eI q.Free)])), (7, .v (osl eI true zs.1)), (8, .v (osl eI true o9)), (9, .v (iT n_12)), (10, .v (iT zs.2))]) (QX 2 (fun (y : (List Int)) => [(2, .v (iT k)), (4, .v (.ptr true [(iT q.VariableCount), (ssl eAtom q.Atoms), (ssl eI q.Free)])), (7, .v (osl eI true y)), (8, .v (osl eI true o9)), (9, .v (iT n_12))])) := Lp.of (f := (fun
 | (out_14, i_15) =>
  if i_15 < (q.Atoms.length : Int) then
  (ix q.Atoms i_15).bind fun v_17 =>
  (f41 v_17).bind fun o19 =>
  (iter (lw (q, k, o9, n_12, i_15)  (f176_2 out_14 o19)) ((decide (i_15 = k)), 0)).bind fun met_33 =>
  (iter (lw (q, k, n_12, i_15)  (f176_3 o9 o19 met_33)) (out_14, 0)).bind fun out_52 =>
  some (.inl (out_52, w64 (i_15 + 1)))
  else
  some (.inr out_14) : (List Int) × Int → Option (((List Int) × Int) ⊕ (List Int)))) (by exact go)
instance i176_0 {q : Query} {k : Int} {o9 : (List Int)} : Lp cx (f176_0 q k o9) 96 L176_0 (fun (zs : (List Int) × Int) => [(2, .v (iT k)), (4, .v (.ptr true [(iT q.VariableCount), (ssl eAtom q.Atoms), (ssl eI q.Free)])), (7, .v (osl eI true zs.1)), (8, .v (osl eI true o9)), (9, .v (iT zs.2))]) (QX 0 (fun (y : (List Int)) => [(7, .v (osl eI true y))])) := Lp.of (f := (fun
 | (out_11, n_12) =>
  if n_12 ≤ (q.Atoms.length : Int) then
  (iter (lw n_12  (f176_1 q k o9)) (out_11, 0)).bind fun out_55 =>
  some (.inl (out_55, w64 (n_12 + 1)))
  else
  some (.inr out_11) : (List Int) × Int → Option (((List Int) × Int) ⊕ (List Int)))) (by exact go)
instance i176 {l : (List Relation)} {q : Query} {k : Int} : Rn cx (f176 l q k) 176 [(ssl eRelation l), (.agg [(iT q.VariableCount), (ssl eAtom q.Atoms), (ssl eI q.Free)]), (iT k)] (fun (r : (List Int)) => (osl eI true r)) (fun r => []) := Rn.o (e := (
  sn 4 7 (osl eI true ([])) <| 
  (f93 l q).bind fun o1 =>
  (jn (QN (fun (y : Bool) => [(0, .v (ssl eRelation l)), (2, .v (iT k)), (4, .v (.ptr true [(iT q.VariableCount), (ssl eAtom q.Atoms), (ssl eI q.Free)])), (7, .v (osl eI true ([]))), (28, .v (.bool y))])) ((if ¬ (o1 = true) then
  some true
  else
  (f38 k 0 (w64 ((q.Atoms.length : Int) - 1))).bind fun o6 =>
  some (decide (¬ (o6 = true)))) : Option (Bool))).bind fun x_3 =>
  if x_3 = true then
  some ([])
  else
  (f187 l q k).bind fun o9 =>
  (iter (f176_0 q k o9) ([], 0)).bind fun out_58 =>
  some out_58 : Option (List Int))) rfl (by exact go)
instance : Io0 cx 176 := ⟨rfl⟩
instance i145_0 {o17 : (List Int)} {o21 : (List Int)} : Lp cx (f145_0 o17 o21) 61 L145_0 (fun (zs : Int) => [(9, .v (osl eI true o17)), (10, .v (osl eI true o21)), (11, .v (iT zs))]) (QO (QX 0 (fun (y : Unit) => [])) (QR (fun (y : Bool) => [(8, .v (.bool y))]))) := Lp.of (by unfold f145_0; exact go)
instance i145 {l : (List Relation)} {q : Query} {i : Int} {k : Int} : Rn cx (f145 l q i k) 145 [(ssl eRelation l), (.agg [(iT q.VariableCount), (ssl eAtom q.Atoms), (ssl eI q.Free)]), (iT i), (iT k)] (fun (r : Bool) => (.bool r)) (fun r => []) := Rn.o (e := (
  (f93 l q).bind fun o1 =>
  (jn (QN (fun (y : Bool) => [(0, .v (ssl eRelation l)), (2, .v (iT i)), (3, .v (iT k)), (5, .v (.ptr true [(iT q.VariableCount), (ssl eAtom q.Atoms), (ssl eI q.Free)])), (38, .v (.bool y))])) ((if ¬ (o1 = true) then
  some true
  else
  (f38 i 0 (w64 ((q.Atoms.length : Int) - 1))).bind fun o6 =>
  (jn (QN (fun (y : Bool) => [(0, .v (ssl eRelation l)), (2, .v (iT i)), (3, .v (iT k)), (5, .v (.ptr true [(iT q.VariableCount), (ssl eAtom q.Atoms), (ssl eI q.Free)])), (38, .v (.bool y))])) ((if ¬ (o6 = true) then
  some true
  else
  (f38 k 0 (w64 ((q.Atoms.length : Int) - 1))).bind fun o11 =>
  (jn (QN (fun (y : Bool) => [(0, .v (ssl eRelation l)), (2, .v (iT i)), (3, .v (iT k)), (5, .v (.ptr true [(iT q.VariableCount), (ssl eAtom q.Atoms), (ssl eI q.Free)])), (38, .v (.bool y))])) ((if ¬ (o11 = true) then
  some true
  else
  some (decide (i = k))) : Option (Bool))).bind fun x_13 =>
  some x_13) : Option (Bool))).bind fun x_8 =>
  some x_8) : Option (Bool))).bind fun x_3 =>
  if x_3 = true then
  some false
  else
  (f176 l q i).bind fun o17 =>
  (ix q.Atoms k).bind fun v_19 =>
  (f41 v_19).bind fun o21 =>
  (iter (f145_0 o17 o21) 0).bind fun o => match o with
  | .inl _ =>
  some false
  | .inr x_32 =>
  some x_32 : Option Bool)) rfl (by exact go)
instance : Io0 cx 145 := ⟨rfl⟩
instance i177 {l : (List Relation)} {q : Query} {from2 : (List Int)} {to : (List Int)} : Rn cx (f177 l q from2 to) 177 [(ssl eRelation l), (.agg [(iT q.VariableCount), (ssl eAtom q.Atoms), (ssl eI q.Free)]), (ssl eI from2), (ssl eI to)] (fun (r : Bool) => (.bool r)) (fun r => []) := Rn.o (e := (
  (f93 l q).bind fun o1 =>
  (jn (QN (fun (y : Bool) => [(8, .v (.bool y))])) ((if o1 = true then
  (f188 l q (-1) from2).bind fun o6 =>
  (f39 o6 to).bind fun o8 =>
  some o8
  else
  some false) : Option (Bool))).bind fun x_3 =>
  some x_3 : Option Bool)) rfl (by exact go)
instance : Io0 cx 177 := ⟨rfl⟩
instance i146 {l : (List Relation)} {q : Query} {i : Int} {k : Int} : Rn cx (f146 l q i k) 146 [(ssl eRelation l), (.agg [(iT q.VariableCount), (ssl eAtom q.Atoms), (ssl eI q.Free)]), (iT i), (iT k)] (fun (r : Bool) => (.bool r)) (fun r => []) := Rn.o (e := (
  (f145 l q i k).bind fun o1 =>
  (jn (QN (fun (y : Bool) => [(0, .v (ssl eRelation l)), (8, .v (.bool y))])) ((if o1 = true then
  (ix q.Atoms i).bind fun v_6 =>
  (ix q.Atoms k).bind fun v_8 =>
  (f40 l v_6).bind fun o10 =>
  (f40 l v_8).bind fun o12 =>
  (f177 l q o10 o12).bind fun o14 =>
  some o14
  else
  some false) : Option (Bool))).bind fun x_3 =>
  some x_3 : Option Bool)) rfl (by exact go)
instance : Io0 cx 146 := ⟨rfl⟩
instance i147_2 {l : (List Relation)} {q : Query} {i : Int} {k : Int} {n_17 : Int} {a_20 : Int} : Lp cx (lw (k, n_17) (f147_2 l q i a_20)) 83 L147_2 (fun (zs : (List Bool) × Int) => [(0, .v (ssl eRelation l)), (2, .v (iT i)), (3, .v (iT k)), (5, .v (.ptr true [(iT q.VariableCount), (ssl eAtom q.Atoms), (ssl eI q.Free)])), (9, .v (osl eB true zs.1)), (10, .v (iT n_17)), (11, .v (iT a_20)), (12, .v (iT zs.2))]) (QX 4 (fun (y : (List Bool)) => [(0, .v (ssl eRelation l)), (2, .v (iT i)), (3, .v (iT k)), (5, .v (.ptr true [(iT q.VariableCount), (ssl eAtom q.Atoms), (ssl eI q.Free)])), (9, .v (osl eB true y)), (10, .v (iT n_17)), (11, .v (iT a_20))])) := Lp.of (f := (fun
 | (met_22, b_23) =>
  if b_23 < (q.Atoms.length : Int) then
  (jn (QN (fun (y : Bool) => [(0, .v (ssl eRelation l)), (2, .v (iT i)), (3, .v (iT k)), (5, .v (.ptr true [(iT q.VariableCount), (ssl eAtom q.Atoms), (ssl eI q.Free)])), (9, .v (osl eB true met_22)), (10, .v (iT n_17)), (11, .v (iT a_20)), (12, .v (iT b_23)), (75, .v (.bool y))])) ((if a_20 = i then
  (f145 l q a_20 b_23).bind fun o28 =>
  some o28
  else
  (ix met_22 a_20).bind fun v_30 =>
  (jn (QN (fun (y : Bool) => [(0, .v (ssl eRelation l)), (2, .v (iT i)), (3, .v (iT k)), (5, .v (.ptr true [(iT q.VariableCount), (ssl eAtom q.Atoms), (ssl eI q.Free)])), (9, .v (osl eB true met_22)), (10, .v (iT n_17)), (11, .v (iT a_20)), (12, .v (iT b_23)), (75, .v (.bool y))])) ((if v_30 = true then
  (f145 l q a_20 b_23).bind fun o35 =>
  some o35
  else
  some false) : Option (Bool))).bind fun x_32 =>
  some x_32) : Option (Bool))).bind fun x_25 =>
  (jn (QN (fun (y : (List Bool)) => [(0, .v (ssl eRelation l)), (2, .v (iT i)), (3, .v (iT k)), (5, .v (.ptr true [(iT q.VariableCount), (ssl eAtom q.Atoms), (ssl eI q.Free)])), (9, .v (osl eB true y)), (10, .v (iT n_17)), (11, .v (iT a_20)), (12, .v (iT b_23))])) ((if x_25 = true then
  (ix met_22 b_23).bind fun v_40 =>
  some (met_22.set b_23.toNat true)
  else
  some met_22) : Option (List Bool))).bind fun met_43 =>
  some (.inl (met_43, w64 (b_23 + 1)))
  else
  some (.inr met_22) : (List Bool) × Int → Option (((List Bool) × Int) ⊕ (List Bool)))) (by exact go)
instance i147_1 {l : (List Relation)} {q : Query} {i : Int} {k : Int} {n_17 : Int} : Lp cx (lw (k, n_17) (f147_1 l q i)) 83 L147_1 (fun (zs : (List Bool) × Int) => [(0, .v (ssl eRelation l)), (2, .v (iT i)), (3, .v (iT k)), (5, .v (.ptr true [(iT q.VariableCount), (ssl eAtom q.Atoms), (ssl eI q.Free)])), (9, .v (osl eB true zs.1)), (10, .v (iT n_17)), (11, .v (iT zs.2))]) (QX 2 (fun (y : (List Bool)) => [(0, .v (ssl eRelation l)), (2, .v (iT i)), (3, .v (iT k)), (5, .v (.ptr true [(iT q.VariableCount), (ssl eAtom q.Atoms), (ssl eI q.Free)])), (9, .v (osl eB true y)), (10, .v (iT n_17))])) := Lp.of (f := (fun
 | (met_19, a_20) =>
  if a_20 < (q.Atoms.length : Int) then
  (iter (lw (k, n_17)  (f147_2 l q i a_20)) (met_19, 0)).bind fun met_46 =>
  some (.inl (met_46, w64 (a_20 + 1)))
  else
  some (.inr met_19) : (List Bool) × Int → Option (((List Bool) × Int) ⊕ (List Bool)))) (by exact go)
instance i147_0 {l : (List Relation)} {q : Query} {i : Int} {k : Int} : Lp cx (lw k (f147_0 l q i)) 83 L147_0 (fun (zs : (List Bool) × Int) => [(0, .v (ssl eRelation l)), (2, .v (iT i)), (3, .v (iT k)), (5, .v (.ptr true [(iT q.VariableCount), (ssl eAtom q.Atoms), (ssl eI q.Free)])), (9, .v (osl eB true zs.1)), (10, .v (iT zs.2))]) (QX 0 (fun (y : (List Bool)) => [(3, .v (iT k)), (9, .v (osl eB true y))])) := Lp.of (f := (fun
 | (met_16, n_17) =>
  if n_17 ≤ (q.Atoms.length : Int) then
  (iter (lw (k, n_17)  (f147_1 l q i)) (met_16, 0)).bind fun met_49 =>
  some (.inl (met_49, w64 (n_17 + 1)))
  else
  some (.inr met_16) : (List Bool) × Int → Option (((List Bool) × Int) ⊕ (List Bool)))) (by exact go)
instance i147 {l : (List Relation)} {q : Query} {i : Int} {k : Int} : Rn cx (f147 l q i k) 147 [(ssl eRelation l), (.agg [(iT q.VariableCount), (ssl eAtom q.Atoms), (ssl eI q.Free)]), (iT i), (iT k)] (fun (r : Bool) => (.bool r)) (fun r => []) := Rn.o (e := (
  (f93 l q).bind fun o1 =>
  (jn (QN (fun (y : Bool) => [(0, .v (ssl eRelation l)), (2, .v (iT i)), (3, .v (iT k)), (5, .v (.ptr true [(iT q.VariableCount), (ssl eAtom q.Atoms), (ssl eI q.Free)])), (34, .v (.bool y))])) ((if ¬ (o1 = true) then
  some true
  else
  (f38 i 0 (w64 ((q.Atoms.length : Int) - 1))).bind fun o6 =>
  (jn (QN (fun (y : Bool) => [(0, .v (ssl eRelation l)), (2, .v (iT i)), (3, .v (iT k)), (5, .v (.ptr true [(iT q.VariableCount), (ssl eAtom q.Atoms), (ssl eI q.Free)])), (34, .v (.bool y))])) ((if ¬ (o6 = true) then
  some true
  else
  (f38 k 0 (w64 ((q.Atoms.length : Int) - 1))).bind fun o11 =>
  some (decide (¬ (o11 = true)))) : Option (Bool))).bind fun x_8 =>
  some x_8) : Option (Bool))).bind fun x_3 =>
  if x_3 = true then
  some false
  else
  (mkl 1 (q.Atoms.length : Int) false).bind fun l_14 =>
  sn 5 9 (osl eB true l_14) <| 
  (iter (lw k  (f147_0 l q i)) (l_14, 0)).bind fun met_52 =>
  (ix met_52 k).bind fun v_53 =>
  some v_53 : Option Bool)) rfl (by exact go)
instance : Io0 cx 147 := ⟨rfl⟩
instance i148_0 {l : (List Relation)} {q : Query} : Lp cx (f148_0 l q) 18 L148_0 (fun (zs : Int) => [(0, .v (ssl eRelation l)), (3, .v (.ptr true [(iT q.VariableCount), (ssl eAtom q.Atoms), (ssl eI q.Free)])), (5, .v (iT zs))]) (QO (QX 0 (fun (y : Unit) => [])) (QR (fun (y : Bool) => [(4, .v (.bool y))]))) := Lp.of (by unfold f148_0; exact go)
instance i148 {l : (List Relation)} {q : Query} : Rn cx (f148 l q) 148 [(ssl eRelation l), (.agg [(iT q.VariableCount), (ssl eAtom q.Atoms), (ssl eI q.Free)])] (fun (r : Bool) => (.bool r)) (fun r => []) := Rn.o rfl (by unfold f148; exact go)
instance : Io0 cx 148 := ⟨rfl⟩
instance i104_1 {l : (List Relation)} {q : Query} {i_4 : Int} : Lp cx (f104_1 l q i_4) 48 L104_1 (fun (zs : Int) => [(0, .v (ssl eRelation l)), (3, .v (.ptr true [(iT q.VariableCount), (ssl eAtom q.Atoms), (ssl eI q.Free)])), (5, .v (iT i_4)), (6, .v (iT zs))]) (QO (QX 2 (fun (y : Unit) => [(0, .v (ssl eRelation l)), (3, .v (.ptr true [(iT q.VariableCount), (ssl eAtom q.Atoms), (ssl eI q.Free)])), (5, .v (iT i_4))])) (QR (fun (y : Int) => [(4, .v (iT y))]))) := Lp.of (f := (fun
 | k_6 =>
  if k_6 < (q.Atoms.length : Int) then
  (f145 l q i_4 k_6).bind fun o8 =>
  (jn (QN (fun (y : Bool) => [(0, .v (ssl eRelation l)), (3, .v (.ptr true [(iT q.VariableCount), (ssl eAtom q.Atoms), (ssl eI q.Free)])), (5, .v (iT i_4)), (6, .v (iT k_6)), (44, .v (.bool y))])) ((if o8 = true then
  (f146 l q i_4 k_6).bind fun o13 =>
  (jn (QN (fun (y : Bool) => [(0, .v (ssl eRelation l)), (3, .v (.ptr true [(iT q.VariableCount), (ssl eAtom q.Atoms), (ssl eI q.Free)])), (5, .v (iT i_4)), (6, .v (iT k_6)), (44, .v (.bool y))])) ((if ¬ (o13 = true) then
  (f147 l q k_6 i_4).bind fun o18 =>
  some o18
  else
  some false) : Option (Bool))).bind fun x_15 =>
  some x_15
  else
  some false) : Option (Bool))).bind fun x_10 =>
  if x_10 = true then
  some (.inr (.inr 3))
  else
  some (.inl (w64 (k_6 + 1)))
  else
  some (.inr (.inl ())) : Int → Option (Int ⊕ (Unit ⊕ Int)))) (by exact go)
instance i104_0 {l : (List Relation)} {q : Query} : Lp cx (f104_0 l q) 48 L104_0 (fun (zs : Int) => [(0, .v (ssl eRelation l)), (3, .v (.ptr true [(iT q.VariableCount), (ssl eAtom q.Atoms), (ssl eI q.Free)])), (5, .v (iT zs))]) (QO (QX 0 (fun (y : Unit) => [(0, .v (ssl eRelation l)), (3, .v (.ptr true [(iT q.VariableCount), (ssl eAtom q.Atoms), (ssl eI q.Free)]))])) (QR (fun (y : Int) => [(4, .v (iT y))]))) := Lp.of (by unfold f104_0; exact go)
instance i104 {l : (List Relation)} {q : Query} : Rn cx (f104 l q) 104 [(ssl eRelation l), (.agg [(iT q.VariableCount), (ssl eAtom q.Atoms), (ssl eI q.Free)])] (fun (r : Int) => (iT r)) (fun r => []) := Rn.o rfl (by unfold f104; exact go)
instance : Io0 cx 104 := ⟨rfl⟩
instance i178_0 {a : (List Int)} {b : (List Int)} {not : (List Int)} : Lp cx (f178_0 a b not) 29 L178_0 (fun (zs : Int) => [(0, .v (ssl eI a)), (1, .v (ssl eI b)), (2, .v (ssl eI not)), (7, .v (iT zs))]) (QO (QX 0 (fun (y : Unit) => [])) (QR (fun (y : Bool) => [(6, .v (.bool y))]))) := Lp.of (f := (fun
 | i_1 =>
  if i_1 < (a.length : Int) then
  (ix a i_1).bind fun v_3 =>
  (f80 b v_3).bind fun o5 =>
  (jn (QN (fun (y : Bool) => [(0, .v (ssl eI a)), (1, .v (ssl eI b)), (2, .v (ssl eI not)), (7, .v (iT i_1)), (28, .v (.bool y))])) ((if o5 = true then
  (f80 not v_3).bind fun o10 =>
  some (decide (¬ (o10 = true)))
  else
  some false) : Option (Bool))).bind fun x_7 =>
  if x_7 = true then
  some (.inr (.inr true))
  else
  some (.inl (w64 (i_1 + 1)))
  else
  some (.inr (.inl ())) : Int → Option (Int ⊕ (Unit ⊕ Bool)))) (by exact go)
instance i178 {a : (List Int)} {b : (List Int)} {not : (List Int)} : Rn cx (f178 a b not) 178 [(ssl eI a), (ssl eI b), (ssl eI not)] (fun (r : Bool) => (.bool r)) (fun r => []) := Rn.o rfl (by unfold f178; exact go)
instance : Io0 cx 178 := ⟨rfl⟩
instance i149_2 {l : (List Relation)} {q : Query} {i : Int} {k : Int} {n_9 : Int} : Lp cx (lw (k, n_9) (f149_2 l q i)) 120 L149_2 (fun (zs : (List Int) × Int) => [(0, .v (ssl eRelation l)), (2, .v (iT i)), (3, .v (iT k)), (5, .v (.ptr true [(iT q.VariableCount), (ssl eAtom q.Atoms), (ssl eI q.Free)])), (9, .v (osl eI true zs.1)), (10, .v (iT n_9)), (11, .v (iT zs.2))]) (QX 2 (fun (y : (List Int)) => [(0, .v (ssl eRelation l)), (2, .v (iT i)), (3, .v (iT k)), (5, .v (.ptr true [(iT q.VariableCount), (ssl eAtom q.Atoms), (ssl eI q.Free)])), (9, .v (osl eI true y)), (10, .v (iT n_9))])) := Lp.of (f := (fun
 | (plus_11, j_12) =>
  if j_12 < (q.Atoms.length : Int) then
  (jn (QN (fun (y : Bool) => [(0, .v (ssl eRelation l)), (2, .v (iT i)), (3, .v (iT k)), (5, .v (.ptr true [(iT q.VariableCount), (ssl eAtom q.Atoms), (ssl eI q.Free)])), (9, .v (osl eI true plus_11)), (10, .v (iT n_9)), (11, .v (iT j_12)), (56, .v (.bool y))])) ((if j_12 ≠ i then
  (ix q.Atoms j_12).bind fun v_17 =>
  (f40 l v_17).bind fun o19 =>
  (f39 plus_11 o19).bind fun o21 =>
  some o21
  else
  some false) : Option (Bool))).bind fun x_14 =>
  (jn (QN (fun (y : (List Int)) => [(0, .v (ssl eRelation l)), (2, .v (iT i)), (3, .v (iT k)), (5, .v (.ptr true [(iT q.VariableCount), (ssl eAtom q.Atoms), (ssl eI q.Free)])), (9, .v (osl eI true y)), (10, .v (iT n_9)), (11, .v (iT j_12))])) ((if x_14 = true then
  (ix q.Atoms j_12).bind fun v_26 =>
  (f41 v_26).bind fun o28 =>
  (f151 plus_11 o28).bind fun o30 =>
  some o30
  else
  some plus_11) : Option (List Int))).bind fun plus_32 =>
  some (.inl (plus_32, w64 (j_12 + 1)))
  else
  some (.inr plus_11) : (List Int) × Int → Option (((List Int) × Int) ⊕ (List Int)))) (by exact go)
instance i149_0 {l : (List Relation)} {q : Query} {i : Int} {k : Int} : Lp cx (lw k (f149_0 l q i)) 120 L149_0 (fun (zs : (List Int) × Int) => [(0, .v (ssl eRelation l)), (2, .v (iT i)), (3, .v (iT k)), (5, .v (.ptr true [(iT q.VariableCount), (ssl eAtom q.Atoms), (ssl eI q.Free)])), (9, .v (osl eI true zs.1)), (10, .v (iT zs.2))]) (QX 0 (fun (y : (List Int)) => [(2, .v (iT i)), (3, .v (iT k)), (5, .v (.ptr true [(iT q.VariableCount), (ssl eAtom q.Atoms), (ssl eI q.Free)])), (9, .v (osl eI true y))])) := Lp.of (f := (fun
 | (plus_8, n_9) =>
  if n_9 < (q.Atoms.length : Int) then
  (iter (lw (k, n_9)  (f149_2 l q i)) (plus_8, 0)).bind fun plus_35 =>
  some (.inl (plus_35, w64 (n_9 + 1)))
  else
  some (.inr plus_8) : (List Int) × Int → Option (((List Int) × Int) ⊕ (List Int)))) (by exact go)
instance i149_4 {q : Query} {k : Int} {plus_38 : (List Int)} {n_40 : Int} {a_43 : Int} : Lp cx (lw (k, n_40) (f149_4 q plus_38 a_43)) 120 L149_4 (fun (zs : (List Int) × Int) => [(3, .v (iT k)), (5, .v (.ptr true [(iT q.VariableCount), (ssl eAtom q.Atoms), (ssl eI q.Free)])), (9, .v (osl eI true plus_38)), (12, .v (osl eI true zs.1)), (13, .v (iT n_40)), (14, .v (iT a_43)), (15, .v (iT zs.2))]) (QX 8 (fun (y : (List Int)) => [(3, .v (iT k)), (5, .v (.ptr true [(iT q.VariableCount), (ssl eAtom q.Atoms), (ssl eI q.Free)])), (9, .v (osl eI true plus_38)), (12, .v (osl eI true y)), (13, .v (iT n_40)), (14, .v (iT a_43))])) := Lp.of (f := (fun
 | (met_45, b_46) =>
  if b_46 < (q.Atoms.length : Int) then
  (f80 met_45 a_43).bind fun o48 =>
  (jn (QN (fun (y : Bool) => [(3, .v (iT k)), (5, .v (.ptr true [(iT q.VariableCount), (ssl eAtom q.Atoms), (ssl eI q.Free)])), (9, .v (osl eI true plus_38)), (12, .v (osl eI true met_45)), (13, .v (iT n_40)), (14, .v (iT a_43)), (15, .v (iT b_46)), (112, .v (.bool y))])) ((if o48 = true then
  (f80 met_45 b_46).bind fun o53 =>
  (jn (QN (fun (y : Bool) => [(3, .v (iT k)), (5, .v (.ptr true [(iT q.VariableCount), (ssl eAtom q.Atoms), (ssl eI q.Free)])), (9, .v (osl eI true plus_38)), (12, .v (osl eI true met_45)), (13, .v (iT n_40)), (14, .v (iT a_43)), (15, .v (iT b_46)), (112, .v (.bool y))])) ((if ¬ (o53 = true) then
  (ix q.Atoms a_43).bind fun v_58 =>
  (ix q.Atoms b_46).bind fun v_60 =>
  (f41 v_58).bind fun o62 =>
  (f41 v_60).bind fun o64 =>
  (f178 o62 o64 plus_38).bind fun o66 =>
  some o66
  else
  some false) : Option (Bool))).bind fun x_55 =>
  some x_55
  else
  some false) : Option (Bool))).bind fun x_50 =>
  (jn (QN (fun (y : (List Int)) => [(3, .v (iT k)), (5, .v (.ptr true [(iT q.VariableCount), (ssl eAtom q.Atoms), (ssl eI q.Free)])), (9, .v (osl eI true plus_38)), (12, .v (osl eI true y)), (13, .v (iT n_40)), (14, .v (iT a_43)), (15, .v (iT b_46))])) ((if x_50 = true then
  (app 8 met_45 ([b_46])).bind fun l_71 =>
  some l_71
  else
  some met_45) : Option (List Int))).bind fun met_73 =>
  some (.inl (met_73, w64 (b_46 + 1)))
  else
  some (.inr met_45) : (List Int) × Int → Option (((List Int) × Int) ⊕ (List Int)))) (by exact go)
instance i149_3 {q : Query} {k : Int} {plus_38 : (List Int)} {n_40 : Int} : Lp cx (lw (k, n_40) (f149_3 q plus_38)) 120 L149_3 (fun (zs : (List Int) × Int) => [(3, .v (iT k)), (5, .v (.ptr true [(iT q.VariableCount), (ssl eAtom q.Atoms), (ssl eI q.Free)])), (9, .v (osl eI true plus_38)), (12, .v (osl eI true zs.1)), (13, .v (iT n_40)), (14, .v (iT zs.2))]) (QX 6 (fun (y : (List Int)) => [(3, .v (iT k)), (5, .v (.ptr true [(iT q.VariableCount), (ssl eAtom q.Atoms), (ssl eI q.Free)])), (9, .v (osl eI true plus_38)), (12, .v (osl eI true y)), (13, .v (iT n_40))])) := Lp.of (f := (fun
 | (met_42, a_43) =>
  if a_43 < (q.Atoms.length : Int) then
  (iter (lw (k, n_40)  (f149_4 q plus_38 a_43)) (met_42, 0)).bind fun met_76 =>
  some (.inl (met_76, w64 (a_43 + 1)))
  else
  some (.inr met_42) : (List Int) × Int → Option (((List Int) × Int) ⊕ (List Int)))) (by exact go)
instance i149_1 {q : Query} {k : Int} {plus_38 : (List Int)} : Lp cx (lw k (f149_1 q plus_38)) 120 L149_1 (fun (zs : (List Int) × Int) => [(3, .v (iT k)), (5, .v (.ptr true [(iT q.VariableCount), (ssl eAtom q.Atoms), (ssl eI q.Free)])), (9, .v (osl eI true plus_38)), (12, .v (osl eI true zs.1)), (13, .v (iT zs.2))]) (QX 4 (fun (y : (List Int)) => [(3, .v (iT k)), (12, .v (osl eI true y))])) := Lp.of (f := (fun
 | (met_39, n_40) =>
  if n_40 < (q.Atoms.length : Int) then
  (iter (lw (k, n_40)  (f149_3 q plus_38)) (met_39, 0)).bind fun met_79 =>
  some (.inl (met_79, w64 (n_40 + 1)))
  else
  some (.inr met_39) : (List Int) × Int → Option (((List Int) × Int) ⊕ (List Int)))) (by exact go)
instance i149 {l : (List Relation)} {q : Query} {i : Int} {k : Int} : Rn cx (f149 l q i k) 149 [(ssl eRelation l), (.agg [(iT q.VariableCount), (ssl eAtom q.Atoms), (ssl eI q.Free)]), (iT i), (iT k)] (fun (r : Bool) => (.bool r)) (fun r => []) := Rn.o (e := (
  if i = k then
  some false
  else
  (ix q.Atoms i).bind fun v_2 =>
  (f40 l v_2).bind fun o4 =>
  (f151 q.Free o4).bind fun o6 =>
  (iter (lw k  (f149_0 l q i)) (o6, 0)).bind fun plus_38 =>
  sn 3 12 (osl eI true ([i])) <| 
  (iter (lw k  (f149_1 q plus_38)) ([i], 0)).bind fun met_82 =>
  (f80 met_82 k).bind fun o83 =>
  some o83 : Option Bool)) rfl (by exact go)
instance : Io0 cx 149 := ⟨rfl⟩
instance i106_1 {l : (List Relation)} {q : Query} {k_1 : Int} : Lp cx (f106_1 l q k_1) 33 L106_1 (fun (zs : Bool × Int) => [(0, .v (ssl eRelation l)), (3, .v (.ptr true [(iT q.VariableCount), (ssl eAtom q.Atoms), (ssl eI q.Free)])), (5, .v (iT k_1)), (6, .v (.bool zs.1)), (7, .v (iT zs.2))]) (QX 2 (fun (y : Bool) => [(0, .v (ssl eRelation l)), (3, .v (.ptr true [(iT q.VariableCount), (ssl eAtom q.Atoms), (ssl eI q.Free)])), (5, .v (iT k_1)), (6, .v (.bool y))])) := Lp.of (f := (fun
 | (is_3, i_4) =>
  if i_4 < (q.Atoms.length : Int) then
  (jn (QN (fun (y : Bool) => [(0, .v (ssl eRelation l)), (3, .v (.ptr true [(iT q.VariableCount), (ssl eAtom q.Atoms), (ssl eI q.Free)])), (5, .v (iT k_1)), (6, .v (.bool y)), (7, .v (iT i_4))])) ((if is_3 = true then
  some true
  else
  (f149 l q i_4 k_1).bind fun o9 =>
  some o9) : Option (Bool))).bind fun is_6 =>
  some (.inl (is_6, w64 (i_4 + 1)))
  else
  some (.inr is_3) : Bool × Int → Option ((Bool × Int) ⊕ Bool))) (by exact go)
instance i106_0 {l : (List Relation)} {q : Query} : Lp cx (f106_0 l q) 33 L106_0 (fun (zs : Int) => [(0, .v (ssl eRelation l)), (3, .v (.ptr true [(iT q.VariableCount), (ssl eAtom q.Atoms), (ssl eI q.Free)])), (5, .v (iT zs))]) (QO (QX 0 (fun (y : Unit) => [])) (QR (fun (y : Int) => [(4, .v (iT y))]))) := Lp.of (by unfold f106_0; exact go)
instance i106 {l : (List Relation)} {q : Query} : Rn cx (f106 l q) 106 [(ssl eRelation l), (.agg [(iT q.VariableCount), (ssl eAtom q.Atoms), (ssl eI q.Free)])] (fun (r : Int) => (iT r)) (fun r => []) := Rn.o rfl (by unfold f106; exact go)
instance : Io0 cx 106 := ⟨rfl⟩
instance i150 {q : Query} {k : Int} : Rn cx (f150 q k) 150 [(.agg [(iT q.VariableCount), (ssl eAtom q.Atoms), (ssl eI q.Free)]), (iT k)] (fun (r : Query) => (.agg [(iT r.VariableCount), (osl eAtom false r.Atoms), (osl eI true r.Free)])) (fun r => []) := Rn.o (e := (
  sn 2 4 (.ptr true [(iT 0), (osl eAtom true ([])), (osl eI true ([]))]) <| 
  (f105 q).bind fun o1 =>
  (f38 k 0 (w64 ((q.Atoms.length : Int) - 1))).bind fun o3 =>
  (jn (QN (fun (y : Int × (List Atom) × (List Int)) => [(4, .v (.ptr true [(iT 0), (osl eAtom true ([])), (osl eI true ([]))])), (5, .v (.ptr true [(iT y.1), (osl eAtom false y.2.1), (osl eI true y.2.2)]))])) ((if o3 = true then
  sn 1 5 (.ptr true [(iT o1.VariableCount), (ssl eAtom o1.Atoms), (osl eI true o1.Free)]) <| 
  (cutL o1.Atoms 0 k).bind fun l_8 =>
  (cutL o1.Atoms (w64 (k + 1)) o1.Atoms.length).bind fun l_10 =>
  (app 32 ([]) l_8).bind fun l_12 =>
  (app 32 l_12 l_10).bind fun l_14 =>
  sn 12 25 (osl eAtom false l_14) <| 
  some (o1.VariableCount, l_14, o1.Free)
  else
  some (o1.VariableCount, o1.Atoms, o1.Free)) : Option (Int × (List Atom) × (List Int)))).bind fun (x_16, x_17, x_18) =>
  some ({ VariableCount := x_16, Atoms := x_17, Free := x_18 } : Query) : Option Query)) rfl (by exact go)
instance : Io0 cx 150 := ⟨rfl⟩
instance i107 {q : Query} {k : Int} : Rn cx (f107 q k) 107 [(.agg [(iT q.VariableCount), (ssl eAtom q.Atoms), (ssl eI q.Free)]), (iT k)] (fun (r : Query) => (.agg [(iT r.VariableCount), (osl eAtom false r.Atoms), (osl eI true r.Free)])) (fun r => []) := Rn.o (e := (
  sn 2 4 (.ptr true [(iT 0), (osl eAtom true ([])), (osl eI true ([]))]) <| 
  (f150 q k).bind fun o1 =>
  (ix q.Atoms k).bind fun v_3 =>
  (f41 v_3).bind fun o5 =>
  (f151 q.Free o5).bind fun o7 =>
  some ({ VariableCount := o1.VariableCount, Atoms := o1.Atoms, Free := o7 } : Query) : Option Query)) rfl (by exact go)
instance : Io0 cx 107 := ⟨rfl⟩
instance i65_1 {l : (List Relation)} {out_6 : (List RewritingStep)} {x_7 : Int} {x_8 : (List Atom)} {x_9 : (List Int)} {o11 : Int} {v_14 : Atom} : Lp cx (lw (out_6, x_7, x_8, o11) (f65_1 l x_9 v_14)) 83 L65_1 (fun (zs : Int × (List Int) × (List Int) × (List Int) × Int) => [(0, .v (ssl eRelation l)), (6, .v (osl eRewritingStep true out_6)), (7, .v (.ptr true [(iT x_7), (ssl eAtom x_8), (osl eI true x_9)])), (8, .v (iT o11)), (9, .v (.ptr true [(iT v_14.Relation), (ssl eI v_14.Terms)])), (10, .v (.ptr true [(iT zs.1), (osl eI true zs.2.1), (osl eI true zs.2.2.1), (osl eI true zs.2.2.2.1)])), (11, .v (iT zs.2.2.2.2))]) (QX 2 (fun (y : Int × (List Int) × (List Int) × (List Int)) => [(0, .v (ssl eRelation l)), (6, .v (osl eRewritingStep true out_6)), (7, .v (.ptr true [(iT x_7), (ssl eAtom x_8), (osl eI true x_9)])), (8, .v (iT o11)), (10, .v (.ptr true [(iT y.1), (osl eI true y.2.1), (osl eI true y.2.2.1), (osl eI true y.2.2.2)]))])) := Lp.of (f := (fun
 | (v_18, v_19, v_20, v_21, j_22) =>
  if j_22 < 4 then
  (jb 3 (QN (fun (y : (List Int) × (List Int)) => [(0, .v (ssl eRelation l)), (6, .v (osl eRewritingStep true out_6)), (7, .v (.ptr true [(iT x_7), (ssl eAtom x_8), (osl eI true x_9)])), (8, .v (iT o11)), (9, .v (.ptr true [(iT v_14.Relation), (ssl eI v_14.Terms)])), (10, .v (.ptr true [(iT v_18), (osl eI true v_19), (osl eI true y.1), (osl eI true y.2)])), (11, .v (iT j_22))])) (((f80 x_9 j_22).bind fun o26 =>
  (jn (QN (fun (y : Bool) => [(0, .v (ssl eRelation l)), (6, .v (osl eRewritingStep true out_6)), (7, .v (.ptr true [(iT x_7), (ssl eAtom x_8), (osl eI true x_9)])), (8, .v (iT o11)), (9, .v (.ptr true [(iT v_14.Relation), (ssl eI v_14.Terms)])), (10, .v (.ptr true [(iT v_18), (osl eI true v_19), (osl eI true v_20), (osl eI true v_21)])), (11, .v (iT j_22)), (57, .v (.bool y))])) ((if o26 = true then
  some true
  else
  (f80 v_14.Terms j_22).bind fun o31 =>
  some (decide (¬ (o31 = true)))) : Option (Bool))).bind fun x_28 =>
  if x_28 = true then
  some (v_20, v_21)
  else
  (f40 l v_14).bind fun o34 =>
  (f80 o34 j_22).bind fun o36 =>
  (jn (QN (fun (y : (List Int) × (List Int)) => [(0, .v (ssl eRelation l)), (6, .v (osl eRewritingStep true out_6)), (7, .v (.ptr true [(iT x_7), (ssl eAtom x_8), (osl eI true x_9)])), (8, .v (iT o11)), (9, .v (.ptr true [(iT v_14.Relation), (ssl eI v_14.Terms)])), (10, .v (.ptr true [(iT v_18), (osl eI true v_19), (osl eI true y.1), (osl eI true y.2)])), (11, .v (iT j_22))])) ((if o36 = true then
  (app 8 v_20 ([j_22])).bind fun l_41 =>
  some (l_41, v_21)
  else
  (app 8 v_21 ([j_22])).bind fun l_43 =>
  some (v_20, l_43)) : Option ((List Int) × (List Int)))).bind fun (v_45, v_46) =>
  some (v_45, v_46)) : Option ((List Int) × (List Int)))).bind fun (v_47, v_48) =>
  some (.inl (v_18, v_19, v_47, v_48, w64 (j_22 + 1)))
  else
  some (.inr (v_18, v_19, v_20, v_21)) : Int × (List Int) × (List Int) × (List Int) × Int → Option ((Int × (List Int) × (List Int) × (List Int) × Int) ⊕ (Int × (List Int) × (List Int) × (List Int))))) (by exact go)
instance i65_0 {l : (List Relation)} : Lp cx (f65_0 l) 83 L65_0 (fun (zs : (List RewritingStep) × Int × (List Atom) × (List Int)) => [(0, .v (ssl eRelation l)), (6, .v (osl eRewritingStep true zs.1)), (7, .v (.ptr true [(iT zs.2.1), (osl eAtom false zs.2.2.1), (osl eI true zs.2.2.2)]))]) (QO (QX 0 (fun (y : (List RewritingStep)) => [(6, .v (osl eRewritingStep true y))])) (QR (fun (y : (List RewritingStep) × Bool) => [(4, .v (osl eRewritingStep true y.1)), (5, .v (.bool y.2))]))) := Lp.of (f := (fun
 | (out_6, x_7, x_8, x_9) =>
  if (x_8.length : Int) > 0 then
  (f106 l ({ VariableCount := x_7, Atoms := x_8, Free := x_9 } : Query)).bind fun o11 =>
  if o11 < 0 then
  sn 3 4 (osl eRewritingStep true ([])) <| 
  some (.inr (.inr ([], false)))
  else
  sn 0 7 (.ptr true [(iT x_7), (ssl eAtom x_8), (osl eI true x_9)]) <| 
  (ix x_8 o11).bind fun v_14 =>
  (app 8 ([]) v_14.Terms).bind fun l_16 =>
  sn 14 40 (osl eI true l_16) <| 
  sn 2 42 (.agg [(iT v_14.Relation), (osl eI true l_16), (osl eI true ([])), (osl eI true ([]))]) <| 
  (iter (lw (out_6, x_7, x_8, o11)  (f65_1 l x_9 v_14)) (v_14.Relation, l_16, [], [], 0)).bind fun (v_51, v_52, v_53, v_54) =>
  (app 80 out_6 ([({ Atom := ({ Relation := v_51, Terms := v_52 } : Atom), Existential := v_53, Universal := v_54 } : RewritingStep)])).bind fun l_55 =>
  sn 5 7 (.ptr true [(iT x_7), (ssl eAtom x_8), (ssl eI x_9)]) <| 
  (f107 ({ VariableCount := x_7, Atoms := x_8, Free := x_9 } : Query) o11).bind fun o57 =>
  some (.inl (l_55, o57.VariableCount, o57.Atoms, o57.Free))
  else
  some (.inr (.inl out_6)) : (List RewritingStep) × Int × (List Atom) × (List Int) → Option (((List RewritingStep) × Int × (List Atom) × (List Int)) ⊕ ((List RewritingStep) ⊕ ((List RewritingStep) × Bool))))) (by exact go)
instance i65 {l : (List Relation)} {q : Query} : Rn cx (f65 l q) 65 [(ssl eRelation l), (.agg [(iT q.VariableCount), (ssl eAtom q.Atoms), (ssl eI q.Free)])] (fun (r : (List RewritingStep) × Bool) => (.tup [(osl eRewritingStep true r.1), (.bool r.2)])) (fun r => []) := Rn.o (e := (
  sn 5 6 (osl eRewritingStep true ([])) <| 
  (f104 l q).bind fun o1 =>
  if o1 ≠ 1 then
  some ([], false)
  else
  (f105 q).bind fun o4 =>
  (iter (f65_0 l) ([], o4.VariableCount, o4.Atoms, o4.Free)).bind fun o => match o with
  | .inl out_61 =>
  some (out_61, true)
  | .inr (x_62, x_63) =>
  some (x_62, x_63) : Option ((List RewritingStep) × Bool))) rfl (by exact go)
instance : Io0 cx 65 := ⟨rfl⟩
instance i22 {c : L1Cur} {l : (List Relation)} : Rn cx (f22 c l) 22 [(.ptr true [(ssl eU c.b), (iT c.i), (iT c.h)]), (ssl eRelation l)] (fun (r : (List RewritingStep) × L1Cur) => (osl eRewritingStep true r.1)) (fun r => [(.ptr true [(ssl eU r.2.b), (iT r.2.i), (iT r.2.h)])]) := Rn.o (e := (
  (f64 c l).bind fun o1 =>
  (f65 l o1.1).bind fun o3 =>
  (jn (QN (fun (y : (List RewritingStep)) => [(0, .v (.ptr true [(ssl eU o1.2.b), (iT o1.2.i), (iT o1.2.h)])), (6, .v (osl eRewritingStep true y))])) ((if ¬ (o3.2 = true) then
  (f66 l ([63, 114, 120, 124, 121, 32, 115, 121, 124, 122])).bind fun o8 =>
  (f65 l o8.1).bind fun o10 =>
  some o10.1
  else
  some o3.1) : Option (List RewritingStep))).bind fun f_12 =>
  (jn (QN (fun (y : (List Int) × Int × Int × Bool) => [(0, .v (.ptr true [(ssl eU y.1), (iT y.2.1), (iT y.2.2.1)])), (6, .v (osl eRewritingStep true f_12)), (37, .v (.bool y.2.2.2))])) ((if (f_12.length : Int) > 0 then
  (f21 o1.2 8).bind fun o19 =>
  some (o19.2.b, o19.2.i, o19.2.h, o19.1)
  else
  some (o1.2.b, o1.2.i, o1.2.h, false)) : Option ((List Int) × Int × Int × Bool))).bind fun (c_13, c_14, c_15, x_16) =>
  (jn (QN (fun (y : (List Int) × Int × Int × (List RewritingStep)) => [(0, .v (.ptr true [(ssl eU y.1), (iT y.2.1), (iT y.2.2.1)])), (6, .v (osl eRewritingStep true y.2.2.2))])) ((if x_16 = true then
  (f20 ({ b := c_13, i := c_14, h := c_15 } : L1Cur) (f_12.length : Int)).bind fun o24 =>
  (f20 o24.2 4).bind fun o26 =>
  (jn (QN (fun (y : (List Int) × Int × Int × (List RewritingStep)) => [(0, .v (.ptr true [(ssl eU y.1), (iT y.2.1), (iT y.2.2.1)])), (6, .v (osl eRewritingStep true y.2.2.2))])) ((if o26.1 = 0 then
  (f20 o26.2 6).bind fun o31 =>
  (ix f_12 o24.1).bind fun v_33 =>
  some (o31.2.b, o31.2.i, o31.2.h, (f_12.set o24.1.toNat ({ Atom := ({ Relation := w64 (o31.1 - 1), Terms := v_33.Atom.Terms } : Atom), Existential := v_33.Existential, Universal := v_33.Universal } : RewritingStep)))
  else
  (jn (QN (fun (y : (List Int) × Int × Int × (List RewritingStep)) => [(0, .v (.ptr true [(ssl eU y.1), (iT y.2.1), (iT y.2.2.1)])), (6, .v (osl eRewritingStep true y.2.2.2))])) ((if o26.1 = 1 then
  (ix f_12 o24.1).bind fun v_39 =>
  sn 8 76 (osl eI true ([4, -11, 2])) <| 
  sn 0 76 (ssl eI ([4, -11, 2])) <| 
  (f67 o26.2 ([4, -11, 2])).bind fun o41 =>
  (ix v_39.Atom.Terms 0).bind fun v_43 =>
  some (o41.2.b, o41.2.i, o41.2.h, (f_12.set o24.1.toNat ({ Atom := ({ Relation := v_39.Atom.Relation, Terms := (v_39.Atom.Terms.set (0 : Int).toNat o41.1) } : Atom), Existential := v_39.Existential, Universal := v_39.Universal } : RewritingStep)))
  else
  (jn (QN (fun (y : (List Int) × Int × Int × (List RewritingStep)) => [(0, .v (.ptr true [(ssl eU y.1), (iT y.2.1), (iT y.2.2.1)])), (6, .v (osl eRewritingStep true y.2.2.2))])) ((if o26.1 = 2 then
  (ix f_12 o24.1).bind fun v_50 =>
  (f20 o26.2 5).bind fun o52 =>
  (app 8 v_50.Existential ([o52.1])).bind fun l_54 =>
  some (o52.2.b, o52.2.i, o52.2.h, (f_12.set o24.1.toNat ({ Atom := v_50.Atom, Existential := l_54, Universal := v_50.Universal } : RewritingStep)))
  else
  (ix f_12 o24.1).bind fun v_57 =>
  (f20 o26.2 5).bind fun o59 =>
  (app 8 v_57.Universal ([o59.1])).bind fun l_61 =>
  some (o59.2.b, o59.2.i, o59.2.h, (f_12.set o24.1.toNat ({ Atom := v_57.Atom, Existential := v_57.Existential, Universal := l_61 } : RewritingStep)))) : Option ((List Int) × Int × Int × (List RewritingStep)))).bind fun (c_64, c_65, c_66, f_67) =>
  some (c_64, c_65, c_66, f_67)) : Option ((List Int) × Int × Int × (List RewritingStep)))).bind fun (c_68, c_69, c_70, f_71) =>
  some (c_68, c_69, c_70, f_71)) : Option ((List Int) × Int × Int × (List RewritingStep)))).bind fun (c_72, c_73, c_74, f_75) =>
  some (c_72, c_73, c_74, f_75)
  else
  some (c_13, c_14, c_15, f_12)) : Option ((List Int) × Int × Int × (List RewritingStep)))).bind fun (c_76, c_77, c_78, f_79) =>
  some (f_79, ({ b := c_76, i := c_77, h := c_78 } : L1Cur)) : Option ((List RewritingStep) × L1Cur))) rfl (by exact go)
theorem r6_0 {o3 : (Database × L1Cur)} : ∀ zs zo, iter f6_0 zs = some zo → Wc cx 35 (.loop L6_0) [(2, .v (.ptr true [(osl eRelation true ([])), (osl eFact true ([]))])), (5, .v (.ptr true [(ssl eU zs.1), (iT zs.2.1), (iT zs.2.2.1)])), (6, .v (.ptr true [(ssl eRelation o3.1.Relations), (osl eFact false o3.1.Facts)])), (7, .v (osl eI true zs.2.2.2.1)), (8, .v (iT zs.2.2.2.2))] ((QX 0 (fun (y : (List Int) × Int × Int × (List Int)) => [(2, .v (.ptr true [(osl eRelation true ([])), (osl eFact true ([]))])), (5, .v (.ptr true [(ssl eU y.1), (iT y.2.1), (iT y.2.2.1)])), (6, .v (.ptr true [(ssl eRelation o3.1.Relations), (osl eFact false o3.1.Facts)])), (7, .v (osl eI true y.2.2.2))])) zo) := by
 intro zs0 zo0 zh0
 refine iter_run (f := f6_0) (P := fun zs zo => Wc cx 35 (.loop L6_0) [(2, .v (.ptr true [(osl eRelation true ([])), (osl eFact true ([]))])), (5, .v (.ptr true [(ssl eU zs.1), (iT zs.2.1), (iT zs.2.2.1)])), (6, .v (.ptr true [(ssl eRelation o3.1.Relations), (osl eFact false o3.1.Facts)])), (7, .v (osl eI true zs.2.2.2.1)), (8, .v (iT zs.2.2.2.2))] ((QX 0 (fun (y : (List Int) × Int × Int × (List Int)) => [(2, .v (.ptr true [(osl eRelation true ([])), (osl eFact true ([]))])), (5, .v (.ptr true [(ssl eU y.1), (iT y.2.1), (iT y.2.2.1)])), (6, .v (.ptr true [(ssl eRelation o3.1.Relations), (osl eFact false o3.1.Facts)])), (7, .v (osl eI true y.2.2.2))])) zo)) ?_ zh0
 rintro ⟨c_7, c_8, c_9, vals_10, n_11⟩ zo zr h hk hx
 try dsimp only at hk ⊢
 rw [f6_0] at h
 refine Wc.loop ?_
 refine Wc.seq ?_
 refine Wc.seq ?_
 refine Wc.evs (by conv => lhs; simp [-aI_app1, -aI_app0, -aB_app0, -aS_app0, -aL_app0, -aI_app10, -aB_app10, -aS_app10, -aLt_app10I, -aLf_app10I, -aLt_app1I, -aLf_app1I]) ?_
 refine Wo.nil ?_
 by_cases kc12 : n_11 > 0
 ·rw [if_pos kc12] at h
  refine Wc.condT' (t := _) (by conv => lhs; simp) (by simpa using kc12) ?_
  refine Wc.seq ?_
  refine Wc.kil (by conv => lhs; simp) ?_
  refine Wc.skip ?_
  refine Wc.seq ?_
  refine Wc.block ?_
  refine Wc.evs (by conv => lhs; simp [-aI_app1, -aI_app0, -aB_app0, -aS_app0, -aL_app0, -aI_app10, -aB_app10, -aS_app10, -aLt_app10I, -aLf_app10I, -aLt_app1I, -aLf_app1I]) ?_
  obtain ⟨o13, h14, h⟩ := bind_some h
  refine Wo.call rfl rfl (by (conv => lhs; simp [-aI_app1, -aI_app0, -aB_app0, -aS_app0, -aL_app0, -aI_app10, -aB_app10, -aS_app10, -aLt_app10I, -aLf_app10I, -aLt_app1I, -aLf_app1I, cx, ioTab]) <;> rfl) (run_ h14) (by simp) (by simp) (by (conv => lhs; simp [-aI_app1, -aI_app0, -aB_app0, -aS_app0, -aL_app0, -aI_app10, -aB_app10, -aS_app10, -aLt_app10I, -aLf_app10I, -aLt_app1I, -aLf_app1I, cx, ioTab]) <;> rfl) (by (conv => lhs; simp [-aI_app1, -aI_app0, -aB_app0, -aS_app0, -aL_app0, -aI_app10, -aB_app10, -aS_app10, -aLt_app10I, -aLf_app10I, -aLt_app1I, -aLf_app1I]) <;> rfl) ?_
  obtain ⟨l_15, h16, h⟩ := bind_some h
  have gx16 := appT_arr (E := eI) (b := true) (y := true) h16 (by decide)
  simp [-aI_app1, -aI_app0, -aB_app0, -aS_app0, -aL_app0, -aLt_app1I, -aLf_app1I, -aLt_app10I, -aLf_app10I] at gx16
  refine Wo.evs (by conv => lhs; simp [-aI_app1, -aI_app0, -aB_app0, -aS_app0, -aL_app0, -aI_app10, -aB_app10, -aS_app10, -aLt_app10I, -aLf_app10I, -aLt_app1I, -aLf_app1I, gx16]) ?_
  refine Wo.nil ?_
  refine Wc.evs (by conv => lhs; simp [-aI_app1, -aI_app0, -aB_app0, -aS_app0, -aL_app0, -aI_app10, -aB_app10, -aS_app10, -aLt_app10I, -aLf_app10I, -aLt_app1I, -aLf_app1I]) ?_
  refine Wo.nil ?_
  refine Wc.start (V1 := [(2, .v (.ptr true [(osl eRelation true ([])), (osl eFact true ([]))])), (5, .v (.ptr true [(ssl eU o13.2.b), (iT o13.2.i), (iT o13.2.h)])), (6, .v (.ptr true [(ssl eRelation o3.1.Relations), (osl eFact false o3.1.Facts)])), (7, .v (osl eI true l_15)), (8, .v (iT (w64 (n_11 - 1))))]) ?_ (hk _ (Option.some.inj h).symm)
  first | rfl | simp [-aI_app1, -aI_app0, -aB_app0, -aS_app0, -aL_app0, -aI_app10, -aB_app10, -aS_app10, -aLt_app10I, -aLf_app10I, -aLt_app1I, -aLf_app1I]
 ·rw [if_neg kc12] at h
  refine Wc.condF' (t := _) (by conv => lhs; simp) (by simpa using kc12) ?_
  refine Wc.seq ?_
  refine Wc.kil (by conv => lhs; simp) ?_
  refine Wc.exit ?_
  have e0 := hx _ (Option.some.inj h).symm
  subst e0
  exact ⟨rfl, by first | rfl | simp [-aI_app1, -aI_app0, -aB_app0, -aS_app0, -aL_app0, -aI_app10, -aB_app10, -aS_app10, -aLt_app10I, -aLf_app10I, -aLt_app1I, -aLf_app1I]⟩
end
end Go.Proofs.YtamibblcpccjlaaGreatH
