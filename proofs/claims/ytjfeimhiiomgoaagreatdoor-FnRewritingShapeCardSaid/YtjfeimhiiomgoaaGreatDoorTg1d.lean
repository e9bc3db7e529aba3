import Derived.Test.YtjfeimhiiomgoaaGreatDoorTg1c
set_option maxHeartbeats 2000000
set_option linter.unusedVariables false
set_option linter.unusedSimpArgs false
set_option linter.defProp false
set_option linter.unusedSectionVars false
set_option maxRecDepth 100000
namespace Go.Proofs.YtjfeimhiiomgoaaGreatDoorH
open Go
noncomputable section
variable {o4 : ((List Relation) × Query)} {o6 : ((List RewritingStep) × Bool)} {o1 o3 o5 : (Int × L1Cur)} {slices : (List (List Int))} {o24 : (List (List UInt8))} {atoms : (List Atom)} {a b code free indices l_43 not o19 o7 o9 plus_38 terms variables want : (List Int)} {l relations : (List Relation)} {f rewriting : (List RewritingStep)} {name s0 s1 : (List UInt8)} {atom : Atom} {from2 high i i_15 i_17 i_27 i_7 k low n n0 n1 n_12 n_17 n_40 sign skip t to v v_19 x : Int} {c : L1Cur} {q query : Query}
instance i62_2 {out_14 : (List Int)} : Lp cx (lw (q, k, o9, n_12, i_15) (f62_2 out_14 o19)) 96 L62_2 (fun (zs : Bool × Int) => [(2, .v (iT k)), (4, .v (.ptr true [(iT q.VariableCount), (ssl eAtom q.Atoms), (ssl eI q.Free)])), (7, .v (osl eI true out_14)), (8, .v (osl eI true o9)), (9, .v (iT n_12)), (10, .v (iT i_15)), (11, .v (osl eI true o19)), (12, .v (.bool zs.1)), (13, .v (iT zs.2))]) (QX 4 (fun (y : Bool) => [(2, .v (iT k)), (4, .v (.ptr true [(iT q.VariableCount), (ssl eAtom q.Atoms), (ssl eI q.Free)])), (7, .v (osl eI true out_14)), (8, .v (osl eI true o9)), (9, .v (iT n_12)), (10, .v (iT i_15)), (11, .v (osl eI true o19)), (12, .v (.bool y))])) := Lp.of (f := (fun
 | (met_21, j_22) =>
  if j_22 < (o19.length : Int) then
  (jn (QN (fun (y : Bool) => [(2, .v (iT k)), (4, .v (.ptr true [(iT q.VariableCount), (ssl eAtom q.Atoms), (ssl eI q.Free)])), (7, .v (osl eI true out_14)), (8, .v (osl eI true o9)), (9, .v (iT n_12)), (10, .v (iT i_15)), (11, .v (osl eI true o19)), (12, .v (.bool y)), (13, .v (iT j_22))])) ((if met_21 = true then
  some true
  else
  (ix o19 j_22).bind fun v_27 =>
  (f27 out_14 v_27).bind fun o29 =>
  some o29) : Option (Bool))).bind fun met_24 =>
  some (.inl (met_24, w64 (j_22 + 1)))
  else
  some (.inr met_21) : Bool × Int -> Option ((Bool × Int) ⊕ Bool))) (by exact go)
instance i62_3 {met_33 : Bool} : Lp cx (lw (q, k, n_12, i_15) (f62_3 o9 o19 met_33)) 96 L62_3 (fun (zs : (List Int) × Int) => [(2, .v (iT k)), (4, .v (.ptr true [(iT q.VariableCount), (ssl eAtom q.Atoms), (ssl eI q.Free)])), (7, .v (osl eI true zs.1)), (8, .v (osl eI true o9)), (9, .v (iT n_12)), (10, .v (iT i_15)), (11, .v (osl eI true o19)), (12, .v (.bool met_33)), (14, .v (iT zs.2))]) (QX 6 (fun (y : (List Int)) => [(2, .v (iT k)), (4, .v (.ptr true [(iT q.VariableCount), (ssl eAtom q.Atoms), (ssl eI q.Free)])), (7, .v (osl eI true y)), (8, .v (osl eI true o9)), (9, .v (iT n_12)), (10, .v (iT i_15))])) := Lp.of (f := (fun
 | (out_34, j_35) =>
  (jn (QN (fun (y : Bool) => [(2, .v (iT k)), (4, .v (.ptr true [(iT q.VariableCount), (ssl eAtom q.Atoms), (ssl eI q.Free)])), (7, .v (osl eI true out_34)), (8, .v (osl eI true o9)), (9, .v (iT n_12)), (10, .v (iT i_15)), (11, .v (osl eI true o19)), (12, .v (.bool met_33)), (14, .v (iT j_35)), (78, .v (.bool y))])) ((if j_35 < (o19.length : Int) then
  some met_33
  else
  some false) : Option (Bool))).bind fun x_36 =>
  if x_36 = true then
  (ix o19 j_35).bind fun v_40 =>
  (f27 o9 v_40).bind fun o42 =>
  (jn (QN (fun (y : (List Int)) => [(2, .v (iT k)), (4, .v (.ptr true [(iT q.VariableCount), (ssl eAtom q.Atoms), (ssl eI q.Free)])), (7, .v (osl eI true y)), (8, .v (osl eI true o9)), (9, .v (iT n_12)), (10, .v (iT i_15)), (11, .v (osl eI true o19)), (12, .v (.bool met_33)), (14, .v (iT j_35))])) ((if ¬ (o42 = true) then
  sn 6 93 (osl eI true ([v_40])) <| 
  (f61 out_34 ([v_40])).bind fun o47 =>
  some o47
  else
  some out_34) : Option (List Int))).bind fun out_49 =>
  some (.inl (out_49, w64 (j_35 + 1)))
  else
  some (.inr out_34) : (List Int) × Int -> Option (((List Int) × Int) ⊕ (List Int)))) (by exact go)
instance i62_1 : Lp cx (lw n_12 (f62_1 q k o9)) 96 L62_1 (fun (zs : (List Int) × Int) => [(2, .v (iT k)), (4, .v (.ptr true [(iT q.VariableCount), (ssl eAtom q.Atoms), (ssl eI q.Free)])), (7, .v (osl eI true zs.1)), (8, .v (osl eI true o9)), (9, .v (iT n_12)), (10, .v (iT zs.2))]) (QX 2 (fun (y : (List Int)) => [(2, .v (iT k)), (4, .v (.ptr true [(iT q.VariableCount), (ssl eAtom q.Atoms), (ssl eI q.Free)])), (7, .v (osl eI true y)), (8, .v (osl eI true o9)), (9, .v (iT n_12))])) := Lp.of (f := (fun
 | (out_14, i_15) =>
  if i_15 < (q.Atoms.length : Int) then
  (ix q.Atoms i_15).bind fun v_17 =>
  (f40 v_17).bind fun o19 =>
  (iter (lw (q, k, o9, n_12, i_15)  (f62_2 out_14 o19)) ((decide (i_15 = k)), 0)).bind fun met_33 =>
  (iter (lw (q, k, n_12, i_15)  (f62_3 o9 o19 met_33)) (out_14, 0)).bind fun out_52 =>
  some (.inl (out_52, w64 (i_15 + 1)))
  else
  some (.inr out_14) : (List Int) × Int -> Option (((List Int) × Int) ⊕ (List Int)))) (by exact go)
instance i62_0 : Lp cx (f62_0 q k o9) 96 L62_0 (fun (zs : (List Int) × Int) => [(2, .v (iT k)), (4, .v (.ptr true [(iT q.VariableCount), (ssl eAtom q.Atoms), (ssl eI q.Free)])), (7, .v (osl eI true zs.1)), (8, .v (osl eI true o9)), (9, .v (iT zs.2))]) (QX 0 (fun (y : (List Int)) => [(7, .v (osl eI true y))])) := Lp.of (f := (fun
 | (out_11, n_12) =>
  if n_12 <= (q.Atoms.length : Int) then
  (iter (lw n_12  (f62_1 q k o9)) (out_11, 0)).bind fun out_55 =>
  some (.inl (out_55, w64 (n_12 + 1)))
  else
  some (.inr out_11) : (List Int) × Int -> Option (((List Int) × Int) ⊕ (List Int)))) (by exact go)
instance i62 : Rn cx (f62 l q k) 62 [(ssl eRelation l), (.agg [(iT q.VariableCount), (ssl eAtom q.Atoms), (ssl eI q.Free)]), (iT k)] (fun (r : (List Int)) => (osl eI true r)) (fun r => []) := Rn.o (e := (
  sn 4 7 (osl eI true ([])) <| 
  (f29 l q).bind fun o1 =>
  (jn (QN (fun (y : Bool) => [(0, .v (ssl eRelation l)), (2, .v (iT k)), (4, .v (.ptr true [(iT q.VariableCount), (ssl eAtom q.Atoms), (ssl eI q.Free)])), (7, .v (osl eI true ([]))), (28, .v (.bool y))])) ((if ¬ (o1 = true) then
  some true
  else
  (f39 k 0 (w64 ((q.Atoms.length : Int) - 1))).bind fun o6 =>
  some (decide (¬ (o6 = true)))) : Option (Bool))).bind fun x_3 =>
  if x_3 = true then
  some ([])
  else
  (f87 l q k).bind fun o9 =>
  (iter (f62_0 q k o9) ([], 0)).bind fun out_58 =>
  some out_58 : Option (List Int))) rfl (by exact go)
instance : Io0 cx 62 := ⟨rfl⟩
instance i30_0 {o17 : (List Int)} {o21 : (List Int)} : Lp cx (f30_0 o17 o21) 61 L30_0 (fun (zs : Int) => [(9, .v (osl eI true o17)), (10, .v (osl eI true o21)), (11, .v (iT zs))]) (QO (QX 0 (fun (y : Unit) => [])) (QR (fun (y : Bool) => [(8, .v (.bool y))]))) := Lp.of (by unfold f30_0; exact go)
instance i30 : Rn cx (f30 l q i k) 30 [(ssl eRelation l), (.agg [(iT q.VariableCount), (ssl eAtom q.Atoms), (ssl eI q.Free)]), (iT i), (iT k)] (fun (r : Bool) => (.bool r)) (fun r => []) := Rn.o (e := (
  (f29 l q).bind fun o1 =>
  (jn (QN (fun (y : Bool) => [(0, .v (ssl eRelation l)), (2, .v (iT i)), (3, .v (iT k)), (5, .v (.ptr true [(iT q.VariableCount), (ssl eAtom q.Atoms), (ssl eI q.Free)])), (38, .v (.bool y))])) ((if ¬ (o1 = true) then
  some true
  else
  (f39 i 0 (w64 ((q.Atoms.length : Int) - 1))).bind fun o6 =>
  (jn (QN (fun (y : Bool) => [(0, .v (ssl eRelation l)), (2, .v (iT i)), (3, .v (iT k)), (5, .v (.ptr true [(iT q.VariableCount), (ssl eAtom q.Atoms), (ssl eI q.Free)])), (38, .v (.bool y))])) ((if ¬ (o6 = true) then
  some true
  else
  (f39 k 0 (w64 ((q.Atoms.length : Int) - 1))).bind fun o11 =>
  (jn (QN (fun (y : Bool) => [(0, .v (ssl eRelation l)), (2, .v (iT i)), (3, .v (iT k)), (5, .v (.ptr true [(iT q.VariableCount), (ssl eAtom q.Atoms), (ssl eI q.Free)])), (38, .v (.bool y))])) ((if ¬ (o11 = true) then
  some true
  else
  some (decide (i = k))) : Option (Bool))).bind fun x_13 =>
  some x_13) : Option (Bool))).bind fun x_8 =>
  some x_8) : Option (Bool))).bind fun x_3 =>
  if x_3 = true then
  some false
  else
  (f62 l q i).bind fun o17 =>
  (ix q.Atoms k).bind fun v_19 =>
  (f40 v_19).bind fun o21 =>
  (iter (f30_0 o17 o21) 0).bind fun o => match o with
  | .inl _ =>
  some false
  | .inr x_32 =>
  some x_32 : Option Bool)) rfl (by exact go)
instance : Io0 cx 30 := ⟨rfl⟩
instance i63 {from2 : (List Int)} {to : (List Int)} : Rn cx (f63 l q from2 to) 63 [(ssl eRelation l), (.agg [(iT q.VariableCount), (ssl eAtom q.Atoms), (ssl eI q.Free)]), (ssl eI from2), (ssl eI to)] (fun (r : Bool) => (.bool r)) (fun r => []) := Rn.o (e := (
  (f29 l q).bind fun o1 =>
  (jn (QN (fun (y : Bool) => [(8, .v (.bool y))])) ((if o1 = true then
  (f88 l q (-1) from2).bind fun o6 =>
  (f47 o6 to).bind fun o8 =>
  some o8
  else
  some false) : Option (Bool))).bind fun x_3 =>
  some x_3 : Option Bool)) rfl (by exact go)
instance : Io0 cx 63 := ⟨rfl⟩
instance i31 : Rn cx (f31 l q i k) 31 [(ssl eRelation l), (.agg [(iT q.VariableCount), (ssl eAtom q.Atoms), (ssl eI q.Free)]), (iT i), (iT k)] (fun (r : Bool) => (.bool r)) (fun r => []) := Rn.o (e := (
  (f30 l q i k).bind fun o1 =>
  (jn (QN (fun (y : Bool) => [(0, .v (ssl eRelation l)), (8, .v (.bool y))])) ((if o1 = true then
  (ix q.Atoms i).bind fun v_6 =>
  (ix q.Atoms k).bind fun v_8 =>
  (f12 l v_6).bind fun o10 =>
  (f12 l v_8).bind fun o12 =>
  (f63 l q o10 o12).bind fun o14 =>
  some o14
  else
  some false) : Option (Bool))).bind fun x_3 =>
  some x_3 : Option Bool)) rfl (by exact go)
instance : Io0 cx 31 := ⟨rfl⟩
instance i32_2 {a_20 : Int} : Lp cx (lw (k, n_17) (f32_2 l q i a_20)) 83 L32_2 (fun (zs : (List Bool) × Int) => [(0, .v (ssl eRelation l)), (2, .v (iT i)), (3, .v (iT k)), (5, .v (.ptr true [(iT q.VariableCount), (ssl eAtom q.Atoms), (ssl eI q.Free)])), (9, .v (osl eB true zs.1)), (10, .v (iT n_17)), (11, .v (iT a_20)), (12, .v (iT zs.2))]) (QX 4 (fun (y : (List Bool)) => [(0, .v (ssl eRelation l)), (2, .v (iT i)), (3, .v (iT k)), (5, .v (.ptr true [(iT q.VariableCount), (ssl eAtom q.Atoms), (ssl eI q.Free)])), (9, .v (osl eB true y)), (10, .v (iT n_17)), (11, .v (iT a_20))])) := Lp.of (f := (fun
 | (met_22, b_23) =>
  if b_23 < (q.Atoms.length : Int) then
  (jn (QN (fun (y : Bool) => [(0, .v (ssl eRelation l)), (2, .v (iT i)), (3, .v (iT k)), (5, .v (.ptr true [(iT q.VariableCount), (ssl eAtom q.Atoms), (ssl eI q.Free)])), (9, .v (osl eB true met_22)), (10, .v (iT n_17)), (11, .v (iT a_20)), (12, .v (iT b_23)), (75, .v (.bool y))])) ((if a_20 = i then
  (f30 l q a_20 b_23).bind fun o28 =>
  some o28
  else
  (ix met_22 a_20).bind fun v_30 =>
  (jn (QN (fun (y : Bool) => [(0, .v (ssl eRelation l)), (2, .v (iT i)), (3, .v (iT k)), (5, .v (.ptr true [(iT q.VariableCount), (ssl eAtom q.Atoms), (ssl eI q.Free)])), (9, .v (osl eB true met_22)), (10, .v (iT n_17)), (11, .v (iT a_20)), (12, .v (iT b_23)), (75, .v (.bool y))])) ((if v_30 = true then
  (f30 l q a_20 b_23).bind fun o35 =>
  some o35
  else
  some false) : Option (Bool))).bind fun x_32 =>
  some x_32) : Option (Bool))).bind fun x_25 =>
  (jn (QN (fun (y : (List Bool)) => [(0, .v (ssl eRelation l)), (2, .v (iT i)), (3, .v (iT k)), (5, .v (.ptr true [(iT q.VariableCount), (ssl eAtom q.Atoms), (ssl eI q.Free)])), (9, .v (osl eB true y)), (10, .v (iT n_17)), (11, .v (iT a_20)), (12, .v (iT b_23))])) ((if x_25 = true then
  (ix met_22 b_23).bind fun v_40 =>
  some (met_22.set b_23.toNat true)
  else
  some met_22) : Option (List Bool))).bind fun met_43 =>
  some (.inl (met_43, w64 (b_23 + 1)))
  else
  some (.inr met_22) : (List Bool) × Int -> Option (((List Bool) × Int) ⊕ (List Bool)))) (by exact go)
instance i32_1 : Lp cx (lw (k, n_17) (f32_1 l q i)) 83 L32_1 (fun (zs : (List Bool) × Int) => [(0, .v (ssl eRelation l)), (2, .v (iT i)), (3, .v (iT k)), (5, .v (.ptr true [(iT q.VariableCount), (ssl eAtom q.Atoms), (ssl eI q.Free)])), (9, .v (osl eB true zs.1)), (10, .v (iT n_17)), (11, .v (iT zs.2))]) (QX 2 (fun (y : (List Bool)) => [(0, .v (ssl eRelation l)), (2, .v (iT i)), (3, .v (iT k)), (5, .v (.ptr true [(iT q.VariableCount), (ssl eAtom q.Atoms), (ssl eI q.Free)])), (9, .v (osl eB true y)), (10, .v (iT n_17))])) := Lp.of (f := (fun
 | (met_19, a_20) =>
  if a_20 < (q.Atoms.length : Int) then
  (iter (lw (k, n_17)  (f32_2 l q i a_20)) (met_19, 0)).bind fun met_46 =>
  some (.inl (met_46, w64 (a_20 + 1)))
  else
  some (.inr met_19) : (List Bool) × Int -> Option (((List Bool) × Int) ⊕ (List Bool)))) (by exact go)
instance i32_0 : Lp cx (lw k (f32_0 l q i)) 83 L32_0 (fun (zs : (List Bool) × Int) => [(0, .v (ssl eRelation l)), (2, .v (iT i)), (3, .v (iT k)), (5, .v (.ptr true [(iT q.VariableCount), (ssl eAtom q.Atoms), (ssl eI q.Free)])), (9, .v (osl eB true zs.1)), (10, .v (iT zs.2))]) (QX 0 (fun (y : (List Bool)) => [(3, .v (iT k)), (9, .v (osl eB true y))])) := Lp.of (f := (fun
 | (met_16, n_17) =>
  if n_17 <= (q.Atoms.length : Int) then
  (iter (lw (k, n_17)  (f32_1 l q i)) (met_16, 0)).bind fun met_49 =>
  some (.inl (met_49, w64 (n_17 + 1)))
  else
  some (.inr met_16) : (List Bool) × Int -> Option (((List Bool) × Int) ⊕ (List Bool)))) (by exact go)
instance i32 : Rn cx (f32 l q i k) 32 [(ssl eRelation l), (.agg [(iT q.VariableCount), (ssl eAtom q.Atoms), (ssl eI q.Free)]), (iT i), (iT k)] (fun (r : Bool) => (.bool r)) (fun r => []) := Rn.o (e := (
  (f29 l q).bind fun o1 =>
  (jn (QN (fun (y : Bool) => [(0, .v (ssl eRelation l)), (2, .v (iT i)), (3, .v (iT k)), (5, .v (.ptr true [(iT q.VariableCount), (ssl eAtom q.Atoms), (ssl eI q.Free)])), (34, .v (.bool y))])) ((if ¬ (o1 = true) then
  some true
  else
  (f39 i 0 (w64 ((q.Atoms.length : Int) - 1))).bind fun o6 =>
  (jn (QN (fun (y : Bool) => [(0, .v (ssl eRelation l)), (2, .v (iT i)), (3, .v (iT k)), (5, .v (.ptr true [(iT q.VariableCount), (ssl eAtom q.Atoms), (ssl eI q.Free)])), (34, .v (.bool y))])) ((if ¬ (o6 = true) then
  some true
  else
  (f39 k 0 (w64 ((q.Atoms.length : Int) - 1))).bind fun o11 =>
  some (decide (¬ (o11 = true)))) : Option (Bool))).bind fun x_8 =>
  some x_8) : Option (Bool))).bind fun x_3 =>
  if x_3 = true then
  some false
  else
  (mkl 1 (q.Atoms.length : Int) false).bind fun l_14 =>
  sn 5 9 (osl eB true l_14) <| 
  (iter (lw k  (f32_0 l q i)) (l_14, 0)).bind fun met_52 =>
  (ix met_52 k).bind fun v_53 =>
  some v_53 : Option Bool)) rfl (by exact go)
instance : Io0 cx 32 := ⟨rfl⟩
instance i33_0 : Lp cx (f33_0 l q) 18 L33_0 (fun (zs : Int) => [(0, .v (ssl eRelation l)), (3, .v (.ptr true [(iT q.VariableCount), (ssl eAtom q.Atoms), (ssl eI q.Free)])), (5, .v (iT zs))]) (QO (QX 0 (fun (y : Unit) => [])) (QR (fun (y : Bool) => [(4, .v (.bool y))]))) := Lp.of (by unfold f33_0; exact go)
instance i33 : Rn cx (f33 l q) 33 [(ssl eRelation l), (.agg [(iT q.VariableCount), (ssl eAtom q.Atoms), (ssl eI q.Free)])] (fun (r : Bool) => (.bool r)) (fun r => []) := Rn.o rfl (by unfold f33; exact go)
instance : Io0 cx 33 := ⟨rfl⟩
instance i8_1 {i_4 : Int} : Lp cx (f8_1 l q i_4) 48 L8_1 (fun (zs : Int) => [(0, .v (ssl eRelation l)), (3, .v (.ptr true [(iT q.VariableCount), (ssl eAtom q.Atoms), (ssl eI q.Free)])), (5, .v (iT i_4)), (6, .v (iT zs))]) (QO (QX 2 (fun (y : Unit) => [(0, .v (ssl eRelation l)), (3, .v (.ptr true [(iT q.VariableCount), (ssl eAtom q.Atoms), (ssl eI q.Free)])), (5, .v (iT i_4))])) (QR (fun (y : Int) => [(4, .v (iT y))]))) := Lp.of (f := (fun
 | k_6 =>
  if k_6 < (q.Atoms.length : Int) then
  (f30 l q i_4 k_6).bind fun o8 =>
  (jn (QN (fun (y : Bool) => [(0, .v (ssl eRelation l)), (3, .v (.ptr true [(iT q.VariableCount), (ssl eAtom q.Atoms), (ssl eI q.Free)])), (5, .v (iT i_4)), (6, .v (iT k_6)), (44, .v (.bool y))])) ((if o8 = true then
  (f31 l q i_4 k_6).bind fun o13 =>
  (jn (QN (fun (y : Bool) => [(0, .v (ssl eRelation l)), (3, .v (.ptr true [(iT q.VariableCount), (ssl eAtom q.Atoms), (ssl eI q.Free)])), (5, .v (iT i_4)), (6, .v (iT k_6)), (44, .v (.bool y))])) ((if ¬ (o13 = true) then
  (f32 l q k_6 i_4).bind fun o18 =>
  some o18
  else
  some false) : Option (Bool))).bind fun x_15 =>
  some x_15
  else
  some false) : Option (Bool))).bind fun x_10 =>
  if x_10 = true then
  some (.inr (.inr 3))
  else
  some (.inl (w64 (k_6 + 1)))
  else
  some (.inr (.inl ())) : Int -> Option (Int ⊕ (Unit ⊕ Int)))) (by exact go)
instance i8_0 : Lp cx (f8_0 l q) 48 L8_0 (fun (zs : Int) => [(0, .v (ssl eRelation l)), (3, .v (.ptr true [(iT q.VariableCount), (ssl eAtom q.Atoms), (ssl eI q.Free)])), (5, .v (iT zs))]) (QO (QX 0 (fun (y : Unit) => [(0, .v (ssl eRelation l)), (3, .v (.ptr true [(iT q.VariableCount), (ssl eAtom q.Atoms), (ssl eI q.Free)]))])) (QR (fun (y : Int) => [(4, .v (iT y))]))) := Lp.of (by unfold f8_0; exact go)
instance i8 : Rn cx (f8 l q) 8 [(ssl eRelation l), (.agg [(iT q.VariableCount), (ssl eAtom q.Atoms), (ssl eI q.Free)])] (fun (r : Int) => (iT r)) (fun r => []) := Rn.o rfl (by unfold f8; exact go)
instance : Io0 cx 8 := ⟨rfl⟩
instance i86_0 : Lp cx (f86_0 a b not) 29 L86_0 (fun (zs : Int) => [(0, .v (ssl eI a)), (1, .v (ssl eI b)), (2, .v (ssl eI not)), (7, .v (iT zs))]) (QO (QX 0 (fun (y : Unit) => [])) (QR (fun (y : Bool) => [(6, .v (.bool y))]))) := Lp.of (f := (fun
 | i_1 =>
  if i_1 < (a.length : Int) then
  (ix a i_1).bind fun v_3 =>
  (f27 b v_3).bind fun o5 =>
  (jn (QN (fun (y : Bool) => [(0, .v (ssl eI a)), (1, .v (ssl eI b)), (2, .v (ssl eI not)), (7, .v (iT i_1)), (28, .v (.bool y))])) ((if o5 = true then
  (f27 not v_3).bind fun o10 =>
  some (decide (¬ (o10 = true)))
  else
  some false) : Option (Bool))).bind fun x_7 =>
  if x_7 = true then
  some (.inr (.inr true))
  else
  some (.inl (w64 (i_1 + 1)))
  else
  some (.inr (.inl ())) : Int -> Option (Int ⊕ (Unit ⊕ Bool)))) (by exact go)
instance i86 : Rn cx (f86 a b not) 86 [(ssl eI a), (ssl eI b), (ssl eI not)] (fun (r : Bool) => (.bool r)) (fun r => []) := Rn.o rfl (by unfold f86; exact go)
instance : Io0 cx 86 := ⟨rfl⟩
instance i59_2 {n_9 : Int} : Lp cx (lw (k, n_9) (f59_2 l q i)) 120 L59_2 (fun (zs : (List Int) × Int) => [(0, .v (ssl eRelation l)), (2, .v (iT i)), (3, .v (iT k)), (5, .v (.ptr true [(iT q.VariableCount), (ssl eAtom q.Atoms), (ssl eI q.Free)])), (9, .v (osl eI true zs.1)), (10, .v (iT n_9)), (11, .v (iT zs.2))]) (QX 2 (fun (y : (List Int)) => [(0, .v (ssl eRelation l)), (2, .v (iT i)), (3, .v (iT k)), (5, .v (.ptr true [(iT q.VariableCount), (ssl eAtom q.Atoms), (ssl eI q.Free)])), (9, .v (osl eI true y)), (10, .v (iT n_9))])) := Lp.of (f := (fun
 | (plus_11, j_12) =>
  if j_12 < (q.Atoms.length : Int) then
  (jn (QN (fun (y : Bool) => [(0, .v (ssl eRelation l)), (2, .v (iT i)), (3, .v (iT k)), (5, .v (.ptr true [(iT q.VariableCount), (ssl eAtom q.Atoms), (ssl eI q.Free)])), (9, .v (osl eI true plus_11)), (10, .v (iT n_9)), (11, .v (iT j_12)), (56, .v (.bool y))])) ((if j_12 ≠ i then
  (ix q.Atoms j_12).bind fun v_17 =>
  (f12 l v_17).bind fun o19 =>
  (f47 plus_11 o19).bind fun o21 =>
  some o21
  else
  some false) : Option (Bool))).bind fun x_14 =>
  (jn (QN (fun (y : (List Int)) => [(0, .v (ssl eRelation l)), (2, .v (iT i)), (3, .v (iT k)), (5, .v (.ptr true [(iT q.VariableCount), (ssl eAtom q.Atoms), (ssl eI q.Free)])), (9, .v (osl eI true y)), (10, .v (iT n_9)), (11, .v (iT j_12))])) ((if x_14 = true then
  (ix q.Atoms j_12).bind fun v_26 =>
  (f40 v_26).bind fun o28 =>
  (f61 plus_11 o28).bind fun o30 =>
  some o30
  else
  some plus_11) : Option (List Int))).bind fun plus_32 =>
  some (.inl (plus_32, w64 (j_12 + 1)))
  else
  some (.inr plus_11) : (List Int) × Int -> Option (((List Int) × Int) ⊕ (List Int)))) (by exact go)
instance i59_0 : Lp cx (lw k (f59_0 l q i)) 120 L59_0 (fun (zs : (List Int) × Int) => [(0, .v (ssl eRelation l)), (2, .v (iT i)), (3, .v (iT k)), (5, .v (.ptr true [(iT q.VariableCount), (ssl eAtom q.Atoms), (ssl eI q.Free)])), (9, .v (osl eI true zs.1)), (10, .v (iT zs.2))]) (QX 0 (fun (y : (List Int)) => [(2, .v (iT i)), (3, .v (iT k)), (5, .v (.ptr true [(iT q.VariableCount), (ssl eAtom q.Atoms), (ssl eI q.Free)])), (9, .v (osl eI true y))])) := Lp.of (f := (fun
 | (plus_8, n_9) =>
  if n_9 < (q.Atoms.length : Int) then
  (iter (lw (k, n_9)  (f59_2 l q i)) (plus_8, 0)).bind fun plus_35 =>
  some (.inl (plus_35, w64 (n_9 + 1)))
  else
  some (.inr plus_8) : (List Int) × Int -> Option (((List Int) × Int) ⊕ (List Int)))) (by exact go)
instance i59_4 {a_43 : Int} : Lp cx (lw (k, n_40) (f59_4 q plus_38 a_43)) 120 L59_4 (fun (zs : (List Int) × Int) => [(3, .v (iT k)), (5, .v (.ptr true [(iT q.VariableCount), (ssl eAtom q.Atoms), (ssl eI q.Free)])), (9, .v (osl eI true plus_38)), (12, .v (osl eI true zs.1)), (13, .v (iT n_40)), (14, .v (iT a_43)), (15, .v (iT zs.2))]) (QX 8 (fun (y : (List Int)) => [(3, .v (iT k)), (5, .v (.ptr true [(iT q.VariableCount), (ssl eAtom q.Atoms), (ssl eI q.Free)])), (9, .v (osl eI true plus_38)), (12, .v (osl eI true y)), (13, .v (iT n_40)), (14, .v (iT a_43))])) := Lp.of (f := (fun
 | (met_45, b_46) =>
  if b_46 < (q.Atoms.length : Int) then
  (f27 met_45 a_43).bind fun o48 =>
  (jn (QN (fun (y : Bool) => [(3, .v (iT k)), (5, .v (.ptr true [(iT q.VariableCount), (ssl eAtom q.Atoms), (ssl eI q.Free)])), (9, .v (osl eI true plus_38)), (12, .v (osl eI true met_45)), (13, .v (iT n_40)), (14, .v (iT a_43)), (15, .v (iT b_46)), (112, .v (.bool y))])) ((if o48 = true then
  (f27 met_45 b_46).bind fun o53 =>
  (jn (QN (fun (y : Bool) => [(3, .v (iT k)), (5, .v (.ptr true [(iT q.VariableCount), (ssl eAtom q.Atoms), (ssl eI q.Free)])), (9, .v (osl eI true plus_38)), (12, .v (osl eI true met_45)), (13, .v (iT n_40)), (14, .v (iT a_43)), (15, .v (iT b_46)), (112, .v (.bool y))])) ((if ¬ (o53 = true) then
  (ix q.Atoms a_43).bind fun v_58 =>
  (ix q.Atoms b_46).bind fun v_60 =>
  (f40 v_58).bind fun o62 =>
  (f40 v_60).bind fun o64 =>
  (f86 o62 o64 plus_38).bind fun o66 =>
  some o66
  else
  some false) : Option (Bool))).bind fun x_55 =>
  some x_55
  else
  some false) : Option (Bool))).bind fun x_50 =>
  (jn (QN (fun (y : (List Int)) => [(3, .v (iT k)), (5, .v (.ptr true [(iT q.VariableCount), (ssl eAtom q.Atoms), (ssl eI q.Free)])), (9, .v (osl eI true plus_38)), (12, .v (osl eI true y)), (13, .v (iT n_40)), (14, .v (iT a_43)), (15, .v (iT b_46))])) ((if x_50 = true then
  (app 8 met_45 ([b_46])).bind fun l_71 =>
  some l_71
  else
  some met_45) : Option (List Int))).bind fun met_73 =>
  some (.inl (met_73, w64 (b_46 + 1)))
  else
  some (.inr met_45) : (List Int) × Int -> Option (((List Int) × Int) ⊕ (List Int)))) (by exact go)
instance i59_3 : Lp cx (lw (k, n_40) (f59_3 q plus_38)) 120 L59_3 (fun (zs : (List Int) × Int) => [(3, .v (iT k)), (5, .v (.ptr true [(iT q.VariableCount), (ssl eAtom q.Atoms), (ssl eI q.Free)])), (9, .v (osl eI true plus_38)), (12, .v (osl eI true zs.1)), (13, .v (iT n_40)), (14, .v (iT zs.2))]) (QX 6 (fun (y : (List Int)) => [(3, .v (iT k)), (5, .v (.ptr true [(iT q.VariableCount), (ssl eAtom q.Atoms), (ssl eI q.Free)])), (9, .v (osl eI true plus_38)), (12, .v (osl eI true y)), (13, .v (iT n_40))])) := Lp.of (f := (fun
 | (met_42, a_43) =>
  if a_43 < (q.Atoms.length : Int) then
  (iter (lw (k, n_40)  (f59_4 q plus_38 a_43)) (met_42, 0)).bind fun met_76 =>
  some (.inl (met_76, w64 (a_43 + 1)))
  else
  some (.inr met_42) : (List Int) × Int -> Option (((List Int) × Int) ⊕ (List Int)))) (by exact go)
instance i59_1 : Lp cx (lw k (f59_1 q plus_38)) 120 L59_1 (fun (zs : (List Int) × Int) => [(3, .v (iT k)), (5, .v (.ptr true [(iT q.VariableCount), (ssl eAtom q.Atoms), (ssl eI q.Free)])), (9, .v (osl eI true plus_38)), (12, .v (osl eI true zs.1)), (13, .v (iT zs.2))]) (QX 4 (fun (y : (List Int)) => [(3, .v (iT k)), (12, .v (osl eI true y))])) := Lp.of (f := (fun
 | (met_39, n_40) =>
  if n_40 < (q.Atoms.length : Int) then
  (iter (lw (k, n_40)  (f59_3 q plus_38)) (met_39, 0)).bind fun met_79 =>
  some (.inl (met_79, w64 (n_40 + 1)))
  else
  some (.inr met_39) : (List Int) × Int -> Option (((List Int) × Int) ⊕ (List Int)))) (by exact go)
instance i59 : Rn cx (f59 l q i k) 59 [(ssl eRelation l), (.agg [(iT q.VariableCount), (ssl eAtom q.Atoms), (ssl eI q.Free)]), (iT i), (iT k)] (fun (r : Bool) => (.bool r)) (fun r => []) := Rn.o (e := (
  if i = k then
  some false
  else
  (ix q.Atoms i).bind fun v_2 =>
  (f12 l v_2).bind fun o4 =>
  (f61 q.Free o4).bind fun o6 =>
  (iter (lw k  (f59_0 l q i)) (o6, 0)).bind fun plus_38 =>
  sn 3 12 (osl eI true ([i])) <| 
  (iter (lw k  (f59_1 q plus_38)) ([i], 0)).bind fun met_82 =>
  (f27 met_82 k).bind fun o83 =>
  some o83 : Option Bool)) rfl (by exact go)
instance : Io0 cx 59 := ⟨rfl⟩
instance i26_1 {k_1 : Int} : Lp cx (f26_1 l q k_1) 33 L26_1 (fun (zs : Bool × Int) => [(0, .v (ssl eRelation l)), (3, .v (.ptr true [(iT q.VariableCount), (ssl eAtom q.Atoms), (ssl eI q.Free)])), (5, .v (iT k_1)), (6, .v (.bool zs.1)), (7, .v (iT zs.2))]) (QX 2 (fun (y : Bool) => [(0, .v (ssl eRelation l)), (3, .v (.ptr true [(iT q.VariableCount), (ssl eAtom q.Atoms), (ssl eI q.Free)])), (5, .v (iT k_1)), (6, .v (.bool y))])) := Lp.of (f := (fun
 | (is_3, i_4) =>
  if i_4 < (q.Atoms.length : Int) then
  (jn (QN (fun (y : Bool) => [(0, .v (ssl eRelation l)), (3, .v (.ptr true [(iT q.VariableCount), (ssl eAtom q.Atoms), (ssl eI q.Free)])), (5, .v (iT k_1)), (6, .v (.bool y)), (7, .v (iT i_4))])) ((if is_3 = true then
  some true
  else
  (f59 l q i_4 k_1).bind fun o9 =>
  some o9) : Option (Bool))).bind fun is_6 =>
  some (.inl (is_6, w64 (i_4 + 1)))
  else
  some (.inr is_3) : Bool × Int -> Option ((Bool × Int) ⊕ Bool))) (by exact go)
instance i26_0 : Lp cx (f26_0 l q) 33 L26_0 (fun (zs : Int) => [(0, .v (ssl eRelation l)), (3, .v (.ptr true [(iT q.VariableCount), (ssl eAtom q.Atoms), (ssl eI q.Free)])), (5, .v (iT zs))]) (QO (QX 0 (fun (y : Unit) => [])) (QR (fun (y : Int) => [(4, .v (iT y))]))) := Lp.of (by unfold f26_0; exact go)
instance i26 : Rn cx (f26 l q) 26 [(ssl eRelation l), (.agg [(iT q.VariableCount), (ssl eAtom q.Atoms), (ssl eI q.Free)])] (fun (r : Int) => (iT r)) (fun r => []) := Rn.o rfl (by unfold f26; exact go)
instance : Io0 cx 26 := ⟨rfl⟩
instance i60 : Rn cx (f60 q k) 60 [(.agg [(iT q.VariableCount), (ssl eAtom q.Atoms), (ssl eI q.Free)]), (iT k)] (fun (r : Query) => (.agg [(iT r.VariableCount), (osl eAtom false r.Atoms), (osl eI true r.Free)])) (fun r => []) := Rn.o (e := (
  sn 2 4 (.ptr true [(iT 0), (osl eAtom true ([])), (osl eI true ([]))]) <| 
  (f25 q).bind fun o1 =>
  (f39 k 0 (w64 ((q.Atoms.length : Int) - 1))).bind fun o3 =>
  (jn (QN (fun (y : Int × (List Atom) × (List Int)) => [(4, .v (.ptr true [(iT 0), (osl eAtom true ([])), (osl eI true ([]))])), (5, .v (.ptr true [(iT y.1), (osl eAtom false y.2.1), (osl eI true y.2.2)]))])) ((if o3 = true then
  sn 1 5 (.ptr true [(iT o1.VariableCount), (ssl eAtom o1.Atoms), (osl eI true o1.Free)]) <| 
  (cutL o1.Atoms 0 k).bind fun l_8 =>
  (cutL o1.Atoms (w64 (k + 1)) o1.Atoms.length).bind fun l_10 =>
  (app 32 ([]) l_8).bind fun l_12 =>
  (app 32 l_12 l_10).bind fun l_14 =>
  sn 12 25 (osl eAtom false l_14) <| 
  some (o1.VariableCount, l_14, o1.Free)
  else
  some (o1.VariableCount, o1.Atoms, o1.Free)) : Option (Int × (List Atom) × (List Int)))).bind fun (x_16, x_17, x_18) =>
  some ({ VariableCount := x_16, Atoms := x_17, Free := x_18 } : Query) : Option Query)) rfl (by exact go)
instance : Io0 cx 60 := ⟨rfl⟩
instance i28 : Rn cx (f28 q k) 28 [(.agg [(iT q.VariableCount), (ssl eAtom q.Atoms), (ssl eI q.Free)]), (iT k)] (fun (r : Query) => (.agg [(iT r.VariableCount), (osl eAtom false r.Atoms), (osl eI true r.Free)])) (fun r => []) := Rn.o (e := (
  sn 2 4 (.ptr true [(iT 0), (osl eAtom true ([])), (osl eI true ([]))]) <| 
  (f60 q k).bind fun o1 =>
  (ix q.Atoms k).bind fun v_3 =>
  (f40 v_3).bind fun o5 =>
  (f61 q.Free o5).bind fun o7 =>
  some ({ VariableCount := o1.VariableCount, Atoms := o1.Atoms, Free := o7 } : Query) : Option Query)) rfl (by exact go)
instance : Io0 cx 28 := ⟨rfl⟩
instance i7_1 {out_6 : (List RewritingStep)} {x_7 : Int} {x_8 : (List Atom)} {x_9 : (List Int)} {o11 : Int} {v_14 : Atom} : Lp cx (lw (out_6, x_7, x_8, o11) (f7_1 l x_9 v_14)) 83 L7_1 (fun (zs : Int × (List Int) × (List Int) × (List Int) × Int) => [(0, .v (ssl eRelation l)), (6, .v (osl eRewritingStep true out_6)), (7, .v (.ptr true [(iT x_7), (ssl eAtom x_8), (osl eI true x_9)])), (8, .v (iT o11)), (9, .v (.ptr true [(iT v_14.Relation), (ssl eI v_14.Terms)])), (10, .v (.ptr true [(iT zs.1), (osl eI true zs.2.1), (osl eI true zs.2.2.1), (osl eI true zs.2.2.2.1)])), (11, .v (iT zs.2.2.2.2))]) (QX 2 (fun (y : Int × (List Int) × (List Int) × (List Int)) => [(0, .v (ssl eRelation l)), (6, .v (osl eRewritingStep true out_6)), (7, .v (.ptr true [(iT x_7), (ssl eAtom x_8), (osl eI true x_9)])), (8, .v (iT o11)), (10, .v (.ptr true [(iT y.1), (osl eI true y.2.1), (osl eI true y.2.2.1), (osl eI true y.2.2.2)]))])) := Lp.of (f := (fun
 | (v_18, v_19, v_20, v_21, j_22) =>
  if j_22 < 4 then
  (jb 3 (QN (fun (y : (List Int) × (List Int)) => [(0, .v (ssl eRelation l)), (6, .v (osl eRewritingStep true out_6)), (7, .v (.ptr true [(iT x_7), (ssl eAtom x_8), (osl eI true x_9)])), (8, .v (iT o11)), (9, .v (.ptr true [(iT v_14.Relation), (ssl eI v_14.Terms)])), (10, .v (.ptr true [(iT v_18), (osl eI true v_19), (osl eI true y.1), (osl eI true y.2)])), (11, .v (iT j_22))])) (((f27 x_9 j_22).bind fun o26 =>
  (jn (QN (fun (y : Bool) => [(0, .v (ssl eRelation l)), (6, .v (osl eRewritingStep true out_6)), (7, .v (.ptr true [(iT x_7), (ssl eAtom x_8), (osl eI true x_9)])), (8, .v (iT o11)), (9, .v (.ptr true [(iT v_14.Relation), (ssl eI v_14.Terms)])), (10, .v (.ptr true [(iT v_18), (osl eI true v_19), (osl eI true v_20), (osl eI true v_21)])), (11, .v (iT j_22)), (57, .v (.bool y))])) ((if o26 = true then
  some true
  else
  (f27 v_14.Terms j_22).bind fun o31 =>
  some (decide (¬ (o31 = true)))) : Option (Bool))).bind fun x_28 =>
  if x_28 = true then
  some (v_20, v_21)
  else
  (f12 l v_14).bind fun o34 =>
  (f27 o34 j_22).bind fun o36 =>
  (jn (QN (fun (y : (List Int) × (List Int)) => [(0, .v (ssl eRelation l)), (6, .v (osl eRewritingStep true out_6)), (7, .v (.ptr true [(iT x_7), (ssl eAtom x_8), (osl eI true x_9)])), (8, .v (iT o11)), (9, .v (.ptr true [(iT v_14.Relation), (ssl eI v_14.Terms)])), (10, .v (.ptr true [(iT v_18), (osl eI true v_19), (osl eI true y.1), (osl eI true y.2)])), (11, .v (iT j_22))])) ((if o36 = true then
  (app 8 v_20 ([j_22])).bind fun l_41 =>
  some (l_41, v_21)
  else
  (app 8 v_21 ([j_22])).bind fun l_43 =>
  some (v_20, l_43)) : Option ((List Int) × (List Int)))).bind fun (v_45, v_46) =>
  some (v_45, v_46)) : Option ((List Int) × (List Int)))).bind fun (v_47, v_48) =>
  some (.inl (v_18, v_19, v_47, v_48, w64 (j_22 + 1)))
  else
  some (.inr (v_18, v_19, v_20, v_21)) : Int × (List Int) × (List Int) × (List Int) × Int -> Option ((Int × (List Int) × (List Int) × (List Int) × Int) ⊕ (Int × (List Int) × (List Int) × (List Int))))) (by exact go)
instance i7_0 : Lp cx (f7_0 l) 83 L7_0 (fun (zs : (List RewritingStep) × Int × (List Atom) × (List Int)) => [(0, .v (ssl eRelation l)), (6, .v (osl eRewritingStep true zs.1)), (7, .v (.ptr true [(iT zs.2.1), (osl eAtom false zs.2.2.1), (osl eI true zs.2.2.2)]))]) (QO (QX 0 (fun (y : (List RewritingStep)) => [(6, .v (osl eRewritingStep true y))])) (QR (fun (y : (List RewritingStep) × Bool) => [(4, .v (osl eRewritingStep true y.1)), (5, .v (.bool y.2))]))) := Lp.of (f := (fun
 | (out_6, x_7, x_8, x_9) =>
  if (x_8.length : Int) > 0 then
  (f26 l ({ VariableCount := x_7, Atoms := x_8, Free := x_9 } : Query)).bind fun o11 =>
  if o11 < 0 then
  sn 3 4 (osl eRewritingStep true ([])) <| 
  some (.inr (.inr ([], false)))
  else
  sn 0 7 (.ptr true [(iT x_7), (ssl eAtom x_8), (osl eI true x_9)]) <| 
  (ix x_8 o11).bind fun v_14 =>
  (app 8 ([]) v_14.Terms).bind fun l_16 =>
  sn 14 40 (osl eI true l_16) <| 
  sn 2 42 (.agg [(iT v_14.Relation), (osl eI true l_16), (osl eI true ([])), (osl eI true ([]))]) <| 
  (iter (lw (out_6, x_7, x_8, o11)  (f7_1 l x_9 v_14)) (v_14.Relation, l_16, [], [], 0)).bind fun (v_51, v_52, v_53, v_54) =>
  (app 80 out_6 ([({ Atom := ({ Relation := v_51, Terms := v_52 } : Atom), Existential := v_53, Universal := v_54 } : RewritingStep)])).bind fun l_55 =>
  sn 5 7 (.ptr true [(iT x_7), (ssl eAtom x_8), (ssl eI x_9)]) <| 
  (f28 ({ VariableCount := x_7, Atoms := x_8, Free := x_9 } : Query) o11).bind fun o57 =>
  some (.inl (l_55, o57.VariableCount, o57.Atoms, o57.Free))
  else
  some (.inr (.inl out_6)) : (List RewritingStep) × Int × (List Atom) × (List Int) -> Option (((List RewritingStep) × Int × (List Atom) × (List Int)) ⊕ ((List RewritingStep) ⊕ ((List RewritingStep) × Bool))))) (by exact go)
instance i7 : Rn cx (f7 l q) 7 [(ssl eRelation l), (.agg [(iT q.VariableCount), (ssl eAtom q.Atoms), (ssl eI q.Free)])] (fun (r : (List RewritingStep) × Bool) => (.tup [(osl eRewritingStep true r.1), (.bool r.2)])) (fun r => []) := Rn.o (e := (
  sn 5 6 (osl eRewritingStep true ([])) <| 
  (f8 l q).bind fun o1 =>
  if o1 ≠ 1 then
  some ([], false)
  else
  (f25 q).bind fun o4 =>
  (iter (f7_0 l) ([], o4.VariableCount, o4.Atoms, o4.Free)).bind fun o => match o with
  | .inl out_61 =>
  some (out_61, true)
  | .inr (x_62, x_63) =>
  some (x_62, x_63) : Option ((List RewritingStep) × Bool))) rfl (by exact go)
instance : Io0 cx 7 := ⟨rfl⟩
instance i44 : Rn cx (f44 t) 44 [(iT t)] (fun (r : Bool) => (.bool r)) (fun r => []) := Rn.o rfl (by unfold f44; exact go)
instance : Io0 cx 44 := ⟨rfl⟩
instance i13_0 : Lp cx (f13_0 relations rewriting) 64 L13_0 (fun (zs : Int) => [(0, .v (ssl eRelation relations)), (8, .v (ssl eRewritingStep rewriting)), (9, .v (iT (rewriting.length : Int))), (10, .v (iT zs))]) (QO (QX 0 (fun (y : Unit) => [])) (QR (fun (y : Bool) => [(4, .v (.bool y))]))) := Lp.of (f := (fun
 | x_1 =>
  if x_1 < (rewriting.length : Int) then
  (ix rewriting x_1).bind fun v_3 =>
  (jn (QN (fun (y : Bool) => [(0, .v (ssl eRelation relations)), (6, .v (.ptr true [(iT v_3.Atom.Relation), (ssl eI v_3.Atom.Terms), (ssl eI v_3.Existential), (ssl eI v_3.Universal)])), (7, .v (.ptr true [(iT v_3.Atom.Relation), (ssl eI v_3.Atom.Terms)])), (8, .v (ssl eRewritingStep rewriting)), (9, .v (iT (rewriting.length : Int))), (10, .v (iT x_1)), (44, .v (.bool y))])) ((if x_1 >= 3 then
  some true
  else
  (f41 relations).bind fun o8 =>
  (jn (QN (fun (y : Bool) => [(0, .v (ssl eRelation relations)), (6, .v (.ptr true [(iT v_3.Atom.Relation), (ssl eI v_3.Atom.Terms), (ssl eI v_3.Existential), (ssl eI v_3.Universal)])), (7, .v (.ptr true [(iT v_3.Atom.Relation), (ssl eI v_3.Atom.Terms)])), (8, .v (ssl eRewritingStep rewriting)), (9, .v (iT (rewriting.length : Int))), (10, .v (iT x_1)), (44, .v (.bool y))])) ((if ¬ (o8 = true) then
  some true
  else
  (f42 v_3.Atom.Relation 0 (w64 ((relations.length : Int) - 1))).bind fun o13 =>
  (jn (QN (fun (y : Bool) => [(0, .v (ssl eRelation relations)), (6, .v (.ptr true [(iT v_3.Atom.Relation), (ssl eI v_3.Atom.Terms), (ssl eI v_3.Existential), (ssl eI v_3.Universal)])), (7, .v (.ptr true [(iT v_3.Atom.Relation), (ssl eI v_3.Atom.Terms)])), (8, .v (ssl eRewritingStep rewriting)), (9, .v (iT (rewriting.length : Int))), (10, .v (iT x_1)), (44, .v (.bool y))])) ((if ¬ (o13 = true) then
  some true
  else
  (ix relations v_3.Atom.Relation).bind fun v_18 =>
  some (decide ((v_3.Atom.Terms.length : Int) ≠ v_18.Arity))) : Option (Bool))).bind fun x_15 =>
  some x_15) : Option (Bool))).bind fun x_10 =>
  some x_10) : Option (Bool))).bind fun x_5 =>
  if x_5 = true then
  some (.inr (.inr false))
  else
  (f43 v_3.Atom.Terms (fun x0 => f44 x0)).bind fun o21 =>
  if o21 = true then
  some (.inr (.inr false))
  else
  (f19 relations v_3.Atom).bind fun o24 =>
  (f45 v_3.Existential o24).bind fun o26 =>
  (jn (QN (fun (y : Bool) => [(0, .v (ssl eRelation relations)), (8, .v (ssl eRewritingStep rewriting)), (9, .v (iT (rewriting.length : Int))), (10, .v (iT x_1)), (62, .v (.bool y))])) ((if ¬ (o26 = true) then
  some true
  else
  (f20 v_3.Atom).bind fun o31 =>
  (f45 v_3.Universal o31).bind fun o33 =>
  some (decide (¬ (o33 = true)))) : Option (Bool))).bind fun x_28 =>
  if x_28 = true then
  some (.inr (.inr false))
  else
  some (.inl (w64 (x_1 + 1)))
  else
  some (.inr (.inl ())) : Int -> Option (Int ⊕ (Unit ⊕ Bool)))) (by exact go)
instance i13 : Rn cx (f13 relations rewriting) 13 [(ssl eRelation relations), (ssl eRewritingStep rewriting)] (fun (r : Bool) => (.bool r)) (fun r => []) := Rn.o rfl (by unfold f13; exact go)
instance : Io0 cx 13 := ⟨rfl⟩
instance i91 : Rn cx (f91 t) 91 [(iT t)] (fun (r : Int × Bool) => (.tup [(iT r.1), (.bool r.2)])) (fun r => []) := Rn.o rfl (by unfold f91; exact go)
instance : Io0 cx 91 := ⟨rfl⟩
theorem r114 {n : Int} {r : List UInt8} (h : f114 n = some r) : VJx cx (.ca 114 [.int .i64 n] (.str r) []) := by
 exact ca_itoa (X := X0) (fun _ _ _ _ _ h => .inl h) (fun _ _ _ _ h => h) rfl h
instance i114 : Rn cx (f114 n) 114 [.int .i64 n] (fun r => .str r) (fun _ => []) := ⟨fun _ h => r114 h⟩
instance : Io0 cx 114 := ⟨rfl⟩
instance i92 : Rn cx (f92 n0) 92 [(iT n0)] (fun (r : (List UInt8)) => (.str r)) (fun r => []) := Rn.o rfl (by unfold f92; exact go)
instance : Io0 cx 92 := ⟨rfl⟩
instance i67 : Rn cx (f67 t) 67 [(iT t)] (fun (r : (List UInt8)) => (.str r)) (fun r => []) := Rn.o rfl (by unfold f67; exact go)
instance : Io0 cx 67 := ⟨rfl⟩
instance i35_0 : Lp cx (f35_0 terms) 20 L35_0 (fun (zs : (List (List UInt8)) × Int) => [(3, .v (osl eS true zs.1)), (7, .v (ssl eI terms)), (8, .v (iT (terms.length : Int))), (9, .v (iT zs.2))]) (QX 0 (fun (y : (List (List UInt8))) => [(3, .v (osl eS true y))])) := Lp.of (by unfold f35_0; exact go)
instance i35 : Rn cx (f35 terms) 35 [(ssl eI terms)] (fun (r : (List (List UInt8))) => (osl eS true r)) (fun r => []) := Rn.o (e := (
  sn 3 3 (osl eS true ([])) <| 
  (iter (f35_0 terms) ([], 0)).bind fun out_12 =>
  some out_12 : Option (List (List UInt8)))) rfl (by exact go)
instance : Io0 cx 35 := ⟨rfl⟩
theorem r34 {xs : List (List UInt8)} {sep : List UInt8} {r : List UInt8} (h : f34 xs sep = some r) : VJx cx (.ca 34 [ssl eS xs, .str sep] (.str r) []) := by
 exact ca_join (X := X0) (fun _ _ _ _ _ h => .inr (.inl h)) (fun _ _ _ _ h => h) rfl h
instance i34 {xs : List (List UInt8)} {sep : List UInt8} : Rn cx (f34 xs sep) 34 [ssl eS xs, .str sep] (fun r => .str r) (fun _ => []) := ⟨fun _ h => r34 h⟩
instance : Io0 cx 34 := ⟨rfl⟩
instance i68 {parts : (List (List UInt8))} {at1 : Int} : Rn cx (f68 parts at1) 68 [(ssl eS parts), (iT at1)] (fun (r : (List UInt8)) => (.str r)) (fun r => []) := Rn.o (e := (
  (cutL parts 0 at1).bind fun l_1 =>
  (f34 l_1 ([])).bind fun o3 =>
  (jn (QN (fun (y : (List UInt8)) => [(5, .v (.str y))])) ((if at1 < (parts.length : Int) then
  (cutL parts at1 parts.length).bind fun l_8 =>
  (f34 l_8 ([])).bind fun o10 =>
  (cat ([124]) o10).bind fun s_12 =>
  (cat o3 s_12).bind fun s_14 =>
  some s_14
  else
  some o3) : Option (List UInt8))).bind fun out_16 =>
  some out_16 : Option (List UInt8))) rfl (by exact go)
instance : Io0 cx 68 := ⟨rfl⟩
instance i36 : Rn cx (f36 relations atom) 36 [(ssl eRelation relations), (.agg [(iT atom.Relation), (ssl eI atom.Terms)])] (fun (r : (List UInt8)) => (.str r)) (fun r => []) := Rn.o rfl (by unfold f36; exact go)
instance : Io0 cx 36 := ⟨rfl⟩
instance i9_0 : Lp cx (f9_0 relations rewriting) 42 L9_0 (fun (zs : (List (List UInt8)) × Int) => [(0, .v (ssl eRelation relations)), (5, .v (osl eS true zs.1)), (13, .v (ssl eRewritingStep rewriting)), (14, .v (iT (rewriting.length : Int))), (15, .v (iT zs.2))]) (QX 0 (fun (y : (List (List UInt8))) => [(5, .v (osl eS true y))])) := Lp.of (by unfold f9_0; exact go)
instance i9 : Rn cx (f9 relations rewriting) 9 [(ssl eRelation relations), (ssl eRewritingStep rewriting)] (fun (r : (List UInt8)) => (.str r)) (fun r => []) := Rn.o (e := (
  (f13 relations rewriting).bind fun o1 =>
  if ¬ (o1 = true) then
  some ([])
  else
  sn 2 5 (osl eS true ([])) <| 
  (iter (f9_0 relations rewriting) ([], 0)).bind fun out_33 =>
  (f34 out_33 ([32])).bind fun o34 =>
  some o34 : Option (List UInt8))) rfl (by exact go)
instance : Io0 cx 9 := ⟨rfl⟩
instance i14_1 {i_1 : Int} {v_3 : RewritingStep} : Lp cx (lw (l, f, i_1) (f14_1 v_3)) 81 L14_1 (fun (zs : Int) => [(0, .v (ssl eRelation l)), (1, .v (ssl eRewritingStep f)), (5, .v (iT i_1)), (6, .v (.ptr true [(iT v_3.Atom.Relation), (ssl eI v_3.Atom.Terms)])), (7, .v (iT zs))]) (QO (QX 2 (fun (y : Unit) => [(0, .v (ssl eRelation l)), (1, .v (ssl eRewritingStep f)), (5, .v (iT i_1)), (6, .v (.ptr true [(iT v_3.Atom.Relation), (ssl eI v_3.Atom.Terms)]))])) (QR (fun (y : Bool) => [(4, .v (.bool y))]))) := Lp.of (by unfold lw f14_1; exact go)
instance i14_0 : Lp cx (f14_0 l f) 81 L14_0 (fun (zs : Int) => [(0, .v (ssl eRelation l)), (1, .v (ssl eRewritingStep f)), (5, .v (iT zs))]) (QO (QX 0 (fun (y : Unit) => [(1, .v (ssl eRewritingStep f))])) (QR (fun (y : Bool) => [(4, .v (.bool y))]))) := Lp.of (f := (fun
 | i_1 =>
  if i_1 < (f.length : Int) then
  (ix f i_1).bind fun v_3 =>
  (f46 l).bind fun o5 =>
  (jn (QN (fun (y : Bool) => [(0, .v (ssl eRelation l)), (1, .v (ssl eRewritingStep f)), (5, .v (iT i_1)), (6, .v (.ptr true [(iT v_3.Atom.Relation), (ssl eI v_3.Atom.Terms)])), (42, .v (.bool y))])) ((if ¬ (o5 = true) then
  some true
  else
  (f39 v_3.Atom.Relation 0 (w64 ((l.length : Int) - 1))).bind fun o10 =>
  (jn (QN (fun (y : Bool) => [(0, .v (ssl eRelation l)), (1, .v (ssl eRewritingStep f)), (5, .v (iT i_1)), (6, .v (.ptr true [(iT v_3.Atom.Relation), (ssl eI v_3.Atom.Terms)])), (42, .v (.bool y))])) ((if ¬ (o10 = true) then
  some true
  else
  (ix l v_3.Atom.Relation).bind fun v_15 =>
  some (decide ((v_3.Atom.Terms.length : Int) ≠ v_15.Arity))) : Option (Bool))).bind fun x_12 =>
  some x_12) : Option (Bool))).bind fun x_7 =>
  if x_7 = true then
  some (.inr (.inr false))
  else
  (iter (lw (l, f, i_1)  (f14_1 v_3)) 0).bind fun o => match o with
  | .inl _ =>
  (f12 l v_3.Atom).bind fun o28 =>
  (f47 o28 v_3.Existential).bind fun o30 =>
  (jn (QN (fun (y : Bool) => [(0, .v (ssl eRelation l)), (1, .v (ssl eRewritingStep f)), (5, .v (iT i_1)), (77, .v (.bool y))])) ((if ¬ (o30 = true) then
  some true
  else
  (f40 v_3.Atom).bind fun o35 =>
  (f47 o35 v_3.Universal).bind fun o37 =>
  some (decide (¬ (o37 = true)))) : Option (Bool))).bind fun x_32 =>
  if x_32 = true then
  some (.inr (.inr false))
  else
  some (.inl (w64 (i_1 + 1)))
  | .inr x_27 =>
  some (.inr (.inr x_27))
  else
  some (.inr (.inl ())) : Int -> Option (Int ⊕ (Unit ⊕ Bool)))) (by exact go)
instance i14 : Rn cx (f14 l f) 14 [(ssl eRelation l), (ssl eRewritingStep f)] (fun (r : Bool) => (.bool r)) (fun r => []) := Rn.o rfl (by unfold f14; exact go)
instance : Io0 cx 14 := ⟨rfl⟩
instance i37_0 {l : (List Int)} : Lp cx (f37_0 l) 19 L37_0 (fun (zs : (List UInt8) × Int) => [(0, .v (ssl eI l)), (3, .v (.str zs.1)), (4, .v (iT zs.2))]) (QX 0 (fun (y : (List UInt8)) => [(3, .v (.str y))])) := Lp.of (by unfold f37_0; exact go)
instance i37 {l : (List Int)} : Rn cx (f37 l) 37 [(ssl eI l)] (fun (r : (List UInt8)) => (.str r)) (fun r => []) := Rn.o rfl (by unfold f37; exact go)
instance : Io0 cx 37 := ⟨rfl⟩
instance i10_0 : Lp cx (f10_0 l f) 49 L10_0 (fun (zs : (List UInt8) × Int) => [(0, .v (ssl eRelation l)), (1, .v (ssl eRewritingStep f)), (5, .v (.str zs.1)), (6, .v (iT zs.2))]) (QX 0 (fun (y : (List UInt8)) => [(5, .v (.str y))])) := Lp.of (f := (fun
 | (s_1, i_2) =>
  (jn (QN (fun (y : Bool) => [(0, .v (ssl eRelation l)), (1, .v (ssl eRewritingStep f)), (5, .v (.str s_1)), (6, .v (iT i_2)), (15, .v (.bool y))])) ((if i_2 < (f.length : Int) then
  (f14 l f).bind fun o6 =>
  some o6
  else
  some false) : Option (Bool))).bind fun x_3 =>
  if x_3 = true then
  (jn (QN (fun (y : (List UInt8)) => [(0, .v (ssl eRelation l)), (1, .v (ssl eRewritingStep f)), (5, .v (.str y)), (6, .v (iT i_2))])) ((if i_2 > 0 then
  (cat s_1 ([32])).bind fun s_12 =>
  some s_12
  else
  some s_1) : Option (List UInt8))).bind fun s_14 =>
  (cat s_14 ([69])).bind fun s_15 =>
  (ix f i_2).bind fun v_17 =>
  (f37 v_17.Existential).bind fun o19 =>
  (cat s_15 o19).bind fun s_21 =>
  (cat s_21 ([32, 65])).bind fun s_23 =>
  (f37 v_17.Universal).bind fun o25 =>
  (cat s_23 o25).bind fun s_27 =>
  (cat s_27 ([32])).bind fun s_29 =>
  (f38 l v_17.Atom).bind fun o31 =>
  (cat s_29 o31).bind fun s_33 =>
  some (.inl (s_33, w64 (i_2 + 1)))
  else
  some (.inr s_1) : (List UInt8) × Int -> Option (((List UInt8) × Int) ⊕ (List UInt8)))) (by exact go)
instance i10 : Rn cx (f10 l f) 10 [(ssl eRelation l), (ssl eRewritingStep f)] (fun (r : (List UInt8)) => (.str r)) (fun r => []) := Rn.o rfl (by unfold f10; exact go)
instance : Io0 cx 10 := ⟨rfl⟩
instance i11_0 {l : (List Int)} : Lp cx (f11_0 l x) 18 L11_0 (fun (zs : Int) => [(0, .v (ssl eI l)), (1, .v (iT x)), (5, .v (iT zs))]) (QO (QX 0 (fun (y : Unit) => [])) (QR (fun (y : Bool) => [(4, .v (.bool y))]))) := Lp.of (by unfold f11_0; exact go)
instance i11 {l : (List Int)} : Rn cx (f11 l x) 11 [(ssl eI l), (iT x)] (fun (r : Bool) => (.bool r)) (fun r => []) := Rn.o rfl (by unfold f11; exact go)
instance : Io0 cx 11 := ⟨rfl⟩
instance i3_1 {known_26 : (List Int)} : Lp cx (lw o4 (f3_1 o6 known_26 i_27)) 166 L3_1 (fun (zs : Int) => [(3, .v (ssl eRelation o4.1)), (4, .v (.ptr true [(iT o4.2.VariableCount), (osl eAtom true o4.2.Atoms), (osl eI true o4.2.Free)])), (5, .v (osl eRewritingStep true o6.1)), (9, .v (osl eI true known_26)), (10, .v (iT i_27)), (11, .v (iT zs))]) (QO (QX 2 (fun (y : Unit) => [(3, .v (ssl eRelation o4.1)), (4, .v (.ptr true [(iT o4.2.VariableCount), (osl eAtom true o4.2.Atoms), (osl eI true o4.2.Free)])), (5, .v (osl eRewritingStep true o6.1)), (9, .v (osl eI true known_26)), (10, .v (iT i_27))])) (QR (fun (y : Bool) => [(2, .v (.bool y))]))) := Lp.of (by unfold lw f3_1; exact go)
end
end Go.Proofs.YtjfeimhiiomgoaaGreatDoorH
