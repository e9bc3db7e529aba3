import Derived.Test.YtamibblcpccjlaaGreatTg1b
set_option maxHeartbeats 2000000
set_option linter.unusedVariables false
set_option linter.unusedSimpArgs false
set_option linter.defProp false
set_option linter.unusedSectionVars false
set_option maxRecDepth 100000
namespace Go.Proofs.YtamibblcpccjlaaGreatH
open Go
noncomputable section
variable {o1 o3 o5 : (Int × L1Cur)} {blocks known last_12 o32 o4 o6 out_11 slices : (List (List Int))} {o24 : (List (List UInt8))} {derivation steps : (List DerivationStep)} {a b block code from2 indices list s1 s2 set1 terms v_12 : (List Int)} {l relations : (List Relation)} {name s0 : (List UInt8)} {atom v_19 : Atom} {d db : Database} {v_1 : DerivationStep} {f : Fact} {high i i_1 i_17 i_7 k low n0 n1 n_13 sign t v val x y : Int} {c : L1Cur} {q query : Query}
instance i95_1 {l : (List Int)} {out_1 : (List Int)} {i_2 : Int} : Lp cx (f95_1 l out_1 i_2) 47 L95_1 (fun (zs : Int) => [(0, .v (ssl eI l)), (3, .v (ssl eI out_1)), (4, .v (iT i_2)), (5, .v (iT zs))]) (QX 2 (fun (y : Int) => [(0, .v (ssl eI l)), (3, .v (ssl eI out_1)), (4, .v (iT i_2)), (5, .v (iT y))])) := Lp.of (f := (fun
 | k_4 =>
  (jn (QN (fun (y : Bool) => [(0, .v (ssl eI l)), (3, .v (ssl eI out_1)), (4, .v (iT i_2)), (5, .v (iT k_4)), (28, .v (.bool y))])) ((if k_4 > 0 then
  (ix out_1 (w64 (k_4 - 1))).bind fun v_8 =>
  (ix l i_2).bind fun v_10 =>
  some (decide (v_8 > v_10))
  else
  some false) : Option (Bool))).bind fun x_5 =>
  if x_5 = true then
  some (.inl (w64 (k_4 - 1)))
  else
  some (.inr k_4) : Int -> Option (Int ⊕ Int))) (by exact go)
instance i95_0 {l : (List Int)} : Lp cx (f95_0 l) 47 L95_0 (fun (zs : (List Int) × Int) => [(0, .v (ssl eI l)), (3, .v (ssl eI zs.1)), (4, .v (iT zs.2))]) (QX 0 (fun (y : (List Int)) => [(3, .v (ssl eI y))])) := Lp.of (f := (fun
 | (out_1, i_2) =>
  if i_2 < (l.length : Int) then
  (iter (f95_1 l out_1 i_2) (out_1.length : Int)).bind fun k_15 =>
  (cutL out_1 0 k_15).bind fun l_16 =>
  (ix l i_2).bind fun v_18 =>
  (cutL out_1 k_15 out_1.length).bind fun l_20 =>
  (app 8 ([]) l_16).bind fun l_22 =>
  (app 8 l_22 ([v_18])).bind fun l_24 =>
  (app 8 l_24 l_20).bind fun l_26 =>
  sn 16 3 (osl eI true l_26) <| 
  sn 0 3 (ssl eI l_26) <| 
  some (.inl (l_26, w64 (i_2 + 1)))
  else
  some (.inr out_1) : (List Int) × Int -> Option (((List Int) × Int) ⊕ (List Int)))) (by exact go)
instance i95 {l : (List Int)} : Rn cx (f95 l) 95 [(ssl eI l)] (fun (r : (List Int)) => (ssl eI r)) (fun r => []) := Rn.o (e := (
  sn 3 3 (osl eI true ([])) <| 
  sn 0 3 (ssl eI ([])) <| 
  (iter (f95_0 l) ([], 0)).bind fun out_30 =>
  some out_30 : Option (List Int))) rfl (by exact go)
instance : Io0 cx 95 := ⟨rfl⟩
instance i57_0 {o1 : (List Embedding)} : Lp cx (f57_0 d o1) 33 L57_0 (fun (zs : (List (List Int)) × Int) => [(2, .v (.ptr true [(ssl eRelation d.Relations), (ssl eFact d.Facts)])), (5, .v (osl (eL eI) false zs.1)), (6, .v (ssl eEmbedding o1)), (7, .v (iT zs.2))]) (QX 0 (fun (y : (List (List Int))) => [(5, .v (osl (eL eI) false y))])) := Lp.of (f := (fun
 | (out_3, i_4) =>
  if i_4 < (o1.length : Int) then
  (ix o1 i_4).bind fun v_6 =>
  (f95 v_6.Facts).bind fun o8 =>
  (f96 d o8).bind fun o10 =>
  (jn (QN (fun (y : (List (List Int))) => [(2, .v (.ptr true [(ssl eRelation d.Relations), (ssl eFact d.Facts)])), (5, .v (osl (eL eI) false y)), (6, .v (ssl eEmbedding o1)), (7, .v (iT i_4))])) ((if o10 = true then
  (app 24 out_3 ([o8])).bind fun l_15 =>
  some l_15
  else
  some out_3) : Option (List (List Int)))).bind fun out_17 =>
  some (.inl (out_17, w64 (i_4 + 1)))
  else
  some (.inr out_3) : (List (List Int)) × Int -> Option (((List (List Int)) × Int) ⊕ (List (List Int))))) (by exact go)
instance i57 : Rn cx (f57 d q) 57 [(.agg [(ssl eRelation d.Relations), (ssl eFact d.Facts)]), (.agg [(iT q.VariableCount), (ssl eAtom q.Atoms), (ssl eI q.Free)])] (fun (r : (List (List Int))) => (osl (eL eI) false r)) (fun r => []) := Rn.o (e := (
  sn 5 5 (osl (eL eI) false ([])) <| 
  (f94 d q).bind fun o1 =>
  sn 1 6 (ssl eEmbedding o1) <| 
  (iter (f57_0 d o1) ([], 0)).bind fun out_20 =>
  some out_20 : Option (List (List Int)))) rfl (by exact go)
instance : Io0 cx 57 := ⟨rfl⟩
instance i80_0 {l : (List Int)} : Lp cx (f80_0 l x) 18 L80_0 (fun (zs : Int) => [(0, .v (ssl eI l)), (1, .v (iT x)), (5, .v (iT zs))]) (QO (QX 0 (fun (y : Unit) => [])) (QR (fun (y : Bool) => [(4, .v (.bool y))]))) := Lp.of (by unfold f80_0; exact go)
instance i80 {l : (List Int)} : Rn cx (f80 l x) 80 [(ssl eI l), (iT x)] (fun (r : Bool) => (.bool r)) (fun r => []) := Rn.o rfl (by unfold f80; exact go)
instance : Io0 cx 80 := ⟨rfl⟩
instance i141_1 {l : (List (List Int))} : Lp cx (f141_1 l s1 i_1) 36 L141_1 (fun (zs : Bool × Int) => [(0, .v (ssl (eL eI) l)), (1, .v (ssl eI s1)), (5, .v (iT i_1)), (6, .v (.bool zs.1)), (7, .v (iT zs.2))]) (QX 2 (fun (y : Bool) => [(0, .v (ssl (eL eI) l)), (1, .v (ssl eI s1)), (5, .v (iT i_1)), (6, .v (.bool y))])) := Lp.of (f := (fun
 | (all_3, k_4) =>
  (ix l i_1).bind fun v_5 =>
  if k_4 < (v_5.length : Int) then
  (jn (QN (fun (y : Bool) => [(0, .v (ssl (eL eI) l)), (1, .v (ssl eI s1)), (5, .v (iT i_1)), (6, .v (.bool y)), (7, .v (iT k_4))])) ((if all_3 = true then
  (ix v_5 k_4).bind fun v_11 =>
  (f80 s1 v_11).bind fun o13 =>
  some o13
  else
  some false) : Option (Bool))).bind fun all_8 =>
  some (.inl (all_8, w64 (k_4 + 1)))
  else
  some (.inr all_3) : Bool × Int -> Option ((Bool × Int) ⊕ Bool))) (by exact go)
instance i141_0 {l : (List (List Int))} : Lp cx (f141_0 l s1) 36 L141_0 (fun (zs : Int) => [(0, .v (ssl (eL eI) l)), (1, .v (ssl eI s1)), (5, .v (iT zs))]) (QO (QX 0 (fun (y : Unit) => [])) (QR (fun (y : Bool) => [(4, .v (.bool y))]))) := Lp.of (by unfold f141_0; exact go)
instance i141 {l : (List (List Int))} : Rn cx (f141 l s1) 141 [(ssl (eL eI) l), (ssl eI s1)] (fun (r : Bool) => (.bool r)) (fun r => []) := Rn.o rfl (by unfold f141; exact go)
instance : Io0 cx 141 := ⟨rfl⟩
instance i98 {l : (List (List Int))} : Rn cx (f98 l s1) 98 [(ssl (eL eI) l), (ssl eI s1)] (fun (r : Bool) => (.bool r)) (fun r => []) := Rn.o rfl (by unfold f98; exact go)
instance : Io0 cx 98 := ⟨rfl⟩
instance i127_1 {l : (List (List Int))} : Lp cx (lw l (f127_1 blocks s2 i_1)) 67 L127_1 (fun (zs : Bool × Int) => [(0, .v (ssl (eL eI) l)), (1, .v (ssl (eL eI) blocks)), (2, .v (ssl eI s2)), (7, .v (iT i_1)), (8, .v (.bool zs.1)), (9, .v (iT zs.2))]) (QX 2 (fun (y : Bool) => [(0, .v (ssl (eL eI) l)), (1, .v (ssl (eL eI) blocks)), (2, .v (ssl eI s2)), (7, .v (iT i_1)), (8, .v (.bool y))])) := Lp.of (f := (fun
 | (is_3, k_4) =>
  (ix blocks i_1).bind fun v_5 =>
  if k_4 < (v_5.length : Int) then
  (jn (QN (fun (y : Bool) => [(0, .v (ssl (eL eI) l)), (1, .v (ssl (eL eI) blocks)), (2, .v (ssl eI s2)), (7, .v (iT i_1)), (8, .v (.bool y)), (9, .v (iT k_4))])) ((if is_3 = true then
  (ix v_5 k_4).bind fun v_11 =>
  (f80 s2 v_11).bind fun o13 =>
  some (decide (¬ (o13 = true)))
  else
  some false) : Option (Bool))).bind fun is_8 =>
  some (.inl (is_8, w64 (k_4 + 1)))
  else
  some (.inr is_3) : Bool × Int -> Option ((Bool × Int) ⊕ Bool))) (by exact go)
instance i127_2 {l : (List (List Int))} : Lp cx (f127_2 l blocks s2 i_1) 67 L127_2 (fun (zs : Bool × Int) => [(0, .v (ssl (eL eI) l)), (1, .v (ssl (eL eI) blocks)), (2, .v (ssl eI s2)), (7, .v (iT i_1)), (8, .v (.bool zs.1)), (10, .v (iT zs.2))]) (QX 4 (fun (y : Bool) => [(0, .v (ssl (eL eI) l)), (1, .v (ssl (eL eI) blocks)), (2, .v (ssl eI s2)), (7, .v (iT i_1)), (8, .v (.bool y))])) := Lp.of (f := (fun
 | (is_18, k_19) =>
  (ix blocks i_1).bind fun v_20 =>
  (jn (QN (fun (y : Bool) => [(0, .v (ssl (eL eI) l)), (1, .v (ssl (eL eI) blocks)), (2, .v (ssl eI s2)), (7, .v (iT i_1)), (8, .v (.bool is_18)), (10, .v (iT k_19)), (48, .v (.bool y))])) ((if k_19 < (v_20.length : Int) then
  some is_18
  else
  some false) : Option (Bool))).bind fun x_22 =>
  if x_22 = true then
  (ix v_20 k_19).bind fun v_26 =>
  (app 8 ([]) s2).bind fun l_28 =>
  (app 8 l_28 ([v_26])).bind fun l_30 =>
  sn 13 63 (osl eI true l_30) <| 
  (f98 l l_30).bind fun o32 =>
  some (.inl (o32, w64 (k_19 + 1)))
  else
  some (.inr is_18) : Bool × Int -> Option ((Bool × Int) ⊕ Bool))) (by exact go)
instance i127_0 {l : (List (List Int))} : Lp cx (f127_0 l blocks s2) 67 L127_0 (fun (zs : Int) => [(0, .v (ssl (eL eI) l)), (1, .v (ssl (eL eI) blocks)), (2, .v (ssl eI s2)), (7, .v (iT zs))]) (QO (QX 0 (fun (y : Unit) => [])) (QR (fun (y : Int) => [(6, .v (iT y))]))) := Lp.of (f := (fun
 | i_1 =>
  if i_1 < (blocks.length : Int) then
  (iter (lw l  (f127_1 blocks s2 i_1)) (true, 0)).bind fun is_17 =>
  (iter (f127_2 l blocks s2 i_1) (is_17, 0)).bind fun is_36 =>
  if is_36 = true then
  some (.inr (.inr i_1))
  else
  some (.inl (w64 (i_1 + 1)))
  else
  some (.inr (.inl ())) : Int -> Option (Int ⊕ (Unit ⊕ Int)))) (by exact go)
instance i127 {l : (List (List Int))} : Rn cx (f127 l blocks s2) 127 [(ssl (eL eI) l), (ssl (eL eI) blocks), (ssl eI s2)] (fun (r : Int) => (iT r)) (fun r => []) := Rn.o rfl (by unfold f127; exact go)
instance : Io0 cx 127 := ⟨rfl⟩
instance i126_0 : Lp cx (lw d (f126_0 o4 o6)) 87 L126_0 (fun (zs : (List (List Int)) × (List Bool) × Int) => [(2, .v (.ptr true [(ssl eRelation d.Relations), (ssl eFact d.Facts)])), (5, .v (osl (eL eI) false zs.1)), (6, .v (osl (eL eI) false o4)), (7, .v (osl (eL eI) false o6)), (8, .v (osl eB true zs.2.1)), (9, .v (iT zs.2.2))]) (QX 0 (fun (y : (List (List Int)) × (List Bool)) => [(2, .v (.ptr true [(ssl eRelation d.Relations), (ssl eFact d.Facts)])), (5, .v (osl (eL eI) false y.1)), (6, .v (osl (eL eI) false o4)), (8, .v (osl eB true y.2))])) := Lp.of (f := (fun
 | (out_10, known_11, i_12) =>
  if i_12 < (o4.length : Int) then
  (ix o4 i_12).bind fun v_14 =>
  (f98 o6 v_14).bind fun o16 =>
  (jn (QN (fun (y : (List (List Int)) × (List Bool)) => [(2, .v (.ptr true [(ssl eRelation d.Relations), (ssl eFact d.Facts)])), (5, .v (osl (eL eI) false y.1)), (6, .v (osl (eL eI) false o4)), (7, .v (osl (eL eI) false o6)), (8, .v (osl eB true y.2)), (9, .v (iT i_12))])) ((if o16 = true then
  (ix known_11 i_12).bind fun v_21 =>
  (app 24 out_10 ([v_14])).bind fun l_24 =>
  some (l_24, (known_11.set i_12.toNat true))
  else
  some (out_10, known_11)) : Option ((List (List Int)) × (List Bool)))).bind fun (out_26, known_27) =>
  some (.inl (out_26, known_27, w64 (i_12 + 1)))
  else
  some (.inr (out_10, known_11)) : (List (List Int)) × (List Bool) × Int -> Option (((List (List Int)) × (List Bool) × Int) ⊕ ((List (List Int)) × (List Bool))))) (by exact go)
instance i126_2 : Lp cx (f126_2 o4 o32) 87 L126_2 (fun (zs : (List (List Int)) × (List Bool) × Bool × Int) => [(5, .v (osl (eL eI) false zs.1)), (6, .v (osl (eL eI) false o4)), (8, .v (osl eB true zs.2.1)), (10, .v (osl (eL eI) true o32)), (11, .v (.bool zs.2.2.1)), (12, .v (iT zs.2.2.2))]) (QX 4 (fun (y : (List (List Int)) × (List Bool) × Bool) => [(5, .v (osl (eL eI) false y.1)), (6, .v (osl (eL eI) false o4)), (8, .v (osl eB true y.2.1)), (10, .v (osl (eL eI) true o32)), (11, .v (.bool y.2.2))])) := Lp.of (f := (fun
 | (out_38, known_39, more_40, i_41) =>
  if i_41 < (o4.length : Int) then
  (ix known_39 i_41).bind fun v_43 =>
  (jn (QN (fun (y : Bool) => [(5, .v (osl (eL eI) false out_38)), (6, .v (osl (eL eI) false o4)), (8, .v (osl eB true known_39)), (10, .v (osl (eL eI) true o32)), (11, .v (.bool more_40)), (12, .v (iT i_41)), (75, .v (.bool y))])) ((if ¬ (v_43 = true) then
  (ix o4 i_41).bind fun v_48 =>
  (f127 out_38 o32 v_48).bind fun o50 =>
  some (decide (o50 >= 0))
  else
  some false) : Option (Bool))).bind fun x_45 =>
  (jn (QN (fun (y : (List (List Int)) × (List Bool) × Bool) => [(5, .v (osl (eL eI) false y.1)), (6, .v (osl (eL eI) false o4)), (8, .v (osl eB true y.2.1)), (10, .v (osl (eL eI) true o32)), (11, .v (.bool y.2.2)), (12, .v (iT i_41))])) ((if x_45 = true then
  (ix o4 i_41).bind fun v_56 =>
  (app 24 out_38 ([v_56])).bind fun l_58 =>
  some (l_58, (known_39.set i_41.toNat true), true)
  else
  some (out_38, known_39, more_40)) : Option ((List (List Int)) × (List Bool) × Bool))).bind fun (out_60, known_61, more_62) =>
  some (.inl (out_60, known_61, more_62, w64 (i_41 + 1)))
  else
  some (.inr (out_38, known_39, more_40)) : (List (List Int)) × (List Bool) × Bool × Int -> Option (((List (List Int)) × (List Bool) × Bool × Int) ⊕ ((List (List Int)) × (List Bool) × Bool)))) (by exact go)
instance i126_1 : Lp cx (f126_1 o4 o32) 87 L126_1 (fun (zs : (List (List Int)) × (List Bool) × Bool) => [(5, .v (osl (eL eI) false zs.1)), (6, .v (osl (eL eI) false o4)), (8, .v (osl eB true zs.2.1)), (10, .v (osl (eL eI) true o32)), (11, .v (.bool zs.2.2))]) (QX 2 (fun (y : (List (List Int))) => [(5, .v (osl (eL eI) false y))])) := Lp.of (by unfold f126_1; exact go)
instance i126 : Rn cx (f126 d q) 126 [(.agg [(ssl eRelation d.Relations), (ssl eFact d.Facts)]), (.agg [(iT q.VariableCount), (ssl eAtom q.Atoms), (ssl eI q.Free)])] (fun (r : (List (List Int))) => (osl (eL eI) false r)) (fun r => []) := Rn.o (e := (
  sn 5 5 (osl (eL eI) false ([])) <| 
  (f56 d q).bind fun o1 =>
  if ¬ (o1 = true) then
  some ([])
  else
  (f159 d (q.Atoms.length : Int)).bind fun o4 =>
  (f57 d q).bind fun o6 =>
  (mkl 1 (o4.length : Int) false).bind fun l_8 =>
  sn 5 8 (osl eB true l_8) <| 
  (iter (lw d  (f126_0 o4 o6)) ([], l_8, 0)).bind fun (out_30, known_31) =>
  (f58 d).bind fun o32 =>
  (iter (f126_1 o4 o32) (out_30, known_31, true)).bind fun out_70 =>
  some out_70 : Option (List (List Int)))) rfl (by exact go)
instance : Io0 cx 126 := ⟨rfl⟩
instance i125 : Rn cx (f125 d q) 125 [(.agg [(ssl eRelation d.Relations), (ssl eFact d.Facts)]), (.agg [(iT q.VariableCount), (ssl eAtom q.Atoms), (ssl eI q.Free)])] (fun (r : Bool) => (.bool r)) (fun r => []) := Rn.o (e := (
  (f126 d q).bind fun o1 =>
  sn 1 8 (osl eI true ([])) <| 
  (f98 o1 ([])).bind fun o3 =>
  some o3 : Option Bool)) rfl (by exact go)
instance : Io0 cx 125 := ⟨rfl⟩
instance i83_0 {o8 : (List (List Int))} : Lp cx (f83_0 o4 o6 o8) 67 L83_0 (fun (zs : (List DerivationStep) × Int) => [(6, .v (osl eDerivationStep true zs.1)), (7, .v (ssl (eL eI) o4)), (8, .v (osl (eL eI) false o6)), (9, .v (osl (eL eI) true o8)), (10, .v (iT zs.2))]) (QO (QX 0 (fun (y : (List DerivationStep)) => [(6, .v (osl eDerivationStep true y))])) (QR (fun (y : (List DerivationStep) × Bool) => [(4, .v (osl eDerivationStep true y.1)), (5, .v (.bool y.2))]))) := Lp.of (f := (fun
 | (out_10, i_11) =>
  if i_11 < (o4.length : Int) then
  (ix o4 i_11).bind fun v_13 =>
  (f98 o6 v_13).bind fun o15 =>
  (jn (QN (fun (y : Int) => [(6, .v (osl eDerivationStep true out_10)), (7, .v (ssl (eL eI) o4)), (8, .v (osl (eL eI) false o6)), (9, .v (osl (eL eI) true o8)), (10, .v (iT i_11)), (11, .v (iT y))])) ((if ¬ (o15 = true) then
  (cutL o4 0 i_11).bind fun l_20 =>
  (f127 l_20 o8 v_13).bind fun o22 =>
  some o22
  else
  some (-1)) : Option Int)).bind fun k_24 =>
  (app 8 ([]) v_13).bind fun l_25 =>
  sn 8 54 (osl eI true l_25) <| 
  (app 32 out_10 ([({ Facts := l_25, Block := k_24 } : DerivationStep)])).bind fun l_27 =>
  if (v_13.length : Int) = 0 then
  some (.inr (.inr (l_27, true)))
  else
  some (.inl (l_27, w64 (i_11 + 1)))
  else
  some (.inr (.inl out_10)) : (List DerivationStep) × Int -> Option (((List DerivationStep) × Int) ⊕ ((List DerivationStep) ⊕ ((List DerivationStep) × Bool))))) (by exact go)
instance i83 : Rn cx (f83 d q) 83 [(.agg [(ssl eRelation d.Relations), (ssl eFact d.Facts)]), (.agg [(iT q.VariableCount), (ssl eAtom q.Atoms), (ssl eI q.Free)])] (fun (r : (List DerivationStep) × Bool) => (.tup [(osl eDerivationStep true r.1), (.bool r.2)])) (fun r => []) := Rn.o (e := (
  sn 6 6 (osl eDerivationStep true ([])) <| 
  (f125 d q).bind fun o1 =>
  if ¬ (o1 = true) then
  some ([], false)
  else
  (f126 d q).bind fun o4 =>
  sn 1 7 (ssl (eL eI) o4) <| 
  (f57 d q).bind fun o6 =>
  (f58 d).bind fun o8 =>
  (iter (f83_0 o4 o6 o8) ([], 0)).bind fun o => match o with
  | .inl out_32 =>
  some (out_32, false)
  | .inr (x_33, x_34) =>
  some (x_33, x_34) : Option ((List DerivationStep) × Bool))) rfl (by exact go)
instance : Io0 cx 83 := ⟨rfl⟩
instance i160_0 {l : (List ConflictEdge)} : Lp cx (f160_0 l s1) 28 L160_0 (fun (zs : Int) => [(0, .v (ssl eConflictEdge l)), (1, .v (ssl eI s1)), (5, .v (iT zs))]) (QO (QX 0 (fun (y : Unit) => [])) (QR (fun (y : Bool) => [(4, .v (.bool y))]))) := Lp.of (f := (fun
 | i_1 =>
  if i_1 < (l.length : Int) then
  (ix l i_1).bind fun v_3 =>
  (f80 s1 v_3.A).bind fun o5 =>
  (jn (QN (fun (y : Bool) => [(0, .v (ssl eConflictEdge l)), (1, .v (ssl eI s1)), (5, .v (iT i_1)), (27, .v (.bool y))])) ((if o5 = true then
  (f80 s1 v_3.B).bind fun o10 =>
  some o10
  else
  some false) : Option (Bool))).bind fun x_7 =>
  if x_7 = true then
  some (.inr (.inr false))
  else
  some (.inl (w64 (i_1 + 1)))
  else
  some (.inr (.inl ())) : Int -> Option (Int ⊕ (Unit ⊕ Bool)))) (by exact go)
instance i160 {l : (List ConflictEdge)} : Rn cx (f160 l s1) 160 [(ssl eConflictEdge l), (ssl eI s1)] (fun (r : Bool) => (.bool r)) (fun r => []) := Rn.o rfl (by unfold f160; exact go)
instance : Io0 cx 160 := ⟨rfl⟩
instance i128 {l : (List ConflictEdge)} : Rn cx (f128 l s1 x) 128 [(ssl eConflictEdge l), (ssl eI s1), (iT x)] (fun (r : Bool) => (.bool r)) (fun r => []) := Rn.o (e := (
  (f80 s1 x).bind fun o1 =>
  (jn (QN (fun (y : Bool) => [(6, .v (.bool y))])) ((if ¬ (o1 = true) then
  (app 8 ([]) s1).bind fun l_6 =>
  (app 8 l_6 ([x])).bind fun l_8 =>
  sn 0 18 (osl eI true l_8) <| 
  (f160 l l_8).bind fun o10 =>
  some o10
  else
  some false) : Option (Bool))).bind fun x_3 =>
  some x_3 : Option Bool)) rfl (by exact go)
instance : Io0 cx 128 := ⟨rfl⟩
instance i84_0 {l : (List ConflictEdge)} : Lp cx (f84_0 n1 l) 38 L84_0 (fun (zs : (List Int) × Int × Int × (List Int) × Int) => [(0, .v (.ptr true [(ssl eU zs.1), (iT zs.2.1), (iT zs.2.2.1)])), (1, .v (iT n1)), (2, .v (ssl eConflictEdge l)), (7, .v (osl eI true zs.2.2.2.1)), (8, .v (iT zs.2.2.2.2))]) (QX 0 (fun (y : (List Int) × Int × Int × (List Int)) => [(0, .v (.ptr true [(ssl eU y.1), (iT y.2.1), (iT y.2.2.1)])), (1, .v (iT n1)), (7, .v (osl eI true y.2.2.2))])) := Lp.of (f := (fun
 | (c_1, c_2, c_3, s_4, x_5) =>
  if x_5 < n1 then
  (f21 ({ b := c_1, i := c_2, h := c_3 } : L1Cur) 2).bind fun o7 =>
  (jn (QN (fun (y : (List Int) × Int × Int × Bool) => [(0, .v (.ptr true [(ssl eU y.1), (iT y.2.1), (iT y.2.2.1)])), (1, .v (iT n1)), (2, .v (ssl eConflictEdge l)), (7, .v (osl eI true s_4)), (8, .v (iT x_5)), (26, .v (.bool y.2.2.2))])) ((if o7.1 = true then
  (f21 o7.2 8).bind fun o15 =>
  (jn (QN (fun (y : Bool) => [(0, .v (.ptr true [(ssl eU o15.2.b), (iT o15.2.i), (iT o15.2.h)])), (1, .v (iT n1)), (2, .v (ssl eConflictEdge l)), (7, .v (osl eI true s_4)), (8, .v (iT x_5)), (26, .v (.bool y))])) ((if o15.1 = true then
  some true
  else
  (f128 l s_4 x_5).bind fun o20 =>
  some o20) : Option (Bool))).bind fun x_17 =>
  some (o15.2.b, o15.2.i, o15.2.h, x_17)
  else
  some (o7.2.b, o7.2.i, o7.2.h, false)) : Option ((List Int) × Int × Int × Bool))).bind fun (c_9, c_10, c_11, x_12) =>
  (jn (QN (fun (y : (List Int)) => [(0, .v (.ptr true [(ssl eU c_9), (iT c_10), (iT c_11)])), (1, .v (iT n1)), (2, .v (ssl eConflictEdge l)), (7, .v (osl eI true y)), (8, .v (iT x_5))])) ((if x_12 = true then
  (app 8 s_4 ([x_5])).bind fun l_25 =>
  some l_25
  else
  some s_4) : Option (List Int))).bind fun s_27 =>
  some (.inl (c_9, c_10, c_11, s_27, w64 (x_5 + 1)))
  else
  some (.inr (c_1, c_2, c_3, s_4)) : (List Int) × Int × Int × (List Int) × Int -> Option (((List Int) × Int × Int × (List Int) × Int) ⊕ ((List Int) × Int × Int × (List Int))))) (by exact go)
instance i84 {l : (List ConflictEdge)} : Rn cx (f84 c n1 l) 84 [(.ptr true [(ssl eU c.b), (iT c.i), (iT c.h)]), (iT n1), (ssl eConflictEdge l)] (fun (r : (List Int) × L1Cur) => (osl eI true r.1)) (fun r => [(.ptr true [(ssl eU r.2.b), (iT r.2.i), (iT r.2.h)])]) := Rn.o (e := (
  sn 3 7 (osl eI true ([])) <| 
  (iter (f84_0 n1 l) (c.b, c.i, c.h, [], 0)).bind fun (c_30, c_31, c_32, s_33) =>
  (f21 ({ b := c_30, i := c_31, h := c_32 } : L1Cur) 12).bind fun o34 =>
  if o34.1 = true then
  (app 8 s_33 ([n1])).bind fun l_37 =>
  some (l_37, o34.2)
  else
  some (s_33, o34.2) : Option ((List Int) × L1Cur))) rfl (by exact go)
instance i45 : Rn cx (f45 c d q) 45 [(.ptr true [(ssl eU c.b), (iT c.i), (iT c.h)]), (.agg [(ssl eRelation d.Relations), (ssl eFact d.Facts)]), (.agg [(iT q.VariableCount), (ssl eAtom q.Atoms), (ssl eI q.Free)])] (fun (r : (List DerivationStep) × L1Cur) => (ssl eDerivationStep r.1)) (fun r => [(.ptr true [(ssl eU r.2.b), (iT r.2.i), (iT r.2.h)])]) := Rn.o (e := (
  (f83 d q).bind fun o1 =>
  if (o1.1.length : Int) = 0 then
  (f84 c (d.Facts.length : Int) ([] : (List ConflictEdge))).bind fun o4 =>
  (f20 o4.2 4).bind fun o6 =>
  sn 4 6 (osl eDerivationStep true ([({ Facts := o4.1, Block := w64 (o6.1 - 1) } : DerivationStep)])) <| 
  some ([({ Facts := o4.1, Block := w64 (o6.1 - 1) } : DerivationStep)], o6.2)
  else
  (f20 c (o1.1.length : Int)).bind fun o8 =>
  (f20 o8.2 6).bind fun o10 =>
  (jn (QN (fun (y : (List Int) × Int × Int × (List DerivationStep)) => [(0, .v (.ptr true [(ssl eU y.1), (iT y.2.1), (iT y.2.2.1)])), (7, .v (ssl eDerivationStep y.2.2.2))])) ((if o10.1 = 0 then
  (f20 o10.2 7).bind fun o15 =>
  (ix o1.1 o8.1).bind fun v_17 =>
  some (o15.2.b, o15.2.i, o15.2.h, (o1.1.set o8.1.toNat ({ Facts := v_17.Facts, Block := w64 (o15.1 - 1) } : DerivationStep)))
  else
  (jn (QN (fun (y : (List Int) × Int × Int × (List DerivationStep)) => [(0, .v (.ptr true [(ssl eU y.1), (iT y.2.1), (iT y.2.2.1)])), (7, .v (ssl eDerivationStep y.2.2.2))])) ((if o10.1 = 1 then
  (f84 o10.2 (d.Facts.length : Int) ([] : (List ConflictEdge))).bind fun o23 =>
  (ix o1.1 o8.1).bind fun v_25 =>
  some (o23.2.b, o23.2.i, o23.2.h, (o1.1.set o8.1.toNat ({ Facts := o23.1, Block := v_25.Block } : DerivationStep)))
  else
  (jn (QN (fun (y : (List DerivationStep)) => [(0, .v (.ptr true [(ssl eU o10.2.b), (iT o10.2.i), (iT o10.2.h)])), (7, .v (ssl eDerivationStep y))])) ((if o10.1 = 2 then
  (dlk 32 o1.1 o8.1).bind fun z_31 =>
  dl 2 <| 
  some (o1.1.eraseIdx o8.1.toNat)
  else
  some o1.1) : Option (List DerivationStep))).bind fun l_33 =>
  some (o10.2.b, o10.2.i, o10.2.h, l_33)) : Option ((List Int) × Int × Int × (List DerivationStep)))).bind fun (c_34, c_35, c_36, l_37) =>
  some (c_34, c_35, c_36, l_37)) : Option ((List Int) × Int × Int × (List DerivationStep)))).bind fun (c_38, c_39, c_40, l_41) =>
  some (l_41, ({ b := c_38, i := c_39, h := c_40 } : L1Cur)) : Option ((List DerivationStep) × L1Cur))) rfl (by exact go)
instance i12_0 {o1 : (L1Cur × Database × Query)} : Lp cx (lw o1 f12_0) 32 L12_0 (fun (zs : (List Relation) × (List Fact)) => [(2, .v (.ptr true [(osl eRelation true ([])), (osl eFact true ([]))])), (3, .v (.ptr true [(iT 0), (osl eAtom true ([])), (osl eI true ([]))])), (5, .v (.ptr true [(ssl eU o1.1.b), (iT o1.1.i), (iT o1.1.h)])), (6, .v (.ptr true [(ssl eRelation zs.1), (ssl eFact zs.2)])), (7, .v (.ptr false [(iT o1.2.2.VariableCount), (ssl eAtom o1.2.2.Atoms), (ssl eI o1.2.2.Free)]))]) (QX 0 (fun (y : (List Relation) × (List Fact)) => [(2, .v (.ptr true [(osl eRelation true ([])), (osl eFact true ([]))])), (3, .v (.ptr true [(iT 0), (osl eAtom true ([])), (osl eI true ([]))])), (5, .v (.ptr true [(ssl eU o1.1.b), (iT o1.1.i), (iT o1.1.h)])), (6, .v (.ptr true [(ssl eRelation y.1), (ssl eFact y.2)])), (7, .v (.ptr false [(iT o1.2.2.VariableCount), (ssl eAtom o1.2.2.Atoms), (ssl eI o1.2.2.Free)]))])) := Lp.of (by unfold lw f12_0; exact go)
instance i12 : Rn cx (f12 code) 12 [(ssl eU code)] (fun (r : Database × Query × (List DerivationStep)) => (.tup [(.agg [(ssl eRelation r.1.Relations), (ssl eFact r.1.Facts)]), (.agg [(iT r.2.1.VariableCount), (ssl eAtom r.2.1.Atoms), (ssl eI r.2.1.Free)]), (ssl eDerivationStep r.2.2)])) (fun r => []) := Rn.o (e := (
  sn 3 2 (.ptr true [(osl eRelation true ([])), (osl eFact true ([]))]) <| 
  sn 0 3 (.ptr true [(iT 0), (osl eAtom true ([])), (osl eI true ([]))]) <| 
  (f44 code).bind fun o1 =>
  sn 9 7 (.ptr false [(iT o1.2.2.VariableCount), (ssl eAtom o1.2.2.Atoms), (ssl eI o1.2.2.Free)]) <| 
  (iter (lw o1  f12_0) (o1.2.1.Relations, o1.2.1.Facts)).bind fun (d_10, d_11) =>
  (f45 o1.1 ({ Relations := d_10, Facts := d_11 } : Database) o1.2.2).bind fun o12 =>
  some (({ Relations := d_10, Facts := d_11 } : Database), o1.2.2, o12.1) : Option (Database × Query × (List DerivationStep)))) rfl (by exact go)
instance : Io0 cx 12 := ⟨rfl⟩
instance i46_0 : Lp cx (f46_0 steps) 25 L46_0 (fun (zs : (List DerivationStep) × Int) => [(3, .v (osl eDerivationStep true zs.1)), (7, .v (ssl eDerivationStep steps)), (8, .v (iT (steps.length : Int))), (9, .v (iT zs.2))]) (QX 0 (fun (y : (List DerivationStep)) => [(3, .v (osl eDerivationStep true y))])) := Lp.of (f := (fun
 | (out_1, x_2) =>
  if x_2 < (steps.length : Int) then
  (ix steps x_2).bind fun v_4 =>
  (app 8 ([]) v_4.Facts).bind fun l_6 =>
  sn 11 17 (osl eI true l_6) <| 
  (app 32 out_1 ([({ Facts := l_6, Block := v_4.Block } : DerivationStep)])).bind fun l_8 =>
  some (.inl (l_8, w64 (x_2 + 1)))
  else
  some (.inr out_1) : (List DerivationStep) × Int -> Option (((List DerivationStep) × Int) ⊕ (List DerivationStep)))) (by exact go)
instance i46 : Rn cx (f46 steps) 46 [(ssl eDerivationStep steps)] (fun (r : (List DerivationStep)) => (osl eDerivationStep true r)) (fun r => []) := Rn.o (e := (
  sn 3 3 (osl eDerivationStep true ([])) <| 
  (iter (f46_0 steps) ([], 0)).bind fun out_12 =>
  some out_12 : Option (List DerivationStep))) rfl (by exact go)
instance : Io0 cx 46 := ⟨rfl⟩
instance i31 : Rn cx (f31 n0 low high) 31 [(iT n0), (iT low), (iT high)] (fun (r : Bool) => (.bool r)) (fun r => []) := Rn.o (e := (
  (jn (QN (fun (y : Bool) => [(6, .v (.bool y))])) ((if low <= n0 then
  some (decide (n0 <= high))
  else
  some false) : Option (Bool))).bind fun x_1 =>
  some x_1 : Option Bool)) rfl (by exact go)
instance : Io0 cx 31 := ⟨rfl⟩
instance i74 {relation : Relation} : Rn cx (f74 relation) 74 [(.agg [(.str relation.Name), (iT relation.Arity), (iT relation.KeyLength)])] (fun (r : Bool) => (.bool r)) (fun r => []) := Rn.o (e := (
  (jn (QN (fun (y : Bool) => [(2, .v (.bool y))])) ((if (relation.Name.length : Int) = 1 then
  (ix relation.Name 0).bind fun c_4 =>
  (jn (QN (fun (y : Bool) => [(2, .v (.bool y))])) ((if (c_4.toNat : Int) >= 97 then
  (jn (QN (fun (y : Bool) => [(2, .v (.bool y))])) ((if (c_4.toNat : Int) <= 122 then
  (f31 relation.Arity 1 3).bind fun o12 =>
  (jn (QN (fun (y : Bool) => [(2, .v (.bool y))])) ((if o12 = true then
  (f31 relation.KeyLength 0 relation.Arity).bind fun o17 =>
  some o17
  else
  some false) : Option (Bool))).bind fun x_14 =>
  some x_14
  else
  some false) : Option (Bool))).bind fun x_9 =>
  some x_9
  else
  some false) : Option (Bool))).bind fun x_6 =>
  some x_6
  else
  some false) : Option (Bool))).bind fun x_1 =>
  some x_1 : Option Bool)) rfl (by exact go)
instance : Io0 cx 74 := ⟨rfl⟩
instance i30_0 : Lp cx (f30_0 relations) 34 L30_0 (fun (zs : Int) => [(0, .v (ssl eRelation relations)), (5, .v (ssl eRelation relations)), (6, .v (iT (relations.length : Int))), (7, .v (iT zs))]) (QO (QX 0 (fun (y : Unit) => [(0, .v (ssl eRelation relations))])) (QR (fun (y : Bool) => [(2, .v (.bool y))]))) := Lp.of (f := (fun
 | x_1 =>
  if x_1 < (relations.length : Int) then
  (ix relations x_1).bind fun v_3 =>
  (f74 v_3).bind fun o5 =>
  (jn (QN (fun (y : Bool) => [(0, .v (ssl eRelation relations)), (5, .v (ssl eRelation relations)), (6, .v (iT (relations.length : Int))), (7, .v (iT x_1)), (29, .v (.bool y))])) ((if ¬ (o5 = true) then
  some true
  else
  (jn (QN (fun (y : Bool) => [(0, .v (ssl eRelation relations)), (5, .v (ssl eRelation relations)), (6, .v (iT (relations.length : Int))), (7, .v (iT x_1)), (29, .v (.bool y))])) ((if x_1 > 0 then
  (ix relations (w64 (x_1 - 1))).bind fun v_13 =>
  some (!(Op.bytesLess v_13.Name v_3.Name))
  else
  some false) : Option (Bool))).bind fun x_10 =>
  some x_10) : Option (Bool))).bind fun x_7 =>
  if x_7 = true then
  some (.inr (.inr false))
  else
  some (.inl (w64 (x_1 + 1)))
  else
  some (.inr (.inl ())) : Int -> Option (Int ⊕ (Unit ⊕ Bool)))) (by exact go)
instance i30 : Rn cx (f30 relations) 30 [(ssl eRelation relations)] (fun (r : Bool) => (.bool r)) (fun r => []) := Rn.o rfl (by unfold f30; exact go)
instance : Io0 cx 30 := ⟨rfl⟩
instance i75_0 {s0 : (List Int)} {g_f : Nat} {cp_f : List T} {f : Int -> Option Bool} [hp_f : ∀ x0, Rn cx (f x0) g_f ((iT x0) :: cp_f) (fun o => (.bool o)) (fun _ => [])] [Io0 cx g_f] : Lp cx (f75_0 s0 f) 19 L75_0 (fun (zs : Int) => [(0, .v (ssl eI s0)), (1, .v (.fn g_f cp_f)), (7, .v (iT (s0.length : Int))), (8, .v (iT zs))]) (QO (QX 0 (fun (y : Unit) => [])) (QR (fun (y : Int) => [(4, .v (iT y))]))) := Lp.of (by unfold f75_0; exact go)
instance i75 {s0 : (List Int)} {g_f : Nat} {cp_f : List T} {f : Int -> Option Bool} [hp_f : ∀ x0, Rn cx (f x0) g_f ((iT x0) :: cp_f) (fun o => (.bool o)) (fun _ => [])] [Io0 cx g_f] : Rn cx (f75 s0 f) 75 [(ssl eI s0), (.fn g_f cp_f)] (fun (r : Int) => (iT r)) (fun r => []) := Rn.o rfl (by unfold f75; exact go)
instance : Io0 cx 75 := ⟨rfl⟩
instance i32 {s0 : (List Int)} {g_f : Nat} {cp_f : List T} {f : Int -> Option Bool} [hp_f : ∀ x0, Rn cx (f x0) g_f ((iT x0) :: cp_f) (fun o => (.bool o)) (fun _ => [])] [Io0 cx g_f] : Rn cx (f32 s0 f) 32 [(ssl eI s0), (.fn g_f cp_f)] (fun (r : Bool) => (.bool r)) (fun r => []) := Rn.o rfl (by unfold f32; exact go)
instance : Io0 cx 32 := ⟨rfl⟩
instance i154 : Rn cx (f154 v) 154 [(iT v)] (fun (r : Bool) => (.bool r)) (fun r => []) := Rn.o rfl (by unfold f154; exact go)
instance : Io0 cx 154 := ⟨rfl⟩
instance i112 : Rn cx (f112 list) 112 [(ssl eI list)] (fun (r : Bool) => (.bool r)) (fun r => []) := Rn.o rfl (by unfold f112; exact go)
instance : Io0 cx 112 := ⟨rfl⟩
instance i68 {fact : Fact} : Rn cx (f68 relations fact) 68 [(ssl eRelation relations), (.agg [(iT fact.Relation), (ssl eI fact.Values)])] (fun (r : Bool) => (.bool r)) (fun r => []) := Rn.o (e := (
  (f31 fact.Relation 0 (w64 ((relations.length : Int) - 1))).bind fun o1 =>
  (jn (QN (fun (y : Bool) => [(4, .v (.bool y))])) ((if o1 = true then
  (ix relations fact.Relation).bind fun v_6 =>
  (jn (QN (fun (y : Bool) => [(4, .v (.bool y))])) ((if (fact.Values.length : Int) = v_6.Arity then
  (f112 fact.Values).bind fun o11 =>
  some o11
  else
  some false) : Option (Bool))).bind fun x_8 =>
  some x_8
  else
  some false) : Option (Bool))).bind fun x_3 =>
  some x_3 : Option Bool)) rfl (by exact go)
instance : Io0 cx 68 := ⟨rfl⟩
instance i113 {a : Int} {b : Int} : Rn cx (f113 a b) 113 [(iT a), (iT b)] (fun (r : Int) => (iT r)) (fun r => []) := Rn.o rfl (by unfold f113; exact go)
instance : Io0 cx 113 := ⟨rfl⟩
instance i181 : Rn cx (f181 x) 181 [(iT x)] (fun (r : Bool) => (.bool r)) (fun r => []) := Rn.o rfl (by unfold f181; exact go)
instance : Io0 cx 181 := ⟨rfl⟩
instance i155 : Rn cx (f155 x y) 155 [(iT x), (iT y)] (fun (r : Int) => (iT r)) (fun r => []) := Rn.o rfl (by unfold f155; exact go)
instance : Io0 cx 155 := ⟨rfl⟩
instance i114_0 : Lp cx (f114_0 s1 s2) 36 L114_0 (fun (zs : Int) => [(0, .v (ssl eI s1)), (1, .v (ssl eI s2)), (9, .v (ssl eI s1)), (10, .v (iT (s1.length : Int))), (11, .v (iT zs))]) (QO (QX 0 (fun (y : Unit) => [(0, .v (ssl eI s1)), (1, .v (ssl eI s2))])) (QR (fun (y : Int) => [(4, .v (iT y))]))) := Lp.of (by unfold f114_0; exact go)
instance i114 : Rn cx (f114 s1 s2) 114 [(ssl eI s1), (ssl eI s2)] (fun (r : Int) => (iT r)) (fun r => []) := Rn.o rfl (by unfold f114; exact go)
instance : Io0 cx 114 := ⟨rfl⟩
instance i69 {a : Fact} {b : Fact} : Rn cx (f69 a b) 69 [(.agg [(iT a.Relation), (ssl eI a.Values)]), (.agg [(iT b.Relation), (ssl eI b.Values)])] (fun (r : Int) => (iT r)) (fun r => []) := Rn.o rfl (by unfold f69; exact go)
instance : Io0 cx 69 := ⟨rfl⟩
instance i24_0 : Lp cx (f24_0 db) 44 L24_0 (fun (zs : Int) => [(1, .v (.ptr true [(ssl eRelation db.Relations), (ssl eFact db.Facts)])), (16, .v (ssl eFact db.Facts)), (17, .v (iT (db.Facts.length : Int))), (18, .v (iT zs))]) (QO (QX 0 (fun (y : Unit) => [])) (QR (fun (y : Bool) => [(2, .v (.bool y))]))) := Lp.of (f := (fun
 | x_7 =>
  if x_7 < (db.Facts.length : Int) then
  (ix db.Facts x_7).bind fun v_9 =>
  (f68 db.Relations v_9).bind fun o11 =>
  (jn (QN (fun (y : Bool) => [(1, .v (.ptr true [(ssl eRelation db.Relations), (ssl eFact db.Facts)])), (16, .v (ssl eFact db.Facts)), (17, .v (iT (db.Facts.length : Int))), (18, .v (iT x_7)), (42, .v (.bool y))])) ((if ¬ (o11 = true) then
  some true
  else
  (jn (QN (fun (y : Bool) => [(1, .v (.ptr true [(ssl eRelation db.Relations), (ssl eFact db.Facts)])), (16, .v (ssl eFact db.Facts)), (17, .v (iT (db.Facts.length : Int))), (18, .v (iT x_7)), (42, .v (.bool y))])) ((if x_7 > 0 then
  (ix db.Facts (w64 (x_7 - 1))).bind fun v_19 =>
  (f69 v_19 v_9).bind fun o21 =>
  some (decide (o21 >= 0))
  else
  some false) : Option (Bool))).bind fun x_16 =>
  some x_16) : Option (Bool))).bind fun x_13 =>
  if x_13 = true then
  some (.inr (.inr false))
  else
  some (.inl (w64 (x_7 + 1)))
  else
  some (.inr (.inl ())) : Int -> Option (Int ⊕ (Unit ⊕ Bool)))) (by exact go)
instance i24 : Rn cx (f24 db) 24 [(.agg [(ssl eRelation db.Relations), (ssl eFact db.Facts)])] (fun (r : Bool) => (.bool r)) (fun r => []) := Rn.o (e := (
  (f30 db.Relations).bind fun o1 =>
  (jn (QN (fun (y : Bool) => [(1, .v (.ptr true [(ssl eRelation db.Relations), (ssl eFact db.Facts)])), (14, .v (.bool y))])) ((if ¬ (o1 = true) then
  some true
  else
  some (decide ((db.Facts.length : Int) > 14))) : Option (Bool))).bind fun x_3 =>
  if x_3 = true then
  some false
  else
  (iter (f24_0 db) 0).bind fun o => match o with
  | .inl _ =>
  some true
  | .inr x_26 =>
  some x_26 : Option Bool)) rfl (by exact go)
instance : Io0 cx 24 := ⟨rfl⟩
instance i129_0 : Lp cx (f129_0 indices n1) 33 L129_0 (fun (zs : Int) => [(0, .v (ssl eI indices)), (1, .v (iT n1)), (7, .v (ssl eI indices)), (8, .v (iT (indices.length : Int))), (9, .v (iT zs))]) (QO (QX 0 (fun (y : Unit) => [])) (QR (fun (y : Bool) => [(4, .v (.bool y))]))) := Lp.of (f := (fun
 | x_1 =>
  if x_1 < (indices.length : Int) then
  (ix indices x_1).bind fun v_3 =>
  (f31 v_3 0 (w64 (n1 - 1))).bind fun o5 =>
  (jn (QN (fun (y : Bool) => [(0, .v (ssl eI indices)), (1, .v (iT n1)), (7, .v (ssl eI indices)), (8, .v (iT (indices.length : Int))), (9, .v (iT x_1)), (31, .v (.bool y))])) ((if ¬ (o5 = true) then
  some true
  else
  (jn (QN (fun (y : Bool) => [(0, .v (ssl eI indices)), (1, .v (iT n1)), (7, .v (ssl eI indices)), (8, .v (iT (indices.length : Int))), (9, .v (iT x_1)), (31, .v (.bool y))])) ((if x_1 > 0 then
  (ix indices (w64 (x_1 - 1))).bind fun v_13 =>
  some (decide (v_13 >= v_3))
  else
  some false) : Option (Bool))).bind fun x_10 =>
  some x_10) : Option (Bool))).bind fun x_7 =>
  if x_7 = true then
  some (.inr (.inr false))
  else
  some (.inl (w64 (x_1 + 1)))
  else
  some (.inr (.inl ())) : Int -> Option (Int ⊕ (Unit ⊕ Bool)))) (by exact go)
instance i129 : Rn cx (f129 indices n1) 129 [(ssl eI indices), (iT n1)] (fun (r : Bool) => (.bool r)) (fun r => []) := Rn.o rfl (by unfold f129; exact go)
instance : Io0 cx 129 := ⟨rfl⟩
instance i161_0 {s0 : (List Atom)} {g_f : Nat} {cp_f : List T} {f : Atom -> Option Bool} [hp_f : ∀ x0, Rn cx (f x0) g_f ((.agg [(iT x0.Relation), (ssl eI x0.Terms)]) :: cp_f) (fun o => (.bool o)) (fun _ => [])] [Io0 cx g_f] : Lp cx (f161_0 s0 f) 19 L161_0 (fun (zs : Int) => [(0, .v (ssl eAtom s0)), (1, .v (.fn g_f cp_f)), (7, .v (iT (s0.length : Int))), (8, .v (iT zs))]) (QO (QX 0 (fun (y : Unit) => [])) (QR (fun (y : Int) => [(4, .v (iT y))]))) := Lp.of (by unfold f161_0; exact go)
instance i161 {s0 : (List Atom)} {g_f : Nat} {cp_f : List T} {f : Atom -> Option Bool} [hp_f : ∀ x0, Rn cx (f x0) g_f ((.agg [(iT x0.Relation), (ssl eI x0.Terms)]) :: cp_f) (fun o => (.bool o)) (fun _ => [])] [Io0 cx g_f] : Rn cx (f161 s0 f) 161 [(ssl eAtom s0), (.fn g_f cp_f)] (fun (r : Int) => (iT r)) (fun r => []) := Rn.o rfl (by unfold f161; exact go)
instance : Io0 cx 161 := ⟨rfl⟩
instance i130 {s0 : (List Atom)} {g_f : Nat} {cp_f : List T} {f : Atom -> Option Bool} [hp_f : ∀ x0, Rn cx (f x0) g_f ((.agg [(iT x0.Relation), (ssl eI x0.Terms)]) :: cp_f) (fun o => (.bool o)) (fun _ => [])] [Io0 cx g_f] : Rn cx (f130 s0 f) 130 [(ssl eAtom s0), (.fn g_f cp_f)] (fun (r : Bool) => (.bool r)) (fun r => []) := Rn.o rfl (by unfold f130; exact go)
instance : Io0 cx 130 := ⟨rfl⟩
instance i131 {own : Atom} {c : Atom} : Rn cx (f131 own c) 131 [(.agg [(iT own.Relation), (ssl eI own.Terms)]), (.ptr false [(iT c.Relation), (ssl eI c.Terms)])] (fun (r : Bool) => (.bool r)) (fun r => []) := Rn.o rfl (by unfold f131; exact go)
instance : Io0 cx 131 := ⟨rfl⟩
theorem r158 {n : Int} {r : Nat} (h : f158 n = some r) : VJx cx (.ca 158 [.nils, .int .i64 n] (.sl true true 1 r []) []) := by
 exact ca_grow (zs := [.int .i64 (0)]) (zt := [(iT 0)]) rfl rfl rfl rfl (by decide) (by decide) h
instance i158 {n : Int} : Rn cx (f158 n) 158 [.nils, .int .i64 n] (fun r => .sl true true 1 r []) (fun _ => []) := ⟨fun _ h => r158 h⟩
instance i121_0 : Lp cx (f121_0 slices) 36 L121_0 (fun (zs : Int × Int) => [(0, .v (ssl (eL eI) slices)), (3, .v (iT zs.1)), (9, .v (ssl (eL eI) slices)), (10, .v (iT (slices.length : Int))), (11, .v (iT zs.2))]) (QX 0 (fun (y : Int) => [(0, .v (ssl (eL eI) slices)), (3, .v (iT y))])) := Lp.of (f := (fun
 | (size_1, x_2) =>
  if x_2 < (slices.length : Int) then
  (ix slices x_2).bind fun v_4 =>
  (jn (QN (fun (y : Unit) => [(0, .v (ssl (eL eI) slices)), (3, .v (iT (w64 (size_1 + (v_4.length : Int))))), (9, .v (ssl (eL eI) slices)), (10, .v (iT (slices.length : Int))), (11, .v (iT x_2))])) ((if (w64 (size_1 + (v_4.length : Int))) < 0 then
  none
  else
  some ()) : Option Unit)).bind fun _ =>
  some (.inl (w64 (size_1 + (v_4.length : Int)), w64 (x_2 + 1)))
  else
  some (.inr size_1) : Int × Int -> Option ((Int × Int) ⊕ Int))) (by exact go)
instance i121_1 : Lp cx (f121_1 slices) 36 L121_1 (fun (zs : Nat × (List Int) × Int) => [(6, .v (.sl true true 1 zs.1 (arr eI true zs.2.1))), (25, .v (ssl (eL eI) slices)), (26, .v (iT (slices.length : Int))), (27, .v (iT zs.2.2))]) (QX 2 (fun (y : Nat × (List Int)) => [(6, .v (.sl true true 1 y.1 (arr eI true y.2)))])) := Lp.of (by unfold f121_1; exact go)
instance i121 : Rn cx (f121 slices) 121 [(ssl (eL eI) slices)] (fun (r : (List Int)) => (osl eI true r)) (fun r => []) := Rn.o rfl (by unfold f121; exact go)
instance : Io0 cx 121 := ⟨rfl⟩
theorem r87 {l : List Int} {r : List Int} (h : f87 l = some r) : VJx cx (.ca 87 [osl eI true l] (.tup []) [osl eI true r]) := by
 exact ca_sort (X := X0) (fun _ _ _ _ _ h => .inl h) (fun _ _ _ _ h => h) rfl h
instance i87 {l : List Int} : Rn cx (f87 l) 87 [osl eI true l] (fun _ => .tup []) (fun r => [osl eI true r]) := ⟨fun _ h => r87 h⟩
theorem r122 {l : List Int} {r : List Int} (h : f122 l = some r) : VJx cx (.ca 122 [osl eI true l] (ssl eI r) [.und]) := by
 exact ca_comp (X := X0) (fun _ _ _ _ _ h => .inr (h)) (fun _ _ _ _ h => h) rfl h
instance i122 {l : List Int} : Rn cx (f122 l) 122 [osl eI true l] (fun r => ssl eI r) (fun _ => [.und]) := ⟨fun _ h => r122 h⟩
instance i78 : Rn cx (f78 a b) 78 [(ssl eI a), (ssl eI b)] (fun (r : (List Int)) => (ssl eI r)) (fun r => []) := Rn.o (e := (
  sn 4 8 (osl (eL eI) false ([a, b])) <| 
  (f121 ([a, b])).bind fun o1 =>
  (f87 o1).bind fun o3 =>
  (f122 o3).bind fun o5 =>
  some o5 : Option (List Int))) rfl (by exact go)
instance : Io0 cx 78 := ⟨rfl⟩
instance i36_0 : Lp cx (f36_0 atom) 23 L36_0 (fun (zs : (List Int) × Int) => [(1, .v (.ptr true [(iT atom.Relation), (ssl eI atom.Terms)])), (3, .v (osl eI true zs.1)), (8, .v (ssl eI atom.Terms)), (9, .v (iT (atom.Terms.length : Int))), (10, .v (iT zs.2))]) (QX 0 (fun (y : (List Int)) => [(3, .v (osl eI true y))])) := Lp.of (f := (fun
 | (out_1, x_2) =>
  if x_2 < (atom.Terms.length : Int) then
  (ix atom.Terms x_2).bind fun v_4 =>
  (f31 v_4 0 3).bind fun o6 =>
  (jn (QN (fun (y : (List Int)) => [(1, .v (.ptr true [(iT atom.Relation), (ssl eI atom.Terms)])), (3, .v (osl eI true y)), (8, .v (ssl eI atom.Terms)), (9, .v (iT (atom.Terms.length : Int))), (10, .v (iT x_2))])) ((if o6 = true then
  (app 8 out_1 ([v_4])).bind fun l_11 =>
  some l_11
  else
  some out_1) : Option (List Int))).bind fun out_13 =>
  some (.inl (out_13, w64 (x_2 + 1)))
  else
  some (.inr out_1) : (List Int) × Int -> Option (((List Int) × Int) ⊕ (List Int)))) (by exact go)
instance i36 : Rn cx (f36 atom) 36 [(.agg [(iT atom.Relation), (ssl eI atom.Terms)])] (fun (r : (List Int)) => (ssl eI r)) (fun r => []) := Rn.o (e := (
  sn 4 3 (osl eI true ([])) <| 
  (iter (f36_0 atom) ([], 0)).bind fun out_16 =>
  sn 1 21 (ssl eI out_16) <| 
  (f78 out_16 ([] : (List Int))).bind fun o17 =>
  some o17 : Option (List Int))) rfl (by exact go)
instance : Io0 cx 36 := ⟨rfl⟩
instance i85_1 {occurring_19 : (List Int)} {x_20 : Int} {v_22 : Atom} : Lp cx (lw (relations, occurring_19, x_20) (f85_1 query v_22)) 94 L85_1 (fun (zs : Int) => [(0, .v (ssl eRelation relations)), (3, .v (.ptr true [(iT query.VariableCount), (ssl eAtom query.Atoms), (ssl eI query.Free)])), (5, .v (ssl eI occurring_19)), (7, .v (.ptr true [(iT v_22.Relation), (ssl eI v_22.Terms)])), (36, .v (ssl eAtom query.Atoms)), (37, .v (iT (query.Atoms.length : Int))), (38, .v (iT x_20)), (71, .v (ssl eI v_22.Terms)), (72, .v (iT (v_22.Terms.length : Int))), (73, .v (iT zs))]) (QO (QX 2 (fun (y : Unit) => [(0, .v (ssl eRelation relations)), (3, .v (.ptr true [(iT query.VariableCount), (ssl eAtom query.Atoms), (ssl eI query.Free)])), (5, .v (ssl eI occurring_19)), (7, .v (.ptr true [(iT v_22.Relation), (ssl eI v_22.Terms)])), (36, .v (ssl eAtom query.Atoms)), (37, .v (iT (query.Atoms.length : Int))), (38, .v (iT x_20))])) (QR (fun (y : Bool) => [(4, .v (.bool y))]))) := Lp.of (by unfold lw f85_1; exact go)
instance i85_0 : Lp cx (f85_0 relations query) 94 L85_0 (fun (zs : (List Int) × Int) => [(0, .v (ssl eRelation relations)), (3, .v (.ptr true [(iT query.VariableCount), (ssl eAtom query.Atoms), (ssl eI query.Free)])), (5, .v (ssl eI zs.1)), (36, .v (ssl eAtom query.Atoms)), (37, .v (iT (query.Atoms.length : Int))), (38, .v (iT zs.2))]) (QO (QX 0 (fun (y : (List Int)) => [(3, .v (.ptr true [(iT query.VariableCount), (ssl eAtom query.Atoms), (ssl eI query.Free)])), (5, .v (ssl eI y))])) (QR (fun (y : Bool) => [(4, .v (.bool y))]))) := Lp.of (f := (fun
 | (occurring_19, x_20) =>
  if x_20 < (query.Atoms.length : Int) then
  (ix query.Atoms x_20).bind fun v_22 =>
  (f31 v_22.Relation 0 (w64 ((relations.length : Int) - 1))).bind fun o24 =>
  (jn (QN (fun (y : Bool) => [(0, .v (ssl eRelation relations)), (3, .v (.ptr true [(iT query.VariableCount), (ssl eAtom query.Atoms), (ssl eI query.Free)])), (5, .v (ssl eI occurring_19)), (7, .v (.ptr true [(iT v_22.Relation), (ssl eI v_22.Terms)])), (36, .v (ssl eAtom query.Atoms)), (37, .v (iT (query.Atoms.length : Int))), (38, .v (iT x_20)), (69, .v (.bool y))])) ((if ¬ (o24 = true) then
  some true
  else
  (ix relations v_22.Relation).bind fun v_29 =>
  (jn (QN (fun (y : Bool) => [(0, .v (ssl eRelation relations)), (3, .v (.ptr true [(iT query.VariableCount), (ssl eAtom query.Atoms), (ssl eI query.Free)])), (5, .v (ssl eI occurring_19)), (7, .v (.ptr true [(iT v_22.Relation), (ssl eI v_22.Terms)])), (36, .v (ssl eAtom query.Atoms)), (37, .v (iT (query.Atoms.length : Int))), (38, .v (iT x_20)), (69, .v (.bool y))])) ((if (v_22.Terms.length : Int) ≠ v_29.Arity then
  some true
  else
  (cutL query.Atoms 0 x_20).bind fun l_34 =>
  (f130 l_34 (fun x0 => f131 x0 v_22)).bind fun o36 =>
  some o36) : Option (Bool))).bind fun x_31 =>
  some x_31) : Option (Bool))).bind fun x_26 =>
  if x_26 = true then
  some (.inr (.inr false))
  else
  (iter (lw (relations, occurring_19, x_20)  (f85_1 query v_22)) 0).bind fun o => match o with
  | .inl _ =>
  (f36 v_22).bind fun o49 =>
  (f78 occurring_19 o49).bind fun o51 =>
  some (.inl (o51, w64 (x_20 + 1)))
  | .inr x_48 =>
  some (.inr (.inr x_48))
  else
  some (.inr (.inl occurring_19)) : (List Int) × Int -> Option (((List Int) × Int) ⊕ ((List Int) ⊕ Bool)))) (by exact go)
end
end Go.Proofs.YtamibblcpccjlaaGreatH
