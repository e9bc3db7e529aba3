import Derived.Test.YtaanfdjhmhifiaaTg1a
set_option maxHeartbeats 2000000
set_option linter.unusedVariables false
set_option linter.unusedSimpArgs false
set_option linter.defProp false
set_option linter.unusedSectionVars false
set_option maxRecDepth 100000
namespace Go.Proofs.YtaanfdjhmhifiaaH
open Go
noncomputable section
instance i90 {l : (List Relation)} {f : Fact} : Rn cx (f90 l f) 90 [(ssl eRelation l), (.agg [(iT f.Relation), (ssl eI f.Values)])] (fun (r : (List Int)) => (osl eI true r)) (fun r => []) := by
 refine Rn.of (e := (
  (f41 l f).bind fun o1 =>
  if ¬ (o1 = true) then
  sn 2 4 (osl eI true ([])) <| 
  some ([])
  else
  (ix l f.Relation).bind fun v_4 =>
  (cutL f.Values 0 v_4.KeyLength).bind fun l_6 =>
  (app 8 ([]) l_6).bind fun l_8 =>
  sn 12 4 (osl eI true l_8) <| 
  some l_8 : Option (List Int))) rfl rfl (by decide) rfl ?_
 exact go
instance : Io0 cx 90 := ⟨rfl⟩
instance i87 {l : (List Relation)} {a : Fact} {b : Fact} : Rn cx (f87 l a b) 87 [(ssl eRelation l), (.agg [(iT a.Relation), (ssl eI a.Values)]), (.agg [(iT b.Relation), (ssl eI b.Values)])] (fun (r : Bool) => (.bool r)) (fun r => []) := by
 refine Rn.of (e := (
  (f41 l a).bind fun o1 =>
  (jn (QN (fun (y : Bool) => [(0, .v (ssl eRelation l)), (6, .v (.bool y))])) ((if o1 = true then
  (f41 l b).bind fun o6 =>
  (jn (QN (fun (y : Bool) => [(0, .v (ssl eRelation l)), (6, .v (.bool y))])) ((if o6 = true then
  (jn (QN (fun (y : Bool) => [(0, .v (ssl eRelation l)), (6, .v (.bool y))])) ((if a.Relation = b.Relation then
  (f90 l a).bind fun o14 =>
  (f90 l b).bind fun o16 =>
  (f66 o14 o16).bind fun o18 =>
  some (decide (o18 = 0))
  else
  some false) : Option (Bool))).bind fun x_11 =>
  some x_11
  else
  some false) : Option (Bool))).bind fun x_8 =>
  some x_8
  else
  some false) : Option (Bool))).bind fun x_3 =>
  some x_3 : Option Bool)) rfl rfl (by decide) rfl ?_
 exact go
instance : Io0 cx 87 := ⟨rfl⟩
instance i82_0 {d : Database} {i : Int} : Lp cx (f82_0 d i) 45 L82_0 (fun (zs : (List Int) × Int) => [(1, .v (iT i)), (2, .v (.ptr true [(ssl eRelation d.Relations), (ssl eFact d.Facts)])), (5, .v (osl eI true zs.1)), (6, .v (iT zs.2))]) (QX 0 (fun (y : (List Int)) => [(5, .v (osl eI true y))])) := by
 refine Lp.of (f := (fun
 | (out_1, k_2) =>
  (jn (QN (fun (y : Bool) => [(1, .v (iT i)), (2, .v (.ptr true [(ssl eRelation d.Relations), (ssl eFact d.Facts)])), (5, .v (osl eI true out_1)), (6, .v (iT k_2)), (24, .v (.bool y))])) ((if k_2 < (d.Facts.length : Int) then
  (f18 d).bind fun o6 =>
  (jn (QN (fun (y : Bool) => [(1, .v (iT i)), (2, .v (.ptr true [(ssl eRelation d.Relations), (ssl eFact d.Facts)])), (5, .v (osl eI true out_1)), (6, .v (iT k_2)), (24, .v (.bool y))])) ((if o6 = true then
  (f21 i 0 (w64 ((d.Facts.length : Int) - 1))).bind fun o11 =>
  some o11
  else
  some false) : Option (Bool))).bind fun x_8 =>
  some x_8
  else
  some false) : Option (Bool))).bind fun x_3 =>
  if x_3 = true then
  (ix d.Facts i).bind fun v_14 =>
  (ix d.Facts k_2).bind fun v_16 =>
  (f87 d.Relations v_14 v_16).bind fun o18 =>
  (jn (QN (fun (y : (List Int)) => [(1, .v (iT i)), (2, .v (.ptr true [(ssl eRelation d.Relations), (ssl eFact d.Facts)])), (5, .v (osl eI true y)), (6, .v (iT k_2))])) ((if o18 = true then
  (app 8 out_1 ([k_2])).bind fun l_23 =>
  some l_23
  else
  some out_1) : Option (List Int))).bind fun out_25 =>
  some (.inl (out_25, w64 (k_2 + 1)))
  else
  some (.inr out_1) : (List Int) × Int → Option (((List Int) × Int) ⊕ (List Int)))) ?_
 exact go
instance i82 {d : Database} {i : Int} : Rn cx (f82 d i) 82 [(.agg [(ssl eRelation d.Relations), (ssl eFact d.Facts)]), (iT i)] (fun (r : (List Int)) => (osl eI true r)) (fun r => []) := by
 refine Rn.of (e := (
  sn 4 5 (osl eI true ([])) <| 
  (iter (f82_0 d i) ([], 0)).bind fun out_28 =>
  some out_28 : Option (List Int))) rfl rfl (by decide) rfl ?_
 exact go
instance : Io0 cx 82 := ⟨rfl⟩
instance i70_0 {d : Database} : Lp cx (f70_0 d) 31 L70_0 (fun (zs : (List (List Int)) × Int) => [(1, .v (.ptr true [(ssl eRelation d.Relations), (ssl eFact d.Facts)])), (3, .v (osl (eL eI) true zs.1)), (4, .v (iT zs.2))]) (QX 0 (fun (y : (List (List Int))) => [(3, .v (osl (eL eI) true y))])) := by
 refine Lp.of (f := (fun
 | (out_1, i_2) =>
  (jn (QN (fun (y : Bool) => [(1, .v (.ptr true [(ssl eRelation d.Relations), (ssl eFact d.Facts)])), (3, .v (osl (eL eI) true out_1)), (4, .v (iT i_2)), (15, .v (.bool y))])) ((if i_2 < (d.Facts.length : Int) then
  (f18 d).bind fun o6 =>
  some o6
  else
  some false) : Option (Bool))).bind fun x_3 =>
  if x_3 = true then
  (f82 d i_2).bind fun o9 =>
  (ix o9 0).bind fun v_11 =>
  (jn (QN (fun (y : (List (List Int))) => [(1, .v (.ptr true [(ssl eRelation d.Relations), (ssl eFact d.Facts)])), (3, .v (osl (eL eI) true y)), (4, .v (iT i_2))])) ((if v_11 = i_2 then
  (app 24 out_1 ([o9])).bind fun l_16 =>
  some l_16
  else
  some out_1) : Option (List (List Int)))).bind fun out_18 =>
  some (.inl (out_18, w64 (i_2 + 1)))
  else
  some (.inr out_1) : (List (List Int)) × Int → Option (((List (List Int)) × Int) ⊕ (List (List Int))))) ?_
 exact go
instance i70 {d : Database} : Rn cx (f70 d) 70 [(.agg [(ssl eRelation d.Relations), (ssl eFact d.Facts)])] (fun (r : (List (List Int))) => (osl (eL eI) true r)) (fun r => []) := by
 refine Rn.of (e := (
  sn 4 3 (osl (eL eI) true ([])) <| 
  (iter (f70_0 d) ([], 0)).bind fun out_21 =>
  some out_21 : Option (List (List Int)))) rfl rfl (by decide) rfl ?_
 exact go
instance : Io0 cx 70 := ⟨rfl⟩
instance i47 {d : Database} : Rn cx (f47 d) 47 [(.agg [(ssl eRelation d.Relations), (ssl eFact d.Facts)])] (fun (r : Bool) => (.bool r)) (fun r => []) := by
 refine Rn.of (e := (
  (f18 d).bind fun o1 =>
  (jn (QN (fun (y : Bool) => [(2, .v (.bool y))])) ((if o1 = true then
  (f70 d).bind fun o6 =>
  some (decide ((o6.length : Int) = (d.Facts.length : Int)))
  else
  some false) : Option (Bool))).bind fun x_3 =>
  some x_3 : Option Bool)) rfl rfl (by decide) rfl ?_
 exact go
instance : Io0 cx 47 := ⟨rfl⟩
instance i22 {d : Database} {l : (List Int)} : Rn cx (f22 d l) 22 [(.agg [(ssl eRelation d.Relations), (ssl eFact d.Facts)]), (ssl eI l)] (fun (r : Bool) => (.bool r)) (fun r => []) := by
 refine Rn.of (e := (
  (f46 d l).bind fun o1 =>
  (jn (QN (fun (y : Bool) => [(4, .v (.bool y))])) ((if o1.2 = true then
  (f47 o1.1).bind fun o6 =>
  some o6
  else
  some false) : Option (Bool))).bind fun x_3 =>
  some x_3 : Option Bool)) rfl rfl (by decide) rfl ?_
 exact go
instance : Io0 cx 22 := ⟨rfl⟩
instance i6_2 {d : Database} {k : Int} {out_11 : (List (List Int))} {last_12 : (List (List Int))} {n_13 : Int} {i_16 : Int} : Lp cx (lw (k, out_11, n_13) (f6_2 d last_12 i_16)) 89 L6_2 (fun (zs : (List (List Int)) × Int) => [(1, .v (iT k)), (2, .v (.ptr true [(ssl eRelation d.Relations), (ssl eFact d.Facts)])), (5, .v (osl (eL eI) false out_11)), (6, .v (osl (eL eI) false last_12)), (7, .v (iT n_13)), (8, .v (osl (eL eI) false zs.1)), (9, .v (iT i_16)), (11, .v (iT zs.2))]) (QX 4 (fun (y : (List (List Int))) => [(1, .v (iT k)), (2, .v (.ptr true [(ssl eRelation d.Relations), (ssl eFact d.Facts)])), (5, .v (osl (eL eI) false out_11)), (6, .v (osl (eL eI) false last_12)), (7, .v (iT n_13)), (8, .v (osl (eL eI) false y)), (9, .v (iT i_16))])) := by
 refine Lp.of (f := (fun
 | (more_26, x_27) =>
  if x_27 < (d.Facts.length : Int) then
  (ix last_12 i_16).bind fun v_29 =>
  (app 8 ([]) v_29).bind fun l_31 =>
  (app 8 l_31 ([x_27])).bind fun l_33 =>
  sn 10 12 (osl eI true l_33) <| 
  (f22 d l_33).bind fun o35 =>
  (jn (QN (fun (y : (List (List Int))) => [(1, .v (iT k)), (2, .v (.ptr true [(ssl eRelation d.Relations), (ssl eFact d.Facts)])), (5, .v (osl (eL eI) false out_11)), (6, .v (osl (eL eI) false last_12)), (7, .v (iT n_13)), (8, .v (osl (eL eI) false y)), (9, .v (iT i_16)), (11, .v (iT x_27))])) ((if o35 = true then
  sn 3 82 (osl (eL eI) true ([l_33])) <| 
  sn 0 82 (ssl (eL eI) ([l_33])) <| 
  (app 24 more_26 ([l_33])).bind fun l_40 =>
  some l_40
  else
  some more_26) : Option (List (List Int)))).bind fun more_42 =>
  some (.inl (more_42, w64 (x_27 + 1)))
  else
  some (.inr more_26) : (List (List Int)) × Int → Option (((List (List Int)) × Int) ⊕ (List (List Int))))) ?_
 exact go
instance i6_1 {d : Database} {k : Int} {out_11 : (List (List Int))} {last_12 : (List (List Int))} {n_13 : Int} : Lp cx (lw (k, out_11, n_13) (f6_1 d last_12)) 89 L6_1 (fun (zs : (List (List Int)) × Int) => [(1, .v (iT k)), (2, .v (.ptr true [(ssl eRelation d.Relations), (ssl eFact d.Facts)])), (5, .v (osl (eL eI) false out_11)), (6, .v (osl (eL eI) false last_12)), (7, .v (iT n_13)), (8, .v (osl (eL eI) false zs.1)), (9, .v (iT zs.2))]) (QX 2 (fun (y : (List (List Int))) => [(1, .v (iT k)), (2, .v (.ptr true [(ssl eRelation d.Relations), (ssl eFact d.Facts)])), (5, .v (osl (eL eI) false out_11)), (7, .v (iT n_13)), (8, .v (osl (eL eI) false y))])) := by
 refine Lp.of (f := (fun
 | (more_15, i_16) =>
  if i_16 < (last_12.length : Int) then
  (ix last_12 i_16).bind fun v_18 =>
  (jn (QN (fun (y : Int) => [(1, .v (iT k)), (2, .v (.ptr true [(ssl eRelation d.Relations), (ssl eFact d.Facts)])), (5, .v (osl (eL eI) false out_11)), (6, .v (osl (eL eI) false last_12)), (7, .v (iT n_13)), (8, .v (osl (eL eI) false more_15)), (9, .v (iT i_16)), (10, .v (iT y))])) ((if (v_18.length : Int) > 0 then
  (ix v_18 (w64 ((v_18.length : Int) - 1))).bind fun v_23 =>
  some (w64 (v_23 + 1))
  else
  some 0) : Option Int)).bind fun from_25 =>
  (iter (lw (k, out_11, n_13)  (f6_2 d last_12 i_16)) (more_15, from_25)).bind fun more_45 =>
  some (.inl (more_45, w64 (i_16 + 1)))
  else
  some (.inr more_15) : (List (List Int)) × Int → Option (((List (List Int)) × Int) ⊕ (List (List Int))))) ?_
 exact go
instance i6_0 {d : Database} {k : Int} : Lp cx (f6_0 d k) 89 L6_0 (fun (zs : (List (List Int)) × (List (List Int)) × Int) => [(1, .v (iT k)), (2, .v (.ptr true [(ssl eRelation d.Relations), (ssl eFact d.Facts)])), (5, .v (osl (eL eI) false zs.1)), (6, .v (osl (eL eI) false zs.2.1)), (7, .v (iT zs.2.2))]) (QX 0 (fun (y : (List (List Int))) => [(5, .v (osl (eL eI) false y))])) := by
 refine Lp.of (f := (fun
 | (out_11, last_12, n_13) =>
  if n_13 < k then
  sn 2 8 (osl (eL eI) false ([])) <| 
  (iter (lw (k, out_11, n_13)  (f6_1 d last_12)) ([], 0)).bind fun more_48 =>
  (app 24 out_11 more_48).bind fun l_49 =>
  some (.inl (l_49, more_48, w64 (n_13 + 1)))
  else
  some (.inr out_11) : (List (List Int)) × (List (List Int)) × Int → Option (((List (List Int)) × (List (List Int)) × Int) ⊕ (List (List Int))))) ?_
 exact go
instance i6 {d : Database} {k : Int} : Rn cx (f6 d k) 6 [(.agg [(ssl eRelation d.Relations), (ssl eFact d.Facts)]), (iT k)] (fun (r : (List (List Int))) => (osl (eL eI) false r)) (fun r => []) := by
 refine Rn.of (e := (
  sn 4 5 (osl (eL eI) false ([])) <| 
  (f18 d).bind fun o1 =>
  (jn (QN (fun (y : Bool) => [(1, .v (iT k)), (2, .v (.ptr true [(ssl eRelation d.Relations), (ssl eFact d.Facts)])), (5, .v (osl (eL eI) false ([]))), (21, .v (.bool y))])) ((if ¬ (o1 = true) then
  some true
  else
  (f21 k 0 3).bind fun o6 =>
  some (decide (¬ (o6 = true)))) : Option (Bool))).bind fun x_3 =>
  if x_3 = true then
  some ([])
  else
  sn 1 23 (osl eI true ([])) <| 
  sn 0 23 (ssl eI ([])) <| 
  sn 2 6 (osl (eL eI) false ([[]])) <| 
  sn 2 26 (osl eI true ([])) <| 
  sn 1 27 (osl (eL eI) true ([[]])) <| 
  sn 0 27 (ssl (eL eI) ([[]])) <| 
  (app 24 ([]) ([[]])).bind fun l_9 =>
  (iter (f6_0 d k) (l_9, [[]], 0)).bind fun out_53 =>
  some out_53 : Option (List (List Int)))) rfl rfl (by decide) rfl ?_
 exact go
instance : Io0 cx 6 := ⟨rfl⟩
instance i38_0 {a : (List Int)} {b : (List Int)} : Lp cx (f38_0 a b) 26 L38_0 (fun (zs : Int) => [(0, .v (ssl eI a)), (1, .v (ssl eI b)), (5, .v (iT zs))]) (QO (QX 0 (fun (y : Unit) => [])) (QR (fun (y : Bool) => [(4, .v (.bool y))]))) := by
 refine Lp.of ?_; unfold f38_0; exact go
instance i38 {a : (List Int)} {b : (List Int)} : Rn cx (f38 a b) 38 [(ssl eI a), (ssl eI b)] (fun (r : Bool) => (.bool r)) (fun r => []) := by
 refine Rn.of rfl rfl (by decide) rfl ?_; unfold f38; exact go
instance : Io0 cx 38 := ⟨rfl⟩
instance i16_0 {a : (List (List Int))} {b : (List (List Int))} : Lp cx (f16_0 a b) 27 L16_0 (fun (zs : Int) => [(0, .v (ssl (eL eI) a)), (1, .v (ssl (eL eI) b)), (5, .v (iT zs))]) (QO (QX 0 (fun (y : Unit) => [])) (QR (fun (y : Bool) => [(4, .v (.bool y))]))) := by
 refine Lp.of ?_; unfold f16_0; exact go
instance i16 {a : (List (List Int))} {b : (List (List Int))} : Rn cx (f16 a b) 16 [(ssl (eL eI) a), (ssl (eL eI) b)] (fun (r : Bool) => (.bool r)) (fun r => []) := by
 refine Rn.of rfl rfl (by decide) rfl ?_; unfold f16; exact go
instance : Io0 cx 16 := ⟨rfl⟩
instance i63_0 {indices : (List Int)} {n1 : Int} : Lp cx (f63_0 indices n1) 33 L63_0 (fun (zs : Int) => [(0, .v (ssl eI indices)), (1, .v (iT n1)), (7, .v (ssl eI indices)), (8, .v (iT (indices.length : Int))), (9, .v (iT zs))]) (QO (QX 0 (fun (y : Unit) => [])) (QR (fun (y : Bool) => [(4, .v (.bool y))]))) := by
 refine Lp.of (f := (fun
 | x_1 =>
  if x_1 < (indices.length : Int) then
  (ix indices x_1).bind fun v_3 =>
  (f26 v_3 0 (w64 (n1 - 1))).bind fun o5 =>
  (jn (QN (fun (y : Bool) => [(0, .v (ssl eI indices)), (1, .v (iT n1)), (7, .v (ssl eI indices)), (8, .v (iT (indices.length : Int))), (9, .v (iT x_1)), (31, .v (.bool y))])) ((if ¬ (o5 = true) then
  some true
  else
  (jn (QN (fun (y : Bool) => [(0, .v (ssl eI indices)), (1, .v (iT n1)), (7, .v (ssl eI indices)), (8, .v (iT (indices.length : Int))), (9, .v (iT x_1)), (31, .v (.bool y))])) ((if x_1 > 0 then
  (ix indices (w64 (x_1 - 1))).bind fun v_13 =>
  some (decide (v_13 ≥ v_3))
  else
  some false) : Option (Bool))).bind fun x_10 =>
  some x_10) : Option (Bool))).bind fun x_7 =>
  if x_7 = true then
  some (.inr (.inr false))
  else
  some (.inl (w64 (x_1 + 1)))
  else
  some (.inr (.inl ())) : Int → Option (Int ⊕ (Unit ⊕ Bool)))) ?_
 exact go
instance i63 {indices : (List Int)} {n1 : Int} : Rn cx (f63 indices n1) 63 [(ssl eI indices), (iT n1)] (fun (r : Bool) => (.bool r)) (fun r => []) := by
 refine Rn.of rfl rfl (by decide) rfl ?_; unfold f63; exact go
instance : Io0 cx 63 := ⟨rfl⟩
instance i64_0 {db : Database} : Lp cx (f64_0 db) 33 L64_0 (fun (zs : (List Relation) × (List Fact) × Int) => [(1, .v (.ptr true [(ssl eRelation db.Relations), (ssl eFact db.Facts)])), (2, .v (.ptr true [(osl eRelation true ([])), (osl eFact true ([]))])), (3, .v (.ptr true [(osl eRelation true zs.1), (osl eFact true zs.2.1)])), (13, .v (ssl eFact db.Facts)), (14, .v (iT (db.Facts.length : Int))), (15, .v (iT zs.2.2))]) (QX 0 (fun (y : (List Relation) × (List Fact)) => [(2, .v (.ptr true [(osl eRelation true ([])), (osl eFact true ([]))])), (3, .v (.ptr true [(osl eRelation true y.1), (osl eFact true y.2)]))])) := by
 refine Lp.of (f := (fun
 | (out_3, out_4, x_5) =>
  if x_5 < (db.Facts.length : Int) then
  (ix db.Facts x_5).bind fun v_7 =>
  (app 8 ([]) v_7.Values).bind fun l_9 =>
  sn 12 26 (osl eI true l_9) <| 
  (app 32 out_4 ([({ Relation := v_7.Relation, Values := l_9 } : Fact)])).bind fun l_11 =>
  some (.inl (out_3, l_11, w64 (x_5 + 1)))
  else
  some (.inr (out_3, out_4)) : (List Relation) × (List Fact) × Int → Option (((List Relation) × (List Fact) × Int) ⊕ ((List Relation) × (List Fact))))) ?_
 exact go
instance i64 {db : Database} : Rn cx (f64 db) 64 [(.agg [(ssl eRelation db.Relations), (ssl eFact db.Facts)])] (fun (r : Database) => (.agg [(osl eRelation true r.Relations), (osl eFact true r.Facts)])) (fun r => []) := by
 refine Rn.of (e := (
  sn 2 2 (.ptr true [(osl eRelation true ([])), (osl eFact true ([]))]) <| 
  (app 32 ([]) db.Relations).bind fun l_1 =>
  sn 5 9 (osl eRelation true l_1) <| 
  sn 0 10 (osl eFact true ([])) <| 
  (iter (f64_0 db) (l_1, [], 0)).bind fun (out_15, out_16) =>
  some ({ Relations := out_15, Facts := out_16 } : Database) : Option Database)) rfl rfl (by decide) rfl ?_
 exact go
instance : Io0 cx 64 := ⟨rfl⟩
instance i39_0 {indices : (List Int)} {o9 : Database} : Lp cx (f39_0 indices o9) 45 L39_0 (fun (zs : (List Relation) × (List Fact) × Int) => [(4, .v (.ptr true [(osl eRelation true ([])), (osl eFact true ([]))])), (6, .v (.ptr false [(ssl eRelation o9.Relations), (ssl eFact o9.Facts)])), (7, .v (.ptr true [(ssl eRelation zs.1), (osl eFact false zs.2.1)])), (27, .v (ssl eI indices)), (28, .v (iT (indices.length : Int))), (29, .v (iT zs.2.2))]) (QX 0 (fun (y : (List Relation) × (List Fact)) => [(4, .v (.ptr true [(osl eRelation true ([])), (osl eFact true ([]))])), (7, .v (.ptr true [(ssl eRelation y.1), (osl eFact false y.2)]))])) := by
 refine Lp.of ?_; unfold f39_0; exact go
instance i39 {db : Database} {indices : (List Int)} : Rn cx (f39 db indices) 39 [(.agg [(ssl eRelation db.Relations), (ssl eFact db.Facts)]), (ssl eI indices)] (fun (r : Database × Bool) => (.tup [(.agg [(ssl eRelation r.1.Relations), (osl eFact false r.1.Facts)]), (.bool r.2)])) (fun r => []) := by
 refine Rn.of (e := (
  sn 3 4 (.ptr true [(osl eRelation true ([])), (osl eFact true ([]))]) <| 
  (f25 db).bind fun o1 =>
  (jn (QN (fun (y : Bool) => [(1, .v (ssl eI indices)), (2, .v (.ptr true [(ssl eRelation db.Relations), (ssl eFact db.Facts)])), (4, .v (.ptr true [(osl eRelation true ([])), (osl eFact true ([]))])), (20, .v (.bool y))])) ((if ¬ (o1 = true) then
  some true
  else
  (f63 indices (db.Facts.length : Int)).bind fun o6 =>
  some (decide (¬ (o6 = true)))) : Option (Bool))).bind fun x_3 =>
  if x_3 = true then
  sn 1 21 (.agg [(osl eRelation true ([])), (osl eFact true ([]))]) <| 
  some (({ Relations := [], Facts := [] } : Database), false)
  else
  (f64 db).bind fun o9 =>
  sn 2 6 (.ptr false [(ssl eRelation o9.Relations), (ssl eFact o9.Facts)]) <| 
  sn 4 26 (.agg [(ssl eRelation o9.Relations), (osl eFact true ([]))]) <| 
  (iter (f39_0 indices o9) (o9.Relations, [], 0)).bind fun (out_23, out_24) =>
  some (({ Relations := out_23, Facts := out_24 } : Database), true) : Option (Database × Bool))) rfl rfl (by decide) rfl ?_
 exact go
instance : Io0 cx 39 := ⟨rfl⟩
instance i65_0 {db : Database} : Lp cx (f65_0 db) 54 L65_0 (fun (zs : (List (List Int)) × Int) => [(1, .v (.ptr true [(ssl eRelation db.Relations), (ssl eFact db.Facts)])), (3, .v (osl (eL eI) true zs.1)), (9, .v (ssl eFact db.Facts)), (10, .v (iT (db.Facts.length : Int))), (11, .v (iT zs.2))]) (QX 0 (fun (y : (List (List Int))) => [(3, .v (osl (eL eI) true y))])) := by
 refine Lp.of (f := (fun
 | (out_1, x_2) =>
  if x_2 < (db.Facts.length : Int) then
  (ix db.Facts x_2).bind fun v_4 =>
  (jn (QN (fun (y : Bool) => [(1, .v (.ptr true [(ssl eRelation db.Relations), (ssl eFact db.Facts)])), (3, .v (osl (eL eI) true out_1)), (4, .v (iT x_2)), (6, .v (iT (w64 ((out_1.length : Int) - 1)))), (9, .v (ssl eFact db.Facts)), (10, .v (iT (db.Facts.length : Int))), (11, .v (iT x_2)), (36, .v (.bool y))])) ((if (w64 ((out_1.length : Int) - 1)) ≥ 0 then
  (ix out_1 (w64 ((out_1.length : Int) - 1))).bind fun v_9 =>
  (ix v_9 0).bind fun v_11 =>
  (ix db.Facts v_11).bind fun v_13 =>
  (f56 db.Relations v_13 v_4).bind fun o15 =>
  some o15
  else
  some false) : Option (Bool))).bind fun x_6 =>
  (jn (QN (fun (y : (List (List Int))) => [(1, .v (.ptr true [(ssl eRelation db.Relations), (ssl eFact db.Facts)])), (3, .v (osl (eL eI) true y)), (9, .v (ssl eFact db.Facts)), (10, .v (iT (db.Facts.length : Int))), (11, .v (iT x_2))])) ((if x_6 = true then
  (ix out_1 (w64 ((out_1.length : Int) - 1))).bind fun v_20 =>
  (app 8 v_20 ([x_2])).bind fun l_22 =>
  some (out_1.set (w64 ((out_1.length : Int) - 1)).toNat l_22)
  else
  sn 3 49 (osl eI true ([x_2])) <| 
  (app 24 out_1 ([[x_2]])).bind fun l_25 =>
  some l_25) : Option (List (List Int)))).bind fun out_27 =>
  some (.inl (out_27, w64 (x_2 + 1)))
  else
  some (.inr out_1) : (List (List Int)) × Int → Option (((List (List Int)) × Int) ⊕ (List (List Int))))) ?_
 exact go
instance i65 {db : Database} : Rn cx (f65 db) 65 [(.agg [(ssl eRelation db.Relations), (ssl eFact db.Facts)])] (fun (r : (List (List Int))) => (osl (eL eI) true r)) (fun r => []) := by
 refine Rn.of (e := (
  sn 4 3 (osl (eL eI) true ([])) <| 
  (iter (f65_0 db) ([], 0)).bind fun out_30 =>
  some out_30 : Option (List (List Int)))) rfl rfl (by decide) rfl ?_
 exact go
instance : Io0 cx 65 := ⟨rfl⟩
instance i40 {db : Database} : Rn cx (f40 db) 40 [(.agg [(ssl eRelation db.Relations), (ssl eFact db.Facts)])] (fun (r : Bool) => (.bool r)) (fun r => []) := by
 refine Rn.of (e := (
  (f25 db).bind fun o1 =>
  (jn (QN (fun (y : Bool) => [(2, .v (.bool y))])) ((if o1 = true then
  (f65 db).bind fun o6 =>
  some (decide ((o6.length : Int) = (db.Facts.length : Int)))
  else
  some false) : Option (Bool))).bind fun x_3 =>
  some x_3 : Option Bool)) rfl rfl (by decide) rfl ?_
 exact go
instance : Io0 cx 40 := ⟨rfl⟩
instance i17 {db : Database} {indices : (List Int)} : Rn cx (f17 db indices) 17 [(.agg [(ssl eRelation db.Relations), (ssl eFact db.Facts)]), (ssl eI indices)] (fun (r : Bool) => (.bool r)) (fun r => []) := by
 refine Rn.of (e := (
  (f39 db indices).bind fun o1 =>
  (jn (QN (fun (y : Bool) => [(4, .v (.bool y))])) ((if o1.2 = true then
  (f40 o1.1).bind fun o6 =>
  some o6
  else
  some false) : Option (Bool))).bind fun x_3 =>
  some x_3 : Option Bool)) rfl rfl (by decide) rfl ?_
 exact go
instance : Io0 cx 17 := ⟨rfl⟩
instance i4_0 {o4 : (Database × Int)} {o6 : (List (List Int))} : Lp cx (f4_0 o4 o6) 86 L4_0 (fun (zs : Int) => [(3, .v (.ptr true [(ssl eRelation o4.1.Relations), (ssl eFact o4.1.Facts)])), (4, .v (iT o4.2)), (5, .v (osl (eL eI) true o6)), (6, .v (iT zs))]) (QO (QX 0 (fun (y : Unit) => [(3, .v (.ptr true [(ssl eRelation o4.1.Relations), (ssl eFact o4.1.Facts)])), (4, .v (iT o4.2)), (5, .v (osl (eL eI) true o6))])) (QR (fun (y : Bool) => [(2, .v (.bool y))]))) := by
 refine Lp.of (f := (fun
 | i_13 =>
  if i_13 < (o6.length : Int) then
  (ix o6 i_13).bind fun v_15 =>
  (jn (QN (fun (y : Bool) => [(3, .v (.ptr true [(ssl eRelation o4.1.Relations), (ssl eFact o4.1.Facts)])), (4, .v (iT o4.2)), (5, .v (osl (eL eI) true o6)), (6, .v (iT i_13)), (62, .v (.bool y))])) ((if (v_15.length : Int) > o4.2 then
  some true
  else
  (f17 o4.1 v_15).bind fun o20 =>
  (jn (QN (fun (y : Bool) => [(3, .v (.ptr true [(ssl eRelation o4.1.Relations), (ssl eFact o4.1.Facts)])), (4, .v (iT o4.2)), (5, .v (osl (eL eI) true o6)), (6, .v (iT i_13)), (62, .v (.bool y))])) ((if ¬ (o20 = true) then
  some true
  else
  (jn (QN (fun (y : Bool) => [(3, .v (.ptr true [(ssl eRelation o4.1.Relations), (ssl eFact o4.1.Facts)])), (4, .v (iT o4.2)), (5, .v (osl (eL eI) true o6)), (6, .v (iT i_13)), (62, .v (.bool y))])) ((if i_13 > 0 then
  (ix o6 (w64 (i_13 - 1))).bind fun v_28 =>
  some (decide ((v_15.length : Int) < (v_28.length : Int)))
  else
  some false) : Option (Bool))).bind fun x_25 =>
  some x_25) : Option (Bool))).bind fun x_22 =>
  some x_22) : Option (Bool))).bind fun x_17 =>
  if x_17 = true then
  some (.inr (.inr false))
  else
  some (.inl (w64 (i_13 + 1)))
  else
  some (.inr (.inl ())) : Int → Option (Int ⊕ (Unit ⊕ Bool)))) ?_
 exact go
instance i4 {code : (List Int)} : Rn cx (f4 code) 4 [(ssl eU code)] (fun (r : Bool) => (.bool r)) (fun r => []) := by
 refine Rn.of (e := (
  (f14 code).bind fun o1 =>
  if o1 = true then
  some true
  else
  (f15 code).bind fun o4 =>
  (f8 o4.1 o4.2).bind fun o6 =>
  (f6 o4.1 o4.2).bind fun o8 =>
  (f16 o6 o8).bind fun o10 =>
  if ¬ (o10 = true) then
  some false
  else
  (iter (f4_0 o4 o6) 0).bind fun o => match o with
  | .inl _ =>
  (jn (QN (fun (y : Bool) => [(2, .v (.bool y))])) ((if o4.2 < 0 then
  some true
  else
  (jn (QN (fun (y : Bool) => [(2, .v (.bool y))])) ((if o4.2 > 3 then
  some true
  else
  (f18 o4.1).bind fun o40 =>
  (jn (QN (fun (y : Bool) => [(2, .v (.bool y))])) ((if ¬ (o40 = true) then
  some true
  else
  (jn (QN (fun (y : Bool) => [(2, .v (.bool y))])) ((if (o6.length : Int) > 0 then
  (ix o6 0).bind fun v_48 =>
  some (decide ((v_48.length : Int) = 0))
  else
  some false) : Option (Bool))).bind fun x_45 =>
  some x_45) : Option (Bool))).bind fun x_42 =>
  some x_42) : Option (Bool))).bind fun x_37 =>
  some x_37) : Option (Bool))).bind fun x_34 =>
  some x_34
  | .inr x_33 =>
  some x_33 : Option Bool)) rfl rfl (by decide) rfl ?_
 exact go
instance : Io0 cx 4 := ⟨rfl⟩
end
end Go.Proofs.YtaanfdjhmhifiaaH
