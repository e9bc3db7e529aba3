import Derived.Test.YtjmemfggbhkofaaGreatTg1b
set_option maxHeartbeats 2000000
set_option linter.unusedVariables false
set_option linter.unusedSimpArgs false
set_option linter.defProp false
set_option linter.unusedSectionVars false
set_option maxRecDepth 100000
namespace Go.Proofs.YtjmemfggbhkofaaGreatH
open Go
noncomputable section
instance i16 {db : Database} {query : Query} : Rn cx (f16 db query) 16 [(.agg [(ssl eRelation db.Relations), (ssl eFact db.Facts)]), (.agg [(iT query.VariableCount), (ssl eAtom query.Atoms), (ssl eI query.Free)])] (fun (r : (List Int)) => (osl eI true r)) (fun r => []) := Rn.o (e := (
  sn 5 5 (osl eI true ([])) <| 
  (f45 db query).bind fun o1 =>
  if ¬ (o1 = true) then
  some ([])
  else
  (f46 db query).bind fun o4 =>
  (iter (f16_0 db o4) ([], 0)).bind fun out_19 =>
  some out_19 : Option (List Int))) rfl (by exact go)
instance : Io0 cx 16 := ⟨rfl⟩
instance i36_0 {db : Database} : Lp cx (f36_0 db) 33 L36_0 (fun (zs : (List Relation) × (List Fact) × Int) => [(1, .v (.ptr true [(ssl eRelation db.Relations), (ssl eFact db.Facts)])), (2, .v (.ptr true [(osl eRelation true ([])), (osl eFact true ([]))])), (3, .v (.ptr true [(osl eRelation true zs.1), (osl eFact true zs.2.1)])), (13, .v (ssl eFact db.Facts)), (14, .v (iT (db.Facts.length : Int))), (15, .v (iT zs.2.2))]) (QX 0 (fun (y : (List Relation) × (List Fact)) => [(2, .v (.ptr true [(osl eRelation true ([])), (osl eFact true ([]))])), (3, .v (.ptr true [(osl eRelation true y.1), (osl eFact true y.2)]))])) := Lp.of (f := (fun
 | (out_3, out_4, x_5) =>
  if x_5 < (db.Facts.length : Int) then
  (ix db.Facts x_5).bind fun v_7 =>
  (app 8 ([]) v_7.Values).bind fun l_9 =>
  sn 12 26 (osl eI true l_9) <| 
  (app 32 out_4 ([({ Relation := v_7.Relation, Values := l_9 } : Fact)])).bind fun l_11 =>
  some (.inl (out_3, l_11, w64 (x_5 + 1)))
  else
  some (.inr (out_3, out_4)) : (List Relation) × (List Fact) × Int → Option (((List Relation) × (List Fact) × Int) ⊕ ((List Relation) × (List Fact))))) (by exact go)
instance i36 {db : Database} : Rn cx (f36 db) 36 [(.agg [(ssl eRelation db.Relations), (ssl eFact db.Facts)])] (fun (r : Database) => (.agg [(osl eRelation true r.Relations), (osl eFact true r.Facts)])) (fun r => []) := Rn.o (e := (
  sn 2 2 (.ptr true [(osl eRelation true ([])), (osl eFact true ([]))]) <| 
  (app 32 ([]) db.Relations).bind fun l_1 =>
  sn 5 9 (osl eRelation true l_1) <| 
  sn 0 10 (osl eFact true ([])) <| 
  (iter (f36_0 db) (l_1, [], 0)).bind fun (out_15, out_16) =>
  some ({ Relations := out_15, Facts := out_16 } : Database) : Option Database)) rfl (by exact go)
instance : Io0 cx 36 := ⟨rfl⟩
instance i161_0 {s1 : (List Int)} {s2 : (List Int)} : Lp cx (f161_0 s1 s2) 26 L161_0 (fun (zs : Int) => [(0, .v (ssl eI s1)), (1, .v (ssl eI s2)), (12, .v (iT (s1.length : Int))), (13, .v (iT zs))]) (QO (QX 0 (fun (y : Unit) => [])) (QR (fun (y : Bool) => [(4, .v (.bool y))]))) := Lp.of (by unfold f161_0; exact go)
instance i161 {s1 : (List Int)} {s2 : (List Int)} : Rn cx (f161 s1 s2) 161 [(ssl eI s1), (ssl eI s2)] (fun (r : Bool) => (.bool r)) (fun r => []) := Rn.o rfl (by unfold f161; exact go)
instance : Io0 cx 161 := ⟨rfl⟩
instance i108 {relations : (List Relation)} {a : Fact} {b : Fact} : Rn cx (f108 relations a b) 108 [(ssl eRelation relations), (.agg [(iT a.Relation), (ssl eI a.Values)]), (.agg [(iT b.Relation), (ssl eI b.Values)])] (fun (r : Bool) => (.bool r)) (fun r => []) := Rn.o rfl (by unfold f108; exact go)
instance : Io0 cx 108 := ⟨rfl⟩
instance i56_0 {db : Database} : Lp cx (f56_0 db) 54 L56_0 (fun (zs : (List (List Int)) × Int) => [(1, .v (.ptr true [(ssl eRelation db.Relations), (ssl eFact db.Facts)])), (3, .v (osl (eL eI) true zs.1)), (9, .v (ssl eFact db.Facts)), (10, .v (iT (db.Facts.length : Int))), (11, .v (iT zs.2))]) (QX 0 (fun (y : (List (List Int))) => [(3, .v (osl (eL eI) true y))])) := Lp.of (f := (fun
 | (out_1, x_2) =>
  if x_2 < (db.Facts.length : Int) then
  (ix db.Facts x_2).bind fun v_4 =>
  (jn (QN (fun (y : Bool) => [(1, .v (.ptr true [(ssl eRelation db.Relations), (ssl eFact db.Facts)])), (3, .v (osl (eL eI) true out_1)), (4, .v (iT x_2)), (6, .v (iT (w64 ((out_1.length : Int) - 1)))), (9, .v (ssl eFact db.Facts)), (10, .v (iT (db.Facts.length : Int))), (11, .v (iT x_2)), (36, .v (.bool y))])) ((if (w64 ((out_1.length : Int) - 1)) ≥ 0 then
  (ix out_1 (w64 ((out_1.length : Int) - 1))).bind fun v_9 =>
  (ix v_9 0).bind fun v_11 =>
  (ix db.Facts v_11).bind fun v_13 =>
  (f108 db.Relations v_13 v_4).bind fun o15 =>
  some o15
  else
  some false) : Option (Bool))).bind fun x_6 =>
  (jn (QN (fun (y : (List (List Int))) => [(1, .v (.ptr true [(ssl eRelation db.Relations), (ssl eFact db.Facts)])), (3, .v (osl (eL eI) true y)), (9, .v (ssl eFact db.Facts)), (10, .v (iT (db.Facts.length : Int))), (11, .v (iT x_2))])) ((if x_6 = true then
  (ix out_1 (w64 ((out_1.length : Int) - 1))).bind fun v_20 =>
  (app 8 v_20 ([x_2])).bind fun l_22 =>
  some (out_1.set (w64 ((out_1.length : Int) - 1)).toNat l_22)
  else
  sn 3 49 (osl eI true ([x_2])) <| 
  (app 24 out_1 ([[x_2]])).bind fun l_25 =>
  some l_25) : Option (List (List Int)))).bind fun out_27 =>
  some (.inl (out_27, w64 (x_2 + 1)))
  else
  some (.inr out_1) : (List (List Int)) × Int → Option (((List (List Int)) × Int) ⊕ (List (List Int))))) (by exact go)
instance i56 {db : Database} : Rn cx (f56 db) 56 [(.agg [(ssl eRelation db.Relations), (ssl eFact db.Facts)])] (fun (r : (List (List Int))) => (osl (eL eI) true r)) (fun r => []) := Rn.o (e := (
  sn 4 3 (osl (eL eI) true ([])) <| 
  (iter (f56_0 db) ([], 0)).bind fun out_30 =>
  some out_30 : Option (List (List Int)))) rfl (by exact go)
instance : Io0 cx 56 := ⟨rfl⟩
instance i86 {db : Database} : Rn cx (f86 db) 86 [(.agg [(ssl eRelation db.Relations), (ssl eFact db.Facts)])] (fun (r : (List (List Int))) => (osl (eL eI) true r)) (fun r => []) := Rn.o (e := (
  (f84 db).bind fun o1 =>
  if ¬ (o1 = true) then
  sn 1 2 (osl (eL eI) true ([])) <| 
  some ([])
  else
  (f56 db).bind fun o4 =>
  some o4 : Option (List (List Int)))) rfl (by exact go)
instance : Io0 cx 86 := ⟨rfl⟩
instance i39_0 {index : Int} {o1 : (List (List Int))} : Lp cx (f39_0 index o1) 19 L39_0 (fun (zs : Int) => [(1, .v (iT index)), (8, .v (ssl (eL eI) o1)), (9, .v (iT (o1.length : Int))), (10, .v (iT zs))]) (QO (QX 0 (fun (y : Unit) => [])) (QR (fun (y : (List Int) × Int) => [(4, .v (ssl eI y.1)), (8, .v (ssl (eL eI) o1)), (10, .v (iT y.2))]))) := Lp.of (by unfold f39_0; exact go)
instance i39 {db : Database} {index : Int} : Rn cx (f39 db index) 39 [(.agg [(ssl eRelation db.Relations), (ssl eFact db.Facts)]), (iT index)] (fun (r : (List Int)) => (ssl eI r)) (fun r => []) := Rn.o (e := (
  (f86 db).bind fun o1 =>
  sn 0 8 (ssl (eL eI) o1) <| 
  (iter (f39_0 index o1) 0).bind fun o => match o with
  | .inl _ =>
  sn 1 4 (osl eI true ([])) <| 
  some ([])
  | .inr (x_12, x_13) =>
  some x_12 : Option (List Int))) rfl (by exact go)
instance : Io0 cx 39 := ⟨rfl⟩
instance i38_0 {a : (List Int)} {b : (List Int)} : Lp cx (f38_0 a b) 25 L38_0 (fun (zs : (List Int) × Int) => [(1, .v (ssl eI b)), (5, .v (osl eI true zs.1)), (9, .v (ssl eI a)), (10, .v (iT (a.length : Int))), (11, .v (iT zs.2))]) (QX 0 (fun (y : (List Int)) => [(5, .v (osl eI true y))])) := Lp.of (f := (fun
 | (out_1, x_2) =>
  if x_2 < (a.length : Int) then
  (ix a x_2).bind fun v_4 =>
  (f47 b v_4).bind fun o6 =>
  (jn (QN (fun (y : (List Int)) => [(1, .v (ssl eI b)), (5, .v (osl eI true y)), (9, .v (ssl eI a)), (10, .v (iT (a.length : Int))), (11, .v (iT x_2))])) ((if ¬ (o6 = true) then
  (app 8 out_1 ([v_4])).bind fun l_11 =>
  some l_11
  else
  some out_1) : Option (List Int))).bind fun out_13 =>
  some (.inl (out_13, w64 (x_2 + 1)))
  else
  some (.inr out_1) : (List Int) × Int → Option (((List Int) × Int) ⊕ (List Int)))) (by exact go)
instance i38 {a : (List Int)} {b : (List Int)} : Rn cx (f38 a b) 38 [(ssl eI a), (ssl eI b)] (fun (r : (List Int)) => (osl eI true r)) (fun r => []) := Rn.o (e := (
  sn 3 5 (osl eI true ([])) <| 
  (iter (f38_0 a b) ([], 0)).bind fun out_16 =>
  some out_16 : Option (List Int))) rfl (by exact go)
instance : Io0 cx 38 := ⟨rfl⟩
instance i37_0 {indices : (List Int)} {l : (List Fact)} : Lp cx (f37_0 indices l) 45 L37_0 (fun (zs : (List Relation) × (List Fact) × Nat × Int) => [(4, .v (.ptr true [(osl eRelation true ([])), (osl eFact true ([]))])), (6, .v (.ptr true [.und, (.sl true true 2 0 (arrM eFact zs.2.2.1 l))])), (7, .v (.ptr true [(osl eRelation true zs.1), (osl eFact true zs.2.1)])), (27, .v (ssl eI indices)), (28, .v (iT (indices.length : Int))), (29, .v (iT zs.2.2.2))]) (QX 0 (fun (y : (List Relation) × (List Fact)) => [(4, .v (.ptr true [(osl eRelation true ([])), (osl eFact true ([]))])), (7, .v (.ptr true [(osl eRelation true y.1), (osl eFact true y.2)]))])) := Lp.of (f := (fun
 | (rel, out, k, x) =>
  if x < (indices.length : Int) then
  (ix indices x).bind fun v =>
  (mlg l k v).bind fun y =>
  mg 9 <|
  (app 32 out ([y])).bind fun g =>
  some (.inl (rel, g, v.toNat + 1, w64 (x + 1)))
  else
  some (.inr (rel, out)) : (List Relation) × (List Fact) × Nat × Int → Option (((List Relation) × (List Fact) × Nat × Int) ⊕ ((List Relation) × (List Fact))))) (by exact go)
instance i37 {db : Database} {indices : (List Int)} : Rn cx (f37 db indices) 37 [(.agg [(ssl eRelation db.Relations), (ssl eFact db.Facts)]), (ssl eI indices)] (fun (r : Database × Bool) => (.tup [(.agg [(osl eRelation true r.1.Relations), (osl eFact true r.1.Facts)]), (.bool r.2)])) (fun r => []) := Rn.o (e := (
 sn 3 4 (.ptr true [(osl eRelation true ([])), (osl eFact true ([]))]) <|
 (f84 db).bind fun o1 =>
 (jn (QN (fun (y : Bool) => [(1, .v (ssl eI indices)), (2, .v (.ptr true [(ssl eRelation db.Relations), (ssl eFact db.Facts)])), (4, .v (.ptr true [(osl eRelation true ([])), (osl eFact true ([]))])), (20, .v (.bool y))])) ((if ¬ (o1 = true) then
 some true
 else
 (f85 indices (db.Facts.length : Int)).bind fun o6 =>
 some (decide (¬ (o6 = true)))) : Option (Bool))).bind fun x_3 =>
 if x_3 = true then
 sn 1 21 (.agg [(osl eRelation true ([])), (osl eFact true ([]))]) <|
 some (({ Relations := [], Facts := [] } : Database), false)
 else
 (f36 db).bind fun o9 =>
 sn 6 26 (.agg [(osl eRelation true o9.Relations), (osl eFact true ([]))]) <|
 (iter (f37_0 indices o9.Facts) (o9.Relations, [], 0, 0)).bind fun (rel, out) =>
 some (({ Relations := rel, Facts := out } : Database), true) : Option (Database × Bool))) rfl (by exact go)
instance : Io0 cx 37 := ⟨rfl⟩
instance i11_0 {db : Database} {o1 : (List Int)} : Lp cx (lw o1 (f11_0 db)) 40 L11_0 (fun (zs : (List Int) × Int) => [(2, .v (.ptr true [(ssl eRelation db.Relations), (ssl eFact db.Facts)])), (4, .v (.ptr true [(osl eRelation true ([])), (osl eFact true ([]))])), (6, .v (osl eI true o1)), (7, .v (osl eI true zs.1)), (20, .v (iT (db.Facts.length : Int))), (21, .v (iT zs.2))]) (QX 0 (fun (y : (List Int)) => [(2, .v (.ptr true [(ssl eRelation db.Relations), (ssl eFact db.Facts)])), (4, .v (.ptr true [(osl eRelation true ([])), (osl eFact true ([]))])), (6, .v (osl eI true o1)), (7, .v (osl eI true y))])) := Lp.of (by unfold lw f11_0; exact go)
instance i11 {db : Database} {query : Query} : Rn cx (f11 db query) 11 [(.agg [(ssl eRelation db.Relations), (ssl eFact db.Facts)]), (.agg [(iT query.VariableCount), (ssl eAtom query.Atoms), (ssl eI query.Free)])] (fun (r : Database × Bool) => (.tup [(.agg [(osl eRelation true r.1.Relations), (osl eFact true r.1.Facts)]), (.bool r.2)])) (fun r => []) := Rn.o (e := (
  sn 4 4 (.ptr true [(osl eRelation true ([])), (osl eFact true ([]))]) <| 
  (f16 db query).bind fun o1 =>
  if (o1.length : Int) = 0 then
  (f36 db).bind fun o4 =>
  some (o4, false)
  else
  sn 2 7 (osl eI true ([])) <| 
  (iter (lw o1  (f11_0 db)) ([], 0)).bind fun all_13 =>
  (ix o1 0).bind fun v_14 =>
  (f39 db v_14).bind fun o16 =>
  (f38 all_13 o16).bind fun o18 =>
  (f37 db o18).bind fun o20 =>
  some (o20.1, (decide (o20.2 = true))) : Option (Database × Bool))) rfl (by exact go)
instance : Io0 cx 11 := ⟨rfl⟩
instance i10_0 {query : Query} : Lp cx (f10_0 query) 21 L10_0 (fun (zs : (List Relation) × (List Fact) × Bool) => [(3, .v (.ptr true [(iT query.VariableCount), (ssl eAtom query.Atoms), (ssl eI query.Free)])), (4, .v (.ptr true [(osl eRelation true ([])), (osl eFact true ([]))])), (5, .v (.ptr true [(osl eRelation true zs.1), (osl eFact true zs.2.1)])), (6, .v (.bool zs.2.2))]) (QX 0 (fun (y : (List Relation) × (List Fact)) => [(4, .v (.ptr true [(osl eRelation true ([])), (osl eFact true ([]))])), (5, .v (.ptr true [(osl eRelation true y.1), (osl eFact true y.2)]))])) := Lp.of (by unfold f10_0; exact go)
instance i10 {db : Database} {query : Query} : Rn cx (f10 db query) 10 [(.agg [(ssl eRelation db.Relations), (ssl eFact db.Facts)]), (.agg [(iT query.VariableCount), (ssl eAtom query.Atoms), (ssl eI query.Free)])] (fun (r : Database) => (.agg [(osl eRelation true r.Relations), (osl eFact true r.Facts)])) (fun r => []) := Rn.o (e := (
  sn 3 4 (.ptr true [(osl eRelation true ([])), (osl eFact true ([]))]) <| 
  (f11 db query).bind fun o1 =>
  (iter (f10_0 query) (o1.1.Relations, o1.1.Facts, o1.2)).bind fun (out_11, out_12) =>
  some ({ Relations := out_11, Facts := out_12 } : Database) : Option Database)) rfl (by exact go)
instance : Io0 cx 10 := ⟨rfl⟩
instance i122 {a : Relation} {b : Relation} : Rn cx (f122 a b) 122 [(.agg [(.str a.Name), (iT a.Arity), (iT a.KeyLength)]), (.agg [(.str b.Name), (iT b.Arity), (iT b.KeyLength)])] (fun (r : Bool) => (.bool r)) (fun r => []) := Rn.o rfl (by unfold f122; exact go)
instance : Io0 cx 122 := ⟨rfl⟩
instance i73_0 {a : (List Relation)} {b : (List Relation)} : Lp cx (f73_0 a b) 27 L73_0 (fun (zs : Int) => [(0, .v (ssl eRelation a)), (1, .v (ssl eRelation b)), (5, .v (iT zs))]) (QO (QX 0 (fun (y : Unit) => [])) (QR (fun (y : Bool) => [(4, .v (.bool y))]))) := Lp.of (by unfold f73_0; exact go)
instance i73 {a : (List Relation)} {b : (List Relation)} : Rn cx (f73 a b) 73 [(ssl eRelation a), (ssl eRelation b)] (fun (r : Bool) => (.bool r)) (fun r => []) := Rn.o rfl (by unfold f73; exact go)
instance : Io0 cx 73 := ⟨rfl⟩
instance i76_0 {a : (List Int)} {b : (List Int)} : Lp cx (f76_0 a b) 26 L76_0 (fun (zs : Int) => [(0, .v (ssl eI a)), (1, .v (ssl eI b)), (5, .v (iT zs))]) (QO (QX 0 (fun (y : Unit) => [])) (QR (fun (y : Bool) => [(4, .v (.bool y))]))) := Lp.of (by unfold f76_0; exact go)
instance i76 {a : (List Int)} {b : (List Int)} : Rn cx (f76 a b) 76 [(ssl eI a), (ssl eI b)] (fun (r : Bool) => (.bool r)) (fun r => []) := Rn.o rfl (by unfold f76; exact go)
instance : Io0 cx 76 := ⟨rfl⟩
instance i123 {a : Fact} {b : Fact} : Rn cx (f123 a b) 123 [(.agg [(iT a.Relation), (ssl eI a.Values)]), (.agg [(iT b.Relation), (ssl eI b.Values)])] (fun (r : Bool) => (.bool r)) (fun r => []) := Rn.o rfl (by unfold f123; exact go)
instance : Io0 cx 123 := ⟨rfl⟩
instance i74_0 {a : (List Fact)} {b : (List Fact)} : Lp cx (f74_0 a b) 27 L74_0 (fun (zs : Int) => [(0, .v (ssl eFact a)), (1, .v (ssl eFact b)), (5, .v (iT zs))]) (QO (QX 0 (fun (y : Unit) => [])) (QR (fun (y : Bool) => [(4, .v (.bool y))]))) := Lp.of (by unfold f74_0; exact go)
instance i74 {a : (List Fact)} {b : (List Fact)} : Rn cx (f74 a b) 74 [(ssl eFact a), (ssl eFact b)] (fun (r : Bool) => (.bool r)) (fun r => []) := Rn.o rfl (by unfold f74; exact go)
instance : Io0 cx 74 := ⟨rfl⟩
instance i30 {a : Database} {b : Database} : Rn cx (f30 a b) 30 [(.agg [(ssl eRelation a.Relations), (ssl eFact a.Facts)]), (.agg [(ssl eRelation b.Relations), (ssl eFact b.Facts)])] (fun (r : Bool) => (.bool r)) (fun r => []) := Rn.o rfl (by unfold f30; exact go)
instance : Io0 cx 30 := ⟨rfl⟩
instance i124 {a : Atom} {b : Atom} : Rn cx (f124 a b) 124 [(.agg [(iT a.Relation), (ssl eI a.Terms)]), (.agg [(iT b.Relation), (ssl eI b.Terms)])] (fun (r : Bool) => (.bool r)) (fun r => []) := Rn.o rfl (by unfold f124; exact go)
instance : Io0 cx 124 := ⟨rfl⟩
instance i75_0 {a : (List Atom)} {b : (List Atom)} : Lp cx (f75_0 a b) 27 L75_0 (fun (zs : Int) => [(0, .v (ssl eAtom a)), (1, .v (ssl eAtom b)), (5, .v (iT zs))]) (QO (QX 0 (fun (y : Unit) => [])) (QR (fun (y : Bool) => [(4, .v (.bool y))]))) := Lp.of (by unfold f75_0; exact go)
instance i75 {a : (List Atom)} {b : (List Atom)} : Rn cx (f75 a b) 75 [(ssl eAtom a), (ssl eAtom b)] (fun (r : Bool) => (.bool r)) (fun r => []) := Rn.o rfl (by unfold f75; exact go)
instance : Io0 cx 75 := ⟨rfl⟩
instance i31 {a : Query} {b : Query} : Rn cx (f31 a b) 31 [(.agg [(iT a.VariableCount), (ssl eAtom a.Atoms), (ssl eI a.Free)]), (.agg [(iT b.VariableCount), (ssl eAtom b.Atoms), (ssl eI b.Free)])] (fun (r : Bool) => (.bool r)) (fun r => []) := Rn.o rfl (by unfold f31; exact go)
instance : Io0 cx 31 := ⟨rfl⟩
instance i125_0 : Lp cx f125_0 20 L125_0 (fun (zs : Int × (List UInt8)) => [(0, .v (iT zs.1)), (3, .v (.str zs.2))]) (QX 0 (fun (y : (List UInt8)) => [(3, .v (.str y))])) := Lp.of (by unfold f125_0; exact go)
instance i125 {k : Int} : Rn cx (f125 k) 125 [(iT k)] (fun (r : (List UInt8)) => (.str r)) (fun r => []) := Rn.o rfl (by unfold f125; exact go)
instance : Io0 cx 125 := ⟨rfl⟩
instance i77_0 : Lp cx f77_0 35 L77_0 (fun (zs : (List Relation) × Int × Int) => [(0, .v (osl eRelation true zs.1)), (1, .v (iT zs.2.1)), (5, .v (iT zs.2.2))]) (QX 0 (fun (y : (List Relation) × Int) => [(0, .v (osl eRelation true y.1)), (1, .v (iT y.2))])) := Lp.of (by unfold f77_0; exact go)
instance i77 {a : (List Relation)} {k : Int} : Rn cx (f77 a k) 77 [(osl eRelation true a), (iT k)] (fun (r : Int × (List Relation)) => (iT r.1)) (fun r => [(osl eRelation true r.2)]) := Rn.o rfl (by unfold f77; exact go)
instance i80_0 : Lp cx f80_0 19 L80_0 (fun (zs : (List Int) × Int × Int) => [(0, .v (osl eI true zs.1)), (1, .v (iT zs.2.1)), (5, .v (iT zs.2.2))]) (QX 0 (fun (y : (List Int) × Int) => [(0, .v (osl eI true y.1)), (1, .v (iT y.2))])) := Lp.of (by unfold f80_0; exact go)
instance i80 {a : (List Int)} {k : Int} : Rn cx (f80 a k) 80 [(osl eI true a), (iT k)] (fun (r : Int × (List Int)) => (iT r.1)) (fun r => [(osl eI true r.2)]) := Rn.o rfl (by unfold f80; exact go)
instance i78_0 : Lp cx f78_0 27 L78_0 (fun (zs : (List Fact) × Int × Int) => [(0, .v (osl eFact true zs.1)), (1, .v (iT zs.2.1)), (5, .v (iT zs.2.2))]) (QX 0 (fun (y : (List Fact) × Int) => [(0, .v (osl eFact true y.1)), (1, .v (iT y.2))])) := Lp.of (by unfold f78_0; exact go)
instance i78 {a : (List Fact)} {k : Int} : Rn cx (f78 a k) 78 [(osl eFact true a), (iT k)] (fun (r : Int × (List Fact)) => (iT r.1)) (fun r => [(osl eFact true r.2)]) := Rn.o rfl (by unfold f78; exact go)
theorem r32 {a : Database} {k : Int} {r : Int × Database} (h : f32 a k = some r) : VJx cx (.ca 32 [(.agg [(osl eRelation true a.Relations), (osl eFact true a.Facts)]), (iT k)] (iT r.1) [(.agg [(osl eRelation true r.2.Relations), (osl eFact true r.2.Facts)])]) := by
 obtain ⟨o1, h1, h2⟩ := bind_some h
 obtain ⟨o3, h3, h4⟩ := bind_some h2
 cases h4
 exact VJ.ext (mark2_of (Tb := Tab) (X := noExt) (io := ioTab) (g := 77) (h := 78) rfl rfl rfl rfl rfl (vsound (fun _ _ _ _ h => h) ((inferInstance : Rn cx (f77 a.Relations k) 77 [(osl eRelation true a.Relations), (iT k)] (fun (r : Int × (List Relation)) => (iT r.1)) (fun r => [(osl eRelation true r.2)])).run o1 h1)) (vsound (fun _ _ _ _ h => h) ((inferInstance : Rn cx (f78 a.Facts o1.1) 78 [(osl eFact true a.Facts), (iT o1.1)] (fun (r : Int × (List Fact)) => (iT r.1)) (fun r => [(osl eFact true r.2)])).run o3 h3)))
instance i32 {a : Database} {k : Int} : Rn cx (f32 a k) 32 [(.agg [(osl eRelation true a.Relations), (osl eFact true a.Facts)]), (iT k)] (fun (r : Int × Database) => (iT r.1)) (fun r => [(.agg [(osl eRelation true r.2.Relations), (osl eFact true r.2.Facts)])]) := ⟨fun _ h => r32 h⟩
instance i79_0 : Lp cx f79_0 27 L79_0 (fun (zs : (List Atom) × Int × Int) => [(0, .v (osl eAtom true zs.1)), (1, .v (iT zs.2.1)), (5, .v (iT zs.2.2))]) (QX 0 (fun (y : (List Atom) × Int) => [(0, .v (osl eAtom true y.1)), (1, .v (iT y.2))])) := Lp.of (by unfold f79_0; exact go)
instance i79 {a : (List Atom)} {k : Int} : Rn cx (f79 a k) 79 [(osl eAtom true a), (iT k)] (fun (r : Int × (List Atom)) => (iT r.1)) (fun r => [(osl eAtom true r.2)]) := Rn.o rfl (by unfold f79; exact go)
instance i33 {a : Query} {k : Int} : Rn cx (f33 a k) 33 [(.agg [(iT a.VariableCount), (osl eAtom true a.Atoms), (osl eI true a.Free)]), (iT k)] (fun (r : Int) => (iT r)) (fun r => [.und]) := Rn.o rfl (by unfold f33; exact go)
instance i81_0 {a : (List Relation)} : Lp cx (f81_0 a) 41 L81_0 (fun (zs : Int × Int) => [(0, .v (ssl eRelation a)), (1, .v (iT zs.1)), (5, .v (iT zs.2))]) (QO (QX 0 (fun (y : Int) => [(1, .v (iT y))])) (QR (fun (y : Int) => [(4, .v (iT y))]))) := Lp.of (by unfold f81_0; exact go)
instance i81 {a : (List Relation)} {k : Int} : Rn cx (f81 a k) 81 [(ssl eRelation a), (iT k)] (fun (r : Int) => (iT r)) (fun r => []) := Rn.o rfl (by unfold f81; exact go)
instance : Io0 cx 81 := ⟨rfl⟩
instance i126_0 {a : (List Int)} : Lp cx (f126_0 a) 21 L126_0 (fun (zs : Int × Int) => [(0, .v (ssl eI a)), (1, .v (iT zs.1)), (5, .v (iT zs.2))]) (QO (QX 0 (fun (y : Int) => [(1, .v (iT y))])) (QR (fun (y : Int) => [(4, .v (iT y))]))) := Lp.of (by unfold f126_0; exact go)
instance i126 {a : (List Int)} {k : Int} : Rn cx (f126 a k) 126 [(ssl eI a), (iT k)] (fun (r : Int) => (iT r)) (fun r => []) := Rn.o rfl (by unfold f126; exact go)
instance : Io0 cx 126 := ⟨rfl⟩
instance i82_0 {a : (List Fact)} : Lp cx (f82_0 a) 31 L82_0 (fun (zs : Int × Int) => [(0, .v (ssl eFact a)), (1, .v (iT zs.1)), (5, .v (iT zs.2))]) (QO (QX 0 (fun (y : Int) => [(1, .v (iT y))])) (QR (fun (y : Int) => [(4, .v (iT y))]))) := Lp.of (by unfold f82_0; exact go)
instance i82 {a : (List Fact)} {k : Int} : Rn cx (f82 a k) 82 [(ssl eFact a), (iT k)] (fun (r : Int) => (iT r)) (fun r => []) := Rn.o rfl (by unfold f82; exact go)
instance : Io0 cx 82 := ⟨rfl⟩
instance i34 {a : Database} {k : Int} : Rn cx (f34 a k) 34 [(.agg [(ssl eRelation a.Relations), (ssl eFact a.Facts)]), (iT k)] (fun (r : Int) => (iT r)) (fun r => []) := Rn.o rfl (by unfold f34; exact go)
instance : Io0 cx 34 := ⟨rfl⟩
instance i6 {aDb : Database} {aQuery : Query} : Rn cx (f6 aDb aQuery) 6 [(.agg [(ssl eRelation aDb.Relations), (ssl eFact aDb.Facts)]), (.agg [(iT aQuery.VariableCount), (ssl eAtom aQuery.Atoms), (ssl eI aQuery.Free)])] (fun (r : Bool) => (.bool r)) (fun r => []) := Rn.o (e := (
  (f26 aDb 1048576).bind fun o1 =>
  if o1 < 0 then
  some true
  else
  (f27 aQuery o1).bind fun o4 =>
  if o4 < 0 then
  some true
  else
  sn 3 6 (.ptr true [(osl eRelation true ([])), (osl eFact true ([]))]) <| 
  (f28 aDb).bind fun o7 =>
  (f29 aQuery).bind fun o9 =>
  (f14 o7 o9).bind fun o11 =>
  (f28 aDb).bind fun o13 =>
  (f29 aQuery).bind fun o15 =>
  (f10 o13 o15).bind fun o17 =>
  (f30 o17 o11).bind fun o19 =>
  if ¬ (o19 = true) then
  some false
  else
  (f28 aDb).bind fun o22 =>
  (f30 o13 o22).bind fun o24 =>
  if ¬ (o24 = true) then
  some false
  else
  (f29 aQuery).bind fun o27 =>
  (f31 o15 o27).bind fun o29 =>
  if ¬ (o29 = true) then
  some false
  else
  (f32 o13 1).bind fun o32 =>
  (f33 o15 o32.1).bind fun o34 =>
  (jn (QN (fun (y : Bool) => [(2, .v (.ptr true [(ssl eRelation aDb.Relations), (ssl eFact aDb.Facts)])), (3, .v (.ptr true [(iT aQuery.VariableCount), (ssl eAtom aQuery.Atoms), (ssl eI aQuery.Free)])), (6, .v (.ptr true [(osl eRelation true o11.Relations), (osl eFact true o11.Facts)])), (9, .v (.ptr true [(osl eRelation true o17.Relations), (osl eFact true o17.Facts)])), (63, .v (.bool y))])) ((if o34 < 0 then
  some true
  else
  (f30 o17 o11).bind fun o39 =>
  some (decide (¬ (o39 = true)))) : Option (Bool))).bind fun x_36 =>
  if x_36 = true then
  some false
  else
  (f32 o17 1).bind fun o42 =>
  (f34 o42.2 1).bind fun o44 =>
  if o44 < 0 then
  some false
  else
  if o44 ≠ o42.1 then
  some false
  else
  sn 3 13 (.ptr true [(osl eRelation true ([])), (osl eFact true ([]))]) <| 
  (f28 aDb).bind fun o48 =>
  (f29 aQuery).bind fun o50 =>
  (f10 o48 o50).bind fun o52 =>
  (f30 o52 o11).bind fun o54 =>
  if ¬ (o54 = true) then
  some false
  else
  (f34 o42.2 1).bind fun o57 =>
  if o57 < 0 then
  some false
  else
  if o57 ≠ o42.1 then
  some false
  else
  some true : Option Bool)) rfl (by exact go)
instance : Io0 cx 6 := ⟨rfl⟩
end
end Go.Proofs.YtjmemfggbhkofaaGreatH
