import Derived.Test.YtcllfkplpdppiaaGreatTg1b
set_option maxHeartbeats 2000000
set_option linter.unusedVariables false
set_option linter.unusedSimpArgs false
set_option linter.defProp false
set_option linter.unusedSectionVars false
set_option maxRecDepth 100000
namespace Go.Proofs.YtcllfkplpdppiaaGreatH
open Go
noncomputable section
instance i198_0 {d : Database} {i : Int} : Lp cx (f198_0 d i) 45 L198_0 (fun (zs : (List Int) × Int) => [(1, .v (iT i)), (2, .v (.ptr true [(ssl eRelation d.Relations), (ssl eFact d.Facts)])), (5, .v (osl eI true zs.1)), (6, .v (iT zs.2))]) (QX 0 (fun (y : (List Int)) => [(5, .v (osl eI true y))])) := by
 refine Lp.of (f := (fun
 | (out_1, k_2) =>
  (jn (QN (fun (y : Bool) => [(1, .v (iT i)), (2, .v (.ptr true [(ssl eRelation d.Relations), (ssl eFact d.Facts)])), (5, .v (osl eI true out_1)), (6, .v (iT k_2)), (24, .v (.bool y))])) ((if k_2 < (d.Facts.length : Int) then
  (f73 d).bind fun o6 =>
  (jn (QN (fun (y : Bool) => [(1, .v (iT i)), (2, .v (.ptr true [(ssl eRelation d.Relations), (ssl eFact d.Facts)])), (5, .v (osl eI true out_1)), (6, .v (iT k_2)), (24, .v (.bool y))])) ((if o6 = true then
  (f118 i 0 (w64 ((d.Facts.length : Int) - 1))).bind fun o11 =>
  some o11
  else
  some false) : Option (Bool))).bind fun x_8 =>
  some x_8
  else
  some false) : Option (Bool))).bind fun x_3 =>
  if x_3 = true then
  (ix d.Facts i).bind fun v_14 =>
  (ix d.Facts k_2).bind fun v_16 =>
  (f241 d.Relations v_14 v_16).bind fun o18 =>
  (jn (QN (fun (y : (List Int)) => [(1, .v (iT i)), (2, .v (.ptr true [(ssl eRelation d.Relations), (ssl eFact d.Facts)])), (5, .v (osl eI true y)), (6, .v (iT k_2))])) ((if o18 = true then
  (app 8 out_1 ([k_2])).bind fun l_23 =>
  some l_23
  else
  some out_1) : Option (List Int))).bind fun out_25 =>
  some (.inl (out_25, w64 (k_2 + 1)))
  else
  some (.inr out_1) : (List Int) × Int → Option (((List Int) × Int) ⊕ (List Int)))) ?_
 exact go
instance i198 {d : Database} {i : Int} : Rn cx (f198 d i) 198 [(.agg [(ssl eRelation d.Relations), (ssl eFact d.Facts)]), (iT i)] (fun (r : (List Int)) => (osl eI true r)) (fun r => []) := by
 refine Rn.of (e := (
  sn 4 5 (osl eI true ([])) <| 
  (iter (f198_0 d i) ([], 0)).bind fun out_28 =>
  some out_28 : Option (List Int))) rfl rfl (by decide) rfl ?_
 exact go
instance : Io0 cx 198 := ⟨rfl⟩
instance i141_0 {d : Database} : Lp cx (f141_0 d) 31 L141_0 (fun (zs : (List (List Int)) × Int) => [(1, .v (.ptr true [(ssl eRelation d.Relations), (ssl eFact d.Facts)])), (3, .v (osl (eL eI) true zs.1)), (4, .v (iT zs.2))]) (QX 0 (fun (y : (List (List Int))) => [(3, .v (osl (eL eI) true y))])) := by
 refine Lp.of (f := (fun
 | (out_1, i_2) =>
  (jn (QN (fun (y : Bool) => [(1, .v (.ptr true [(ssl eRelation d.Relations), (ssl eFact d.Facts)])), (3, .v (osl (eL eI) true out_1)), (4, .v (iT i_2)), (15, .v (.bool y))])) ((if i_2 < (d.Facts.length : Int) then
  (f73 d).bind fun o6 =>
  some o6
  else
  some false) : Option (Bool))).bind fun x_3 =>
  if x_3 = true then
  (f198 d i_2).bind fun o9 =>
  (ix o9 0).bind fun v_11 =>
  (jn (QN (fun (y : (List (List Int))) => [(1, .v (.ptr true [(ssl eRelation d.Relations), (ssl eFact d.Facts)])), (3, .v (osl (eL eI) true y)), (4, .v (iT i_2))])) ((if v_11 = i_2 then
  (app 24 out_1 ([o9])).bind fun l_16 =>
  some l_16
  else
  some out_1) : Option (List (List Int)))).bind fun out_18 =>
  some (.inl (out_18, w64 (i_2 + 1)))
  else
  some (.inr out_1) : (List (List Int)) × Int → Option (((List (List Int)) × Int) ⊕ (List (List Int))))) ?_
 exact go
instance i141 {d : Database} : Rn cx (f141 d) 141 [(.agg [(ssl eRelation d.Relations), (ssl eFact d.Facts)])] (fun (r : (List (List Int))) => (osl (eL eI) true r)) (fun r => []) := by
 refine Rn.of (e := (
  sn 4 3 (osl (eL eI) true ([])) <| 
  (iter (f141_0 d) ([], 0)).bind fun out_21 =>
  some out_21 : Option (List (List Int)))) rfl rfl (by decide) rfl ?_
 exact go
instance : Io0 cx 141 := ⟨rfl⟩
instance i129_0 {o1 : (List (List Int))} : Lp cx (f129_0 o1) 53 L129_0 (fun (zs : (List Int) × Int × Int × (List Bool) × Int) => [(0, .v (.ptr true [(ssl eU zs.1), (iT zs.2.1), (iT zs.2.2.1)])), (5, .v (osl (eL eI) true o1)), (6, .v (osl eB true zs.2.2.2.1)), (7, .v (iT zs.2.2.2.2))]) (QX 0 (fun (y : (List Int) × Int × Int × (List Bool)) => [(0, .v (.ptr true [(ssl eU y.1), (iT y.2.1), (iT y.2.2.1)])), (6, .v (osl eB true y.2.2.2))])) := by
 refine Lp.of ?_; unfold f129_0; exact go
instance i129_1 {c_22 : (List Int)} {c_23 : Int} {c_24 : Int} {keep_25 : (List Bool)} : Lp cx (lw (c_22, c_23, c_24) (f129_1 keep_25)) 53 L129_1 (fun (zs : (List Int) × Int) => [(0, .v (.ptr true [(ssl eU c_22), (iT c_23), (iT c_24)])), (6, .v (osl eB true keep_25)), (8, .v (osl eI true zs.1)), (9, .v (iT zs.2))]) (QX 2 (fun (y : (List Int)) => [(0, .v (.ptr true [(ssl eU c_22), (iT c_23), (iT c_24)])), (8, .v (osl eI true y))])) := by
 refine Lp.of (f := (fun
 | (out_26, i_27) =>
  if i_27 < (keep_25.length : Int) then
  (ix keep_25 i_27).bind fun v_29 =>
  (jn (QN (fun (y : (List Int)) => [(0, .v (.ptr true [(ssl eU c_22), (iT c_23), (iT c_24)])), (6, .v (osl eB true keep_25)), (8, .v (osl eI true y)), (9, .v (iT i_27))])) ((if v_29 = true then
  (app 8 out_26 ([i_27])).bind fun l_34 =>
  some l_34
  else
  some out_26) : Option (List Int))).bind fun out_36 =>
  some (.inl (out_36, w64 (i_27 + 1)))
  else
  some (.inr out_26) : (List Int) × Int → Option (((List Int) × Int) ⊕ (List Int)))) ?_
 exact go
instance i129 {c : L1Cur} {d : Database} : Rn cx (f129 c d) 129 [(.ptr true [(ssl eU c.b), (iT c.i), (iT c.h)]), (.agg [(ssl eRelation d.Relations), (ssl eFact d.Facts)])] (fun (r : (List Int) × L1Cur) => (osl eI true r.1)) (fun r => [(.ptr true [(ssl eU r.2.b), (iT r.2.i), (iT r.2.h)])]) := by
 refine Rn.of (e := (
  (f141 d).bind fun o1 =>
  (mkl 1 (d.Facts.length : Int) false).bind fun l_3 =>
  sn 6 6 (osl eB true l_3) <| 
  (iter (f129_0 o1) (c.b, c.i, c.h, l_3, 0)).bind fun (c_22, c_23, c_24, keep_25) =>
  sn 2 8 (osl eI true ([])) <| 
  (iter (lw (c_22, c_23, c_24)  (f129_1 keep_25)) ([], 0)).bind fun out_39 =>
  some (out_39, ({ b := c_22, i := c_23, h := c_24 } : L1Cur)) : Option ((List Int) × L1Cur))) rfl rfl (by decide) rfl ?_
 exact go
instance i130_0 {d : Database} : Lp cx (f130_0 d) 37 L130_0 (fun (zs : (List Int) × Int × Int × (List Int) × Int) => [(0, .v (.ptr true [(ssl eU zs.1), (iT zs.2.1), (iT zs.2.2.1)])), (3, .v (.ptr true [(ssl eRelation d.Relations), (ssl eFact d.Facts)])), (5, .v (osl eI true zs.2.2.2.1)), (6, .v (iT zs.2.2.2.2))]) (QX 0 (fun (y : (List Int) × Int × Int × (List Int)) => [(0, .v (.ptr true [(ssl eU y.1), (iT y.2.1), (iT y.2.2.1)])), (3, .v (.ptr true [(ssl eRelation d.Relations), (ssl eFact d.Facts)])), (5, .v (osl eI true y.2.2.2))])) := by
 refine Lp.of (f := (fun
 | (c_1, c_2, c_3, l_4, i_5) =>
  if i_5 < (d.Facts.length : Int) then
  (f128 ({ b := c_1, i := c_2, h := c_3 } : L1Cur) 2).bind fun o7 =>
  (jn (QN (fun (y : (List Int)) => [(0, .v (.ptr true [(ssl eU o7.2.b), (iT o7.2.i), (iT o7.2.h)])), (3, .v (.ptr true [(ssl eRelation d.Relations), (ssl eFact d.Facts)])), (5, .v (osl eI true y)), (6, .v (iT i_5))])) ((if o7.1 = true then
  (app 8 l_4 ([i_5])).bind fun l_12 =>
  some l_12
  else
  some l_4) : Option (List Int))).bind fun l_14 =>
  some (.inl (o7.2.b, o7.2.i, o7.2.h, l_14, w64 (i_5 + 1)))
  else
  some (.inr (c_1, c_2, c_3, l_4)) : (List Int) × Int × Int × (List Int) × Int → Option (((List Int) × Int × Int × (List Int) × Int) ⊕ ((List Int) × Int × Int × (List Int))))) ?_
 exact go
instance i130 {c : L1Cur} {d : Database} : Rn cx (f130 c d) 130 [(.ptr true [(ssl eU c.b), (iT c.i), (iT c.h)]), (.agg [(ssl eRelation d.Relations), (ssl eFact d.Facts)])] (fun (r : (List Int) × L1Cur) => (osl eI true r.1)) (fun r => [(.ptr true [(ssl eU r.2.b), (iT r.2.i), (iT r.2.h)])]) := by
 refine Rn.of (e := (
  sn 4 5 (osl eI true ([])) <| 
  (iter (f130_0 d) (c.b, c.i, c.h, [], 0)).bind fun (c_17, c_18, c_19, l_20) =>
  (jn (QN (fun (y : (List Int) × Int × Int × Bool) => [(0, .v (.ptr true [(ssl eU y.1), (iT y.2.1), (iT y.2.2.1)])), (3, .v (.ptr true [(ssl eRelation d.Relations), (ssl eFact d.Facts)])), (5, .v (osl eI true l_20)), (27, .v (.bool y.2.2.2))])) ((if (l_20.length : Int) > 0 then
  (f128 ({ b := c_17, i := c_18, h := c_19 } : L1Cur) 12).bind fun o27 =>
  some (o27.2.b, o27.2.i, o27.2.h, o27.1)
  else
  some (c_17, c_18, c_19, false)) : Option ((List Int) × Int × Int × Bool))).bind fun (c_21, c_22, c_23, x_24) =>
  (jn (QN (fun (y : (List Int) × Int × Int × (List Int)) => [(0, .v (.ptr true [(ssl eU y.1), (iT y.2.1), (iT y.2.2.1)])), (5, .v (osl eI true y.2.2.2))])) ((if x_24 = true then
  sn 6 33 (osl eI true ([-1, (d.Facts.length : Int), 3])) <| 
  sn 0 33 (ssl eI ([-1, (d.Facts.length : Int), 3])) <| 
  (f189 ({ b := c_21, i := c_22, h := c_23 } : L1Cur) ([-1, (d.Facts.length : Int), 3])).bind fun o32 =>
  (ix l_20 0).bind fun v_34 =>
  some (o32.2.b, o32.2.i, o32.2.h, (l_20.set (0 : Int).toNat o32.1))
  else
  some (c_21, c_22, c_23, l_20)) : Option ((List Int) × Int × Int × (List Int)))).bind fun (c_37, c_38, c_39, l_40) =>
  some (l_40, ({ b := c_37, i := c_38, h := c_39 } : L1Cur)) : Option ((List Int) × L1Cur))) rfl rfl (by decide) rfl ?_
 exact go
instance i57 {code : (List Int)} : Rn cx (f57 code) 57 [(ssl eU code)] (fun (r : Database × (List Int) × Query) => (.tup [(.agg [(ssl eRelation r.1.Relations), (ssl eFact r.1.Facts)]), (osl eI true r.2.1), (.agg [(iT r.2.2.VariableCount), (osl eAtom true r.2.2.Atoms), (osl eI true r.2.2.Free)])])) (fun r => []) := by
 refine Rn.of (e := (
  sn 3 2 (.ptr true [(osl eRelation true ([])), (osl eFact true ([]))]) <| 
  sn 0 4 (.ptr true [(iT 0), (osl eAtom true ([])), (osl eI true ([]))]) <| 
  (f127 code).bind fun o1 =>
  sn 9 6 (.ptr false [(ssl eRelation o1.2.1.Relations), (ssl eFact o1.2.1.Facts)]) <| 
  (f128 o1.1 2).bind fun o3 =>
  if o3.1 = true then
  (f129 o3.2 o1.2.1).bind fun o6 =>
  some (o1.2.1, o6.1, o1.2.2)
  else
  (f130 o3.2 o1.2.1).bind fun o8 =>
  some (o1.2.1, o8.1, o1.2.2) : Option (Database × (List Int) × Query))) rfl rfl (by decide) rfl ?_
 exact go
instance : Io0 cx 57 := ⟨rfl⟩
instance i122 {n0 : Int} {low : Int} {high : Int} : Rn cx (f122 n0 low high) 122 [(iT n0), (iT low), (iT high)] (fun (r : Bool) => (.bool r)) (fun r => []) := by
 refine Rn.of (e := (
  (jn (QN (fun (y : Bool) => [(6, .v (.bool y))])) ((if low ≤ n0 then
  some (decide (n0 ≤ high))
  else
  some false) : Option (Bool))).bind fun x_1 =>
  some x_1 : Option Bool)) rfl rfl (by decide) rfl ?_
 exact go
instance : Io0 cx 122 := ⟨rfl⟩
instance i208 {relation : Relation} : Rn cx (f208 relation) 208 [(.agg [(.str relation.Name), (iT relation.Arity), (iT relation.KeyLength)])] (fun (r : Bool) => (.bool r)) (fun r => []) := by
 refine Rn.of (e := (
  (jn (QN (fun (y : Bool) => [(2, .v (.bool y))])) ((if (relation.Name.length : Int) = 1 then
  (ix relation.Name 0).bind fun c_4 =>
  (jn (QN (fun (y : Bool) => [(2, .v (.bool y))])) ((if (c_4.toNat : Int) ≥ 97 then
  (jn (QN (fun (y : Bool) => [(2, .v (.bool y))])) ((if (c_4.toNat : Int) ≤ 122 then
  (f122 relation.Arity 1 3).bind fun o12 =>
  (jn (QN (fun (y : Bool) => [(2, .v (.bool y))])) ((if o12 = true then
  (f122 relation.KeyLength 0 relation.Arity).bind fun o17 =>
  some o17
  else
  some false) : Option (Bool))).bind fun x_14 =>
  some x_14
  else
  some false) : Option (Bool))).bind fun x_9 =>
  some x_9
  else
  some false) : Option (Bool))).bind fun x_6 =>
  some x_6
  else
  some false) : Option (Bool))).bind fun x_1 =>
  some x_1 : Option Bool)) rfl rfl (by decide) rfl ?_
 exact go
instance : Io0 cx 208 := ⟨rfl⟩
instance i156_0 {relations : (List Relation)} : Lp cx (f156_0 relations) 34 L156_0 (fun (zs : Int) => [(0, .v (ssl eRelation relations)), (5, .v (ssl eRelation relations)), (6, .v (iT (relations.length : Int))), (7, .v (iT zs))]) (QO (QX 0 (fun (y : Unit) => [(0, .v (ssl eRelation relations))])) (QR (fun (y : Bool) => [(2, .v (.bool y))]))) := by
 refine Lp.of (f := (fun
 | x_1 =>
  if x_1 < (relations.length : Int) then
  (ix relations x_1).bind fun v_3 =>
  (f208 v_3).bind fun o5 =>
  (jn (QN (fun (y : Bool) => [(0, .v (ssl eRelation relations)), (5, .v (ssl eRelation relations)), (6, .v (iT (relations.length : Int))), (7, .v (iT x_1)), (29, .v (.bool y))])) ((if ¬ (o5 = true) then
  some true
  else
  (jn (QN (fun (y : Bool) => [(0, .v (ssl eRelation relations)), (5, .v (ssl eRelation relations)), (6, .v (iT (relations.length : Int))), (7, .v (iT x_1)), (29, .v (.bool y))])) ((if x_1 > 0 then
  (ix relations (w64 (x_1 - 1))).bind fun v_13 =>
  some (!(Op.bytesLess v_13.Name v_3.Name))
  else
  some false) : Option (Bool))).bind fun x_10 =>
  some x_10) : Option (Bool))).bind fun x_7 =>
  if x_7 = true then
  some (.inr (.inr false))
  else
  some (.inl (w64 (x_1 + 1)))
  else
  some (.inr (.inl ())) : Int → Option (Int ⊕ (Unit ⊕ Bool)))) ?_
 exact go
instance i156 {relations : (List Relation)} : Rn cx (f156 relations) 156 [(ssl eRelation relations)] (fun (r : Bool) => (.bool r)) (fun r => []) := by
 refine Rn.of rfl rfl (by decide) rfl ?_; unfold f156; exact go
instance : Io0 cx 156 := ⟨rfl⟩
instance i212_0 {s0 : (List Int)} {g_f : Nat} {cp_f : List T} {f : Int → Option Bool} [hp_f : ∀ x0, Rn cx (f x0) g_f ((iT x0) :: cp_f) (fun o => (.bool o)) (fun _ => [])] [Io0 cx g_f] : Lp cx (f212_0 s0 f) 19 L212_0 (fun (zs : Int) => [(0, .v (ssl eI s0)), (1, .v (.fn g_f cp_f)), (7, .v (iT (s0.length : Int))), (8, .v (iT zs))]) (QO (QX 0 (fun (y : Unit) => [])) (QR (fun (y : Int) => [(4, .v (iT y))]))) := by
 refine Lp.of ?_; unfold f212_0; exact go
instance i212 {s0 : (List Int)} {g_f : Nat} {cp_f : List T} {f : Int → Option Bool} [hp_f : ∀ x0, Rn cx (f x0) g_f ((iT x0) :: cp_f) (fun o => (.bool o)) (fun _ => [])] [Io0 cx g_f] : Rn cx (f212 s0 f) 212 [(ssl eI s0), (.fn g_f cp_f)] (fun (r : Int) => (iT r)) (fun r => []) := by
 refine Rn.of rfl rfl (by decide) rfl ?_; unfold f212; exact go
instance : Io0 cx 212 := ⟨rfl⟩
instance i159 {s0 : (List Int)} {g_f : Nat} {cp_f : List T} {f : Int → Option Bool} [hp_f : ∀ x0, Rn cx (f x0) g_f ((iT x0) :: cp_f) (fun o => (.bool o)) (fun _ => [])] [Io0 cx g_f] : Rn cx (f159 s0 f) 159 [(ssl eI s0), (.fn g_f cp_f)] (fun (r : Bool) => (.bool r)) (fun r => []) := by
 refine Rn.of rfl rfl (by decide) rfl ?_; unfold f159; exact go
instance : Io0 cx 159 := ⟨rfl⟩
instance i245 {v : Int} : Rn cx (f245 v) 245 [(iT v)] (fun (r : Bool) => (.bool r)) (fun r => []) := by
 refine Rn.of rfl rfl (by decide) rfl ?_; unfold f245; exact go
instance : Io0 cx 245 := ⟨rfl⟩
instance i209 {list : (List Int)} : Rn cx (f209 list) 209 [(ssl eI list)] (fun (r : Bool) => (.bool r)) (fun r => []) := by
 refine Rn.of rfl rfl (by decide) rfl ?_; unfold f209; exact go
instance : Io0 cx 209 := ⟨rfl⟩
instance i157 {relations : (List Relation)} {fact : Fact} : Rn cx (f157 relations fact) 157 [(ssl eRelation relations), (.agg [(iT fact.Relation), (ssl eI fact.Values)])] (fun (r : Bool) => (.bool r)) (fun r => []) := by
 refine Rn.of (e := (
  (f122 fact.Relation 0 (w64 ((relations.length : Int) - 1))).bind fun o1 =>
  (jn (QN (fun (y : Bool) => [(4, .v (.bool y))])) ((if o1 = true then
  (ix relations fact.Relation).bind fun v_6 =>
  (jn (QN (fun (y : Bool) => [(4, .v (.bool y))])) ((if (fact.Values.length : Int) = v_6.Arity then
  (f209 fact.Values).bind fun o11 =>
  some o11
  else
  some false) : Option (Bool))).bind fun x_8 =>
  some x_8
  else
  some false) : Option (Bool))).bind fun x_3 =>
  some x_3 : Option Bool)) rfl rfl (by decide) rfl ?_
 exact go
instance : Io0 cx 157 := ⟨rfl⟩
instance i210 {a : Int} {b : Int} : Rn cx (f210 a b) 210 [(iT a), (iT b)] (fun (r : Int) => (iT r)) (fun r => []) := by
 refine Rn.of rfl rfl (by decide) rfl ?_; unfold f210; exact go
instance : Io0 cx 210 := ⟨rfl⟩
instance i262 {x : Int} : Rn cx (f262 x) 262 [(iT x)] (fun (r : Bool) => (.bool r)) (fun r => []) := by
 refine Rn.of rfl rfl (by decide) rfl ?_; unfold f262; exact go
instance : Io0 cx 262 := ⟨rfl⟩
instance i246 {x : Int} {y : Int} : Rn cx (f246 x y) 246 [(iT x), (iT y)] (fun (r : Int) => (iT r)) (fun r => []) := by
 refine Rn.of rfl rfl (by decide) rfl ?_; unfold f246; exact go
instance : Io0 cx 246 := ⟨rfl⟩
instance i211_0 {s1 : (List Int)} {s2 : (List Int)} : Lp cx (f211_0 s1 s2) 36 L211_0 (fun (zs : Int) => [(0, .v (ssl eI s1)), (1, .v (ssl eI s2)), (9, .v (ssl eI s1)), (10, .v (iT (s1.length : Int))), (11, .v (iT zs))]) (QO (QX 0 (fun (y : Unit) => [(0, .v (ssl eI s1)), (1, .v (ssl eI s2))])) (QR (fun (y : Int) => [(4, .v (iT y))]))) := by
 refine Lp.of ?_; unfold f211_0; exact go
instance i211 {s1 : (List Int)} {s2 : (List Int)} : Rn cx (f211 s1 s2) 211 [(ssl eI s1), (ssl eI s2)] (fun (r : Int) => (iT r)) (fun r => []) := by
 refine Rn.of rfl rfl (by decide) rfl ?_; unfold f211; exact go
instance : Io0 cx 211 := ⟨rfl⟩
instance i158 {a : Fact} {b : Fact} : Rn cx (f158 a b) 158 [(.agg [(iT a.Relation), (ssl eI a.Values)]), (.agg [(iT b.Relation), (ssl eI b.Values)])] (fun (r : Int) => (iT r)) (fun r => []) := by
 refine Rn.of rfl rfl (by decide) rfl ?_; unfold f158; exact go
instance : Io0 cx 158 := ⟨rfl⟩
instance i79_0 {db : Database} : Lp cx (f79_0 db) 44 L79_0 (fun (zs : Int) => [(1, .v (.ptr true [(ssl eRelation db.Relations), (ssl eFact db.Facts)])), (16, .v (ssl eFact db.Facts)), (17, .v (iT (db.Facts.length : Int))), (18, .v (iT zs))]) (QO (QX 0 (fun (y : Unit) => [])) (QR (fun (y : Bool) => [(2, .v (.bool y))]))) := by
 refine Lp.of (f := (fun
 | x_7 =>
  if x_7 < (db.Facts.length : Int) then
  (ix db.Facts x_7).bind fun v_9 =>
  (f157 db.Relations v_9).bind fun o11 =>
  (jn (QN (fun (y : Bool) => [(1, .v (.ptr true [(ssl eRelation db.Relations), (ssl eFact db.Facts)])), (16, .v (ssl eFact db.Facts)), (17, .v (iT (db.Facts.length : Int))), (18, .v (iT x_7)), (42, .v (.bool y))])) ((if ¬ (o11 = true) then
  some true
  else
  (jn (QN (fun (y : Bool) => [(1, .v (.ptr true [(ssl eRelation db.Relations), (ssl eFact db.Facts)])), (16, .v (ssl eFact db.Facts)), (17, .v (iT (db.Facts.length : Int))), (18, .v (iT x_7)), (42, .v (.bool y))])) ((if x_7 > 0 then
  (ix db.Facts (w64 (x_7 - 1))).bind fun v_19 =>
  (f158 v_19 v_9).bind fun o21 =>
  some (decide (o21 ≥ 0))
  else
  some false) : Option (Bool))).bind fun x_16 =>
  some x_16) : Option (Bool))).bind fun x_13 =>
  if x_13 = true then
  some (.inr (.inr false))
  else
  some (.inl (w64 (x_7 + 1)))
  else
  some (.inr (.inl ())) : Int → Option (Int ⊕ (Unit ⊕ Bool)))) ?_
 exact go
instance i79 {db : Database} : Rn cx (f79 db) 79 [(.agg [(ssl eRelation db.Relations), (ssl eFact db.Facts)])] (fun (r : Bool) => (.bool r)) (fun r => []) := by
 refine Rn.of (e := (
  (f156 db.Relations).bind fun o1 =>
  (jn (QN (fun (y : Bool) => [(1, .v (.ptr true [(ssl eRelation db.Relations), (ssl eFact db.Facts)])), (14, .v (.bool y))])) ((if ¬ (o1 = true) then
  some true
  else
  some (decide ((db.Facts.length : Int) > 14))) : Option (Bool))).bind fun x_3 =>
  if x_3 = true then
  some false
  else
  (iter (f79_0 db) 0).bind fun o => match o with
  | .inl _ =>
  some true
  | .inr x_26 =>
  some x_26 : Option Bool)) rfl rfl (by decide) rfl ?_
 exact go
instance : Io0 cx 79 := ⟨rfl⟩
instance i172_0 {indices : (List Int)} {n1 : Int} : Lp cx (f172_0 indices n1) 33 L172_0 (fun (zs : Int) => [(0, .v (ssl eI indices)), (1, .v (iT n1)), (7, .v (ssl eI indices)), (8, .v (iT (indices.length : Int))), (9, .v (iT zs))]) (QO (QX 0 (fun (y : Unit) => [])) (QR (fun (y : Bool) => [(4, .v (.bool y))]))) := by
 refine Lp.of (f := (fun
 | x_1 =>
  if x_1 < (indices.length : Int) then
  (ix indices x_1).bind fun v_3 =>
  (f122 v_3 0 (w64 (n1 - 1))).bind fun o5 =>
  (jn (QN (fun (y : Bool) => [(0, .v (ssl eI indices)), (1, .v (iT n1)), (7, .v (ssl eI indices)), (8, .v (iT (indices.length : Int))), (9, .v (iT x_1)), (31, .v (.bool y))])) ((if ¬ (o5 = true) then
  some true
  else
  (jn (QN (fun (y : Bool) => [(0, .v (ssl eI indices)), (1, .v (iT n1)), (7, .v (ssl eI indices)), (8, .v (iT (indices.length : Int))), (9, .v (iT x_1)), (31, .v (.bool y))])) ((if x_1 > 0 then
  (ix indices (w64 (x_1 - 1))).bind fun v_13 =>
  some (decide (v_13 ≥ v_3))
  else
  some false) : Option (Bool))).bind fun x_10 =>
  some x_10) : Option (Bool))).bind fun x_7 =>
  if x_7 = true then
  some (.inr (.inr false))
  else
  some (.inl (w64 (x_1 + 1)))
  else
  some (.inr (.inl ())) : Int → Option (Int ⊕ (Unit ⊕ Bool)))) ?_
 exact go
instance i172 {indices : (List Int)} {n1 : Int} : Rn cx (f172 indices n1) 172 [(ssl eI indices), (iT n1)] (fun (r : Bool) => (.bool r)) (fun r => []) := by
 refine Rn.of rfl rfl (by decide) rfl ?_; unfold f172; exact go
instance : Io0 cx 172 := ⟨rfl⟩
instance i190_0 {db : Database} : Lp cx (f190_0 db) 33 L190_0 (fun (zs : (List Relation) × (List Fact) × Int) => [(1, .v (.ptr true [(ssl eRelation db.Relations), (ssl eFact db.Facts)])), (2, .v (.ptr true [(osl eRelation true ([])), (osl eFact true ([]))])), (3, .v (.ptr true [(osl eRelation true zs.1), (osl eFact true zs.2.1)])), (13, .v (ssl eFact db.Facts)), (14, .v (iT (db.Facts.length : Int))), (15, .v (iT zs.2.2))]) (QX 0 (fun (y : (List Relation) × (List Fact)) => [(2, .v (.ptr true [(osl eRelation true ([])), (osl eFact true ([]))])), (3, .v (.ptr true [(osl eRelation true y.1), (osl eFact true y.2)]))])) := by
 refine Lp.of (f := (fun
 | (out_3, out_4, x_5) =>
  if x_5 < (db.Facts.length : Int) then
  (ix db.Facts x_5).bind fun v_7 =>
  (app 8 ([]) v_7.Values).bind fun l_9 =>
  sn 12 26 (osl eI true l_9) <| 
  (app 32 out_4 ([({ Relation := v_7.Relation, Values := l_9 } : Fact)])).bind fun l_11 =>
  some (.inl (out_3, l_11, w64 (x_5 + 1)))
  else
  some (.inr (out_3, out_4)) : (List Relation) × (List Fact) × Int → Option (((List Relation) × (List Fact) × Int) ⊕ ((List Relation) × (List Fact))))) ?_
 exact go
instance i190 {db : Database} : Rn cx (f190 db) 190 [(.agg [(ssl eRelation db.Relations), (ssl eFact db.Facts)])] (fun (r : Database) => (.agg [(osl eRelation true r.Relations), (osl eFact true r.Facts)])) (fun r => []) := by
 refine Rn.of (e := (
  sn 2 2 (.ptr true [(osl eRelation true ([])), (osl eFact true ([]))]) <| 
  (app 32 ([]) db.Relations).bind fun l_1 =>
  sn 5 9 (osl eRelation true l_1) <| 
  sn 0 10 (osl eFact true ([])) <| 
  (iter (f190_0 db) (l_1, [], 0)).bind fun (out_15, out_16) =>
  some ({ Relations := out_15, Facts := out_16 } : Database) : Option Database)) rfl rfl (by decide) rfl ?_
 exact go
instance : Io0 cx 190 := ⟨rfl⟩
instance i131_0 {indices : (List Int)} {o9 : Database} : Lp cx (f131_0 indices o9) 45 L131_0 (fun (zs : (List Relation) × (List Fact) × Int) => [(4, .v (.ptr true [(osl eRelation true ([])), (osl eFact true ([]))])), (6, .v (.ptr false [(ssl eRelation o9.Relations), (ssl eFact o9.Facts)])), (7, .v (.ptr true [(ssl eRelation zs.1), (osl eFact false zs.2.1)])), (27, .v (ssl eI indices)), (28, .v (iT (indices.length : Int))), (29, .v (iT zs.2.2))]) (QX 0 (fun (y : (List Relation) × (List Fact)) => [(4, .v (.ptr true [(osl eRelation true ([])), (osl eFact true ([]))])), (7, .v (.ptr true [(ssl eRelation y.1), (osl eFact false y.2)]))])) := by
 refine Lp.of ?_; unfold f131_0; exact go
instance i131 {db : Database} {indices : (List Int)} : Rn cx (f131 db indices) 131 [(.agg [(ssl eRelation db.Relations), (ssl eFact db.Facts)]), (ssl eI indices)] (fun (r : Database × Bool) => (.tup [(.agg [(ssl eRelation r.1.Relations), (osl eFact false r.1.Facts)]), (.bool r.2)])) (fun r => []) := by
 refine Rn.of (e := (
  sn 3 4 (.ptr true [(osl eRelation true ([])), (osl eFact true ([]))]) <| 
  (f79 db).bind fun o1 =>
  (jn (QN (fun (y : Bool) => [(1, .v (ssl eI indices)), (2, .v (.ptr true [(ssl eRelation db.Relations), (ssl eFact db.Facts)])), (4, .v (.ptr true [(osl eRelation true ([])), (osl eFact true ([]))])), (20, .v (.bool y))])) ((if ¬ (o1 = true) then
  some true
  else
  (f172 indices (db.Facts.length : Int)).bind fun o6 =>
  some (decide (¬ (o6 = true)))) : Option (Bool))).bind fun x_3 =>
  if x_3 = true then
  sn 1 21 (.agg [(osl eRelation true ([])), (osl eFact true ([]))]) <| 
  some (({ Relations := [], Facts := [] } : Database), false)
  else
  (f190 db).bind fun o9 =>
  sn 2 6 (.ptr false [(ssl eRelation o9.Relations), (ssl eFact o9.Facts)]) <| 
  sn 4 26 (.agg [(ssl eRelation o9.Relations), (osl eFact true ([]))]) <| 
  (iter (f131_0 indices o9) (o9.Relations, [], 0)).bind fun (out_23, out_24) =>
  some (({ Relations := out_23, Facts := out_24 } : Database), true) : Option (Database × Bool))) rfl rfl (by decide) rfl ?_
 exact go
instance : Io0 cx 131 := ⟨rfl⟩
instance i219_0 {s0 : (List Atom)} {g_f : Nat} {cp_f : List T} {f : Atom → Option Bool} [hp_f : ∀ x0, Rn cx (f x0) g_f ((.agg [(iT x0.Relation), (ssl eI x0.Terms)]) :: cp_f) (fun o => (.bool o)) (fun _ => [])] [Io0 cx g_f] : Lp cx (f219_0 s0 f) 19 L219_0 (fun (zs : Int) => [(0, .v (ssl eAtom s0)), (1, .v (.fn g_f cp_f)), (7, .v (iT (s0.length : Int))), (8, .v (iT zs))]) (QO (QX 0 (fun (y : Unit) => [])) (QR (fun (y : Int) => [(4, .v (iT y))]))) := by
 refine Lp.of ?_; unfold f219_0; exact go
instance i219 {s0 : (List Atom)} {g_f : Nat} {cp_f : List T} {f : Atom → Option Bool} [hp_f : ∀ x0, Rn cx (f x0) g_f ((.agg [(iT x0.Relation), (ssl eI x0.Terms)]) :: cp_f) (fun o => (.bool o)) (fun _ => [])] [Io0 cx g_f] : Rn cx (f219 s0 f) 219 [(ssl eAtom s0), (.fn g_f cp_f)] (fun (r : Int) => (iT r)) (fun r => []) := by
 refine Rn.of rfl rfl (by decide) rfl ?_; unfold f219; exact go
instance : Io0 cx 219 := ⟨rfl⟩
instance i173 {s0 : (List Atom)} {g_f : Nat} {cp_f : List T} {f : Atom → Option Bool} [hp_f : ∀ x0, Rn cx (f x0) g_f ((.agg [(iT x0.Relation), (ssl eI x0.Terms)]) :: cp_f) (fun o => (.bool o)) (fun _ => [])] [Io0 cx g_f] : Rn cx (f173 s0 f) 173 [(ssl eAtom s0), (.fn g_f cp_f)] (fun (r : Bool) => (.bool r)) (fun r => []) := by
 refine Rn.of rfl rfl (by decide) rfl ?_; unfold f173; exact go
instance : Io0 cx 173 := ⟨rfl⟩
instance i174 {own : Atom} {c : Atom} : Rn cx (f174 own c) 174 [(.agg [(iT own.Relation), (ssl eI own.Terms)]), (.ptr false [(iT c.Relation), (ssl eI c.Terms)])] (fun (r : Bool) => (.bool r)) (fun r => []) := by
 refine Rn.of rfl rfl (by decide) rfl ?_; unfold f174; exact go
instance : Io0 cx 174 := ⟨rfl⟩
theorem r217 {n : Int} {r : Nat} (h : f217 n = some r) : VJx cx (.ca 217 [.nils, .int .i64 n] (.sl true true 1 r []) []) := by
 exact ca_grow (zs := [.int .i64 (0)]) (zt := [(iT 0)]) rfl rfl rfl rfl (by decide) (by decide) h
instance i217 {n : Int} : Rn cx (f217 n) 217 [.nils, .int .i64 n] (fun r => .sl true true 1 r []) (fun _ => []) := ⟨fun _ h => r217 h⟩
instance i169_0 {slices : (List (List Int))} : Lp cx (f169_0 slices) 36 L169_0 (fun (zs : Int × Int) => [(0, .v (ssl (eL eI) slices)), (3, .v (iT zs.1)), (9, .v (ssl (eL eI) slices)), (10, .v (iT (slices.length : Int))), (11, .v (iT zs.2))]) (QX 0 (fun (y : Int) => [(0, .v (ssl (eL eI) slices)), (3, .v (iT y))])) := by
 refine Lp.of (f := (fun
 | (size_1, x_2) =>
  if x_2 < (slices.length : Int) then
  (ix slices x_2).bind fun v_4 =>
  (jn (QN (fun (y : Unit) => [(0, .v (ssl (eL eI) slices)), (3, .v (iT (w64 (size_1 + (v_4.length : Int))))), (9, .v (ssl (eL eI) slices)), (10, .v (iT (slices.length : Int))), (11, .v (iT x_2))])) ((if (w64 (size_1 + (v_4.length : Int))) < 0 then
  none
  else
  some ()) : Option Unit)).bind fun _ =>
  some (.inl (w64 (size_1 + (v_4.length : Int)), w64 (x_2 + 1)))
  else
  some (.inr size_1) : Int × Int → Option ((Int × Int) ⊕ Int))) ?_
 exact go
instance i169_1 {slices : (List (List Int))} : Lp cx (f169_1 slices) 36 L169_1 (fun (zs : Nat × (List Int) × Int) => [(6, .v (.sl true true 1 zs.1 (arr eI true zs.2.1))), (25, .v (ssl (eL eI) slices)), (26, .v (iT (slices.length : Int))), (27, .v (iT zs.2.2))]) (QX 2 (fun (y : Nat × (List Int)) => [(6, .v (.sl true true 1 y.1 (arr eI true y.2)))])) := by
 refine Lp.of ?_; unfold f169_1; exact go
instance i169 {slices : (List (List Int))} : Rn cx (f169 slices) 169 [(ssl (eL eI) slices)] (fun (r : (List Int)) => (osl eI true r)) (fun r => []) := by
 refine Rn.of rfl rfl (by decide) rfl ?_; unfold f169; exact go
instance : Io0 cx 169 := ⟨rfl⟩
theorem r140 {l : List Int} {r : List Int} (h : f140 l = some r) : VJx cx (.ca 140 [osl eI true l] (.tup []) [osl eI true r]) := by
 exact ca_sort (X := X0) (fun _ _ _ _ _ h => .inl h) (fun _ _ _ _ h => h) rfl h
instance i140 {l : List Int} : Rn cx (f140 l) 140 [osl eI true l] (fun _ => .tup []) (fun r => [osl eI true r]) := ⟨fun _ h => r140 h⟩
theorem r170 {l : List Int} {r : List Int} (h : f170 l = some r) : VJx cx (.ca 170 [osl eI true l] (ssl eI r) [.und]) := by
 exact ca_comp (X := X0) (fun _ _ _ _ _ h => .inr (h)) (fun _ _ _ _ h => h) rfl h
instance i170 {l : List Int} : Rn cx (f170 l) 170 [osl eI true l] (fun r => ssl eI r) (fun _ => [.und]) := ⟨fun _ h => r170 h⟩
instance i104 {a : (List Int)} {b : (List Int)} : Rn cx (f104 a b) 104 [(ssl eI a), (ssl eI b)] (fun (r : (List Int)) => (ssl eI r)) (fun r => []) := by
 refine Rn.of (e := (
  sn 4 8 (osl (eL eI) false ([a, b])) <| 
  (f169 ([a, b])).bind fun o1 =>
  (f140 o1).bind fun o3 =>
  (f170 o3).bind fun o5 =>
  some o5 : Option (List Int))) rfl rfl (by decide) rfl ?_
 exact go
instance : Io0 cx 104 := ⟨rfl⟩
instance i102_0 {atom : Atom} : Lp cx (f102_0 atom) 23 L102_0 (fun (zs : (List Int) × Int) => [(1, .v (.ptr true [(iT atom.Relation), (ssl eI atom.Terms)])), (3, .v (osl eI true zs.1)), (8, .v (ssl eI atom.Terms)), (9, .v (iT (atom.Terms.length : Int))), (10, .v (iT zs.2))]) (QX 0 (fun (y : (List Int)) => [(3, .v (osl eI true y))])) := by
 refine Lp.of (f := (fun
 | (out_1, x_2) =>
  if x_2 < (atom.Terms.length : Int) then
  (ix atom.Terms x_2).bind fun v_4 =>
  (f122 v_4 0 3).bind fun o6 =>
  (jn (QN (fun (y : (List Int)) => [(1, .v (.ptr true [(iT atom.Relation), (ssl eI atom.Terms)])), (3, .v (osl eI true y)), (8, .v (ssl eI atom.Terms)), (9, .v (iT (atom.Terms.length : Int))), (10, .v (iT x_2))])) ((if o6 = true then
  (app 8 out_1 ([v_4])).bind fun l_11 =>
  some l_11
  else
  some out_1) : Option (List Int))).bind fun out_13 =>
  some (.inl (out_13, w64 (x_2 + 1)))
  else
  some (.inr out_1) : (List Int) × Int → Option (((List Int) × Int) ⊕ (List Int)))) ?_
 exact go
instance i102 {atom : Atom} : Rn cx (f102 atom) 102 [(.agg [(iT atom.Relation), (ssl eI atom.Terms)])] (fun (r : (List Int)) => (ssl eI r)) (fun r => []) := by
 refine Rn.of (e := (
  sn 4 3 (osl eI true ([])) <| 
  (iter (f102_0 atom) ([], 0)).bind fun out_16 =>
  sn 1 21 (ssl eI out_16) <| 
  (f104 out_16 ([] : (List Int))).bind fun o17 =>
  some o17 : Option (List Int))) rfl rfl (by decide) rfl ?_
 exact go
instance : Io0 cx 102 := ⟨rfl⟩
instance i111_1 {relations : (List Relation)} {query : Query} {occurring_19 : (List Int)} {x_20 : Int} {v_22 : Atom} : Lp cx (lw (relations, occurring_19, x_20) (f111_1 query v_22)) 94 L111_1 (fun (zs : Int) => [(0, .v (ssl eRelation relations)), (3, .v (.ptr true [(iT query.VariableCount), (ssl eAtom query.Atoms), (ssl eI query.Free)])), (5, .v (ssl eI occurring_19)), (7, .v (.ptr true [(iT v_22.Relation), (ssl eI v_22.Terms)])), (36, .v (ssl eAtom query.Atoms)), (37, .v (iT (query.Atoms.length : Int))), (38, .v (iT x_20)), (71, .v (ssl eI v_22.Terms)), (72, .v (iT (v_22.Terms.length : Int))), (73, .v (iT zs))]) (QO (QX 2 (fun (y : Unit) => [(0, .v (ssl eRelation relations)), (3, .v (.ptr true [(iT query.VariableCount), (ssl eAtom query.Atoms), (ssl eI query.Free)])), (5, .v (ssl eI occurring_19)), (7, .v (.ptr true [(iT v_22.Relation), (ssl eI v_22.Terms)])), (36, .v (ssl eAtom query.Atoms)), (37, .v (iT (query.Atoms.length : Int))), (38, .v (iT x_20))])) (QR (fun (y : Bool) => [(4, .v (.bool y))]))) := by
 refine Lp.of ?_; unfold lw f111_1; exact go
instance i111_0 {relations : (List Relation)} {query : Query} : Lp cx (f111_0 relations query) 94 L111_0 (fun (zs : (List Int) × Int) => [(0, .v (ssl eRelation relations)), (3, .v (.ptr true [(iT query.VariableCount), (ssl eAtom query.Atoms), (ssl eI query.Free)])), (5, .v (ssl eI zs.1)), (36, .v (ssl eAtom query.Atoms)), (37, .v (iT (query.Atoms.length : Int))), (38, .v (iT zs.2))]) (QO (QX 0 (fun (y : (List Int)) => [(3, .v (.ptr true [(iT query.VariableCount), (ssl eAtom query.Atoms), (ssl eI query.Free)])), (5, .v (ssl eI y))])) (QR (fun (y : Bool) => [(4, .v (.bool y))]))) := by
 refine Lp.of (f := (fun
 | (occurring_19, x_20) =>
  if x_20 < (query.Atoms.length : Int) then
  (ix query.Atoms x_20).bind fun v_22 =>
  (f122 v_22.Relation 0 (w64 ((relations.length : Int) - 1))).bind fun o24 =>
  (jn (QN (fun (y : Bool) => [(0, .v (ssl eRelation relations)), (3, .v (.ptr true [(iT query.VariableCount), (ssl eAtom query.Atoms), (ssl eI query.Free)])), (5, .v (ssl eI occurring_19)), (7, .v (.ptr true [(iT v_22.Relation), (ssl eI v_22.Terms)])), (36, .v (ssl eAtom query.Atoms)), (37, .v (iT (query.Atoms.length : Int))), (38, .v (iT x_20)), (69, .v (.bool y))])) ((if ¬ (o24 = true) then
  some true
  else
  (ix relations v_22.Relation).bind fun v_29 =>
  (jn (QN (fun (y : Bool) => [(0, .v (ssl eRelation relations)), (3, .v (.ptr true [(iT query.VariableCount), (ssl eAtom query.Atoms), (ssl eI query.Free)])), (5, .v (ssl eI occurring_19)), (7, .v (.ptr true [(iT v_22.Relation), (ssl eI v_22.Terms)])), (36, .v (ssl eAtom query.Atoms)), (37, .v (iT (query.Atoms.length : Int))), (38, .v (iT x_20)), (69, .v (.bool y))])) ((if (v_22.Terms.length : Int) ≠ v_29.Arity then
  some true
  else
  (cutL query.Atoms 0 x_20).bind fun l_34 =>
  (f173 l_34 (fun x0 => f174 x0 v_22)).bind fun o36 =>
  some o36) : Option (Bool))).bind fun x_31 =>
  some x_31) : Option (Bool))).bind fun x_26 =>
  if x_26 = true then
  some (.inr (.inr false))
  else
  (iter (lw (relations, occurring_19, x_20)  (f111_1 query v_22)) 0).bind fun o => match o with
  | .inl _ =>
  (f102 v_22).bind fun o49 =>
  (f104 occurring_19 o49).bind fun o51 =>
  some (.inl (o51, w64 (x_20 + 1)))
  | .inr x_48 =>
  some (.inr (.inr x_48))
  else
  some (.inr (.inl occurring_19)) : (List Int) × Int → Option (((List Int) × Int) ⊕ ((List Int) ⊕ Bool)))) ?_
 exact go
instance i111 {relations : (List Relation)} {query : Query} : Rn cx (f111 relations query) 111 [(ssl eRelation relations), (.agg [(iT query.VariableCount), (ssl eAtom query.Atoms), (ssl eI query.Free)])] (fun (r : Bool) => (.bool r)) (fun r => []) := by
 refine Rn.of (e := (
  (f156 relations).bind fun o1 =>
  (jn (QN (fun (y : Bool) => [(0, .v (ssl eRelation relations)), (3, .v (.ptr true [(iT query.VariableCount), (ssl eAtom query.Atoms), (ssl eI query.Free)])), (33, .v (.bool y))])) ((if ¬ (o1 = true) then
  some true
  else
  (f122 query.VariableCount 0 4).bind fun o6 =>
  (jn (QN (fun (y : Bool) => [(0, .v (ssl eRelation relations)), (3, .v (.ptr true [(iT query.VariableCount), (ssl eAtom query.Atoms), (ssl eI query.Free)])), (33, .v (.bool y))])) ((if ¬ (o6 = true) then
  some true
  else
  (f122 (query.Atoms.length : Int) 1 3).bind fun o11 =>
  (jn (QN (fun (y : Bool) => [(0, .v (ssl eRelation relations)), (3, .v (.ptr true [(iT query.VariableCount), (ssl eAtom query.Atoms), (ssl eI query.Free)])), (33, .v (.bool y))])) ((if ¬ (o11 = true) then
  some true
  else
  (f172 query.Free query.VariableCount).bind fun o16 =>
  some (decide (¬ (o16 = true)))) : Option (Bool))).bind fun x_13 =>
  some x_13) : Option (Bool))).bind fun x_8 =>
  some x_8) : Option (Bool))).bind fun x_3 =>
  if x_3 = true then
  some false
  else
  sn 2 5 (osl eI true ([])) <| 
  sn 0 5 (ssl eI ([])) <| 
  (iter (f111_0 relations query) ([], 0)).bind fun o => match o with
  | .inl occurring_55 =>
  some (decide ((occurring_55.length : Int) = query.VariableCount))
  | .inr x_56 =>
  some x_56 : Option Bool)) rfl rfl (by decide) rfl ?_
 exact go
instance : Io0 cx 111 := ⟨rfl⟩
instance i90 {db : Database} {query : Query} : Rn cx (f90 db query) 90 [(.agg [(ssl eRelation db.Relations), (ssl eFact db.Facts)]), (.agg [(iT query.VariableCount), (ssl eAtom query.Atoms), (ssl eI query.Free)])] (fun (r : Bool) => (.bool r)) (fun r => []) := by
 refine Rn.of (e := (
  (f79 db).bind fun o1 =>
  (jn (QN (fun (y : Bool) => [(4, .v (.bool y))])) ((if o1 = true then
  (f111 db.Relations query).bind fun o6 =>
  some o6
  else
  some false) : Option (Bool))).bind fun x_3 =>
  some x_3 : Option Bool)) rfl rfl (by decide) rfl ?_
 exact go
instance : Io0 cx 90 := ⟨rfl⟩
instance i248 {x : Int} {y : Int} : Rn cx (f248 x y) 248 [(.int .u64 x), (.int .u64 y)] (fun (r : Int × Int) => (.tup [(.int .u64 r.1), (.int .u64 r.2)])) (fun r => []) := by
 refine Rn.of rfl rfl (by decide) rfl ?_; unfold f248; exact go
instance : Io0 cx 248 := ⟨rfl⟩
instance i213 {x : Int} {y : Int} : Rn cx (f213 x y) 213 [(.int .u64 x), (.int .u64 y)] (fun (r : Int × Int) => (.tup [(.int .u64 r.1), (.int .u64 r.2)])) (fun r => []) := by
 refine Rn.of rfl rfl (by decide) rfl ?_; unfold f213; exact go
instance : Io0 cx 213 := ⟨rfl⟩
instance i161_0 : Lp cx f161_0 48 L161_0 (fun (zs : (List Int) × Int) => [(7, .v (.sl true false 1 0 (arr eI true zs.1))), (8, .v (iT zs.2))]) (QX 0 (fun (y : (List Int)) => [(7, .v (.sl true false 1 0 (arr eI true y)))])) := by
 refine Lp.of (f := (fun
 | (newslice_14, n_15) =>
  if n_15 < (newslice_14.length : Int) then
  (cutL newslice_14 0 n_15).bind fun z_17 =>
  cs 3 <| 
  some (.inl ((csL newslice_14 n_15.toNat), w64 (n_15 + (min n_15 ((newslice_14.length : Int) - n_15)))))
  else
  some (.inr newslice_14) : (List Int) × Int → Option (((List Int) × Int) ⊕ (List Int)))) ?_
 exact go
instance i161 {x : (List Int)} {count : Int} : Rn cx (f161 x count) 161 [(ssl eI x), (iT count)] (fun (r : (List Int)) => (osl eI true r)) (fun r => []) := by
 refine Rn.of (e := (
  (jn (QN (fun (y : Unit) => [(0, .v (ssl eI x)), (1, .v (iT count))])) ((if count < 0 then
  none
  else
  some ()) : Option Unit)).bind fun _ =>
  (f213 (IntKind.u64.wrap (x.length : Int)) (IntKind.u64.wrap count)).bind fun o4 =>
  (jn (QN (fun (y : Bool) => [(0, .v (ssl eI x)), (6, .v (.int .u64 o4.2)), (26, .v (.bool y))])) ((if o4.1 > 0 then
  some true
  else
  some (decide (o4.2 > 9223372036854775807))) : Option (Bool))).bind fun x_6 =>
  (jn (QN (fun (y : Unit) => [(0, .v (ssl eI x)), (6, .v (.int .u64 o4.2))])) ((if x_6 = true then
  none
  else
  some ()) : Option Unit)).bind fun _ =>
  (mkl 8 (w64 o4.2) 0).bind fun l_12 =>
  cp 6 <| 
  (iter f161_0 ((cpL l_12 x), ((min x.length l_12.length : Nat) : Int))).bind fun newslice_21 =>
  sn 2 4 (osl eI true newslice_21) <| 
  some newslice_21 : Option (List Int))) rfl rfl (by decide) rfl ?_
 exact go
instance : Io0 cx 161 := ⟨rfl⟩
instance i81 {n0 : Int} : Rn cx (f81 n0) 81 [(iT n0)] (fun (r : (List Int)) => (osl eI true r)) (fun r => []) := by
 refine Rn.of (e := (
  sn 3 3 (osl eI true ([-1])) <| 
  (f161 ([-1]) n0).bind fun o1 =>
  some o1 : Option (List Int))) rfl rfl (by decide) rfl ?_
 exact go
instance : Io0 cx 81 := ⟨rfl⟩
theorem r135 {s0 : (List Int)} {r : (List Int)} (h : f135 s0 = some r) : VJx cx (.ca 135 [(ssl eI s0)] (osl eI true r) []) := by
 unfold f135 at h
 refine ca_clone (X := noExt) (fun _ _ _ _ h => h) (fun _ _ _ _ h => h) rfl (by decide) rfl (cl_eq h) ?_
 refine Wc.start (V1 := [(0, .v (ssl eI s0))]) (by simp) ?_
 refine Wc.seq ?_
 obtain ⟨l_1, h2, h⟩ := bind_some h
 have gx2 := appT_arr2 (E := eI) (b := true) (b' := false) (y := false) h2 (by decide) (arr_sc rfl _)
 simp [-aI_app0, -aB_app0, -aS_app0, -aL_app0, -aLt_app1I, -aLf_app1I, -aLt_app10I, -aLf_app10I] at gx2
 refine Wc.evs (by conv => lhs; simp [-aI_app0, -aB_app0, -aS_app0, -aL_app0, -aI_app10, -aB_app10, -aS_app10, -aLt_app10I, -aLf_app10I, -aLt_app1I, -aLf_app1I, gx2]) ?_
 refine Wo.gh (vle_co (s := 2) (t1 := (osl eI true l_1)) rfl (by simp) (tle_own rfl) (by conv => lhs; simp)) ?_
 refine Wo.nil ?_
 refine Wc.ret (res_of (.inr rfl) ?_)
 cases h
 exact ⟨_, _, _, by conv => lhs; simp, by (conv => lhs; simp [cx, ioTab, List.range, List.range.loop]) <;> rfl, by first | rfl | simp [-aI_app0, -aB_app0, -aS_app0, -aL_app0, -aI_app10, -aB_app10, -aS_app10, -aLt_app10I, -aLf_app10I, -aLt_app1I, -aLf_app1I, gx2]⟩
instance i135 {s0 : (List Int)} : Rn cx (f135 s0) 135 [(ssl eI s0)] (fun (r : (List Int)) => (osl eI true r)) (fun r => []) := ⟨fun _ h => r135 h⟩
instance : Io0 cx 135 := ⟨rfl⟩
instance i192 {t : Int} : Rn cx (f192 t) 192 [(iT t)] (fun (r : Bool) => (.bool r)) (fun r => []) := by
 refine Rn.of rfl rfl (by decide) rfl ?_; unfold f192; exact go
instance : Io0 cx 192 := ⟨rfl⟩
instance i193 {v : Int} : Rn cx (f193 v) 193 [(iT v)] (fun (r : Int) => (iT r)) (fun r => []) := by
 refine Rn.of rfl rfl (by decide) rfl ?_; unfold f193; exact go
instance : Io0 cx 193 := ⟨rfl⟩
instance i136_0 {terms : (List Int)} {from2 : (List Int)} : Lp cx (f136_0 terms from2) 56 L136_0 (fun (zs : (List Int) × Int) => [(2, .v (ssl eI from2)), (8, .v (osl eI true zs.1)), (13, .v (ssl eI terms)), (14, .v (iT (terms.length : Int))), (15, .v (iT zs.2))]) (QO (QX 0 (fun (y : (List Int)) => [(8, .v (osl eI true y))])) (QR (fun (y : (List Int) × Bool) => [(6, .v (osl eI true y.1)), (7, .v (.bool y.2))]))) := by
 refine Lp.of (f := (fun
 | (out_3, x_4) =>
  if x_4 < (terms.length : Int) then
  (ix terms x_4).bind fun v_6 =>
  (f192 v_6).bind fun o8 =>
  (jn (QO (QN (fun (y : (List Int)) => [(2, .v (ssl eI from2)), (8, .v (osl eI true y)), (13, .v (ssl eI terms)), (14, .v (iT (terms.length : Int))), (15, .v (iT x_4))])) (QR (fun (y : (List Int) × Bool) => [(6, .v (osl eI true y.1)), (7, .v (.bool y.2))]))) ((if ¬ (o8 = true) then
  (ix from2 x_4).bind fun v_13 =>
  (f193 v_6).bind fun o15 =>
  if o15 ≠ v_13 then
  sn 2 6 (osl eI true ([])) <| 
  some (.inr ([], false))
  else
  some (.inl out_3)
  else
  (ix out_3 v_6).bind fun v_18 =>
  (jn (QO (QN (fun (y : (List Int)) => [(2, .v (ssl eI from2)), (8, .v (osl eI true y)), (13, .v (ssl eI terms)), (14, .v (iT (terms.length : Int))), (15, .v (iT x_4))])) (QR (fun (y : (List Int) × Bool) => [(6, .v (osl eI true y.1)), (7, .v (.bool y.2))]))) ((if v_18 < 0 then
  (ix from2 x_4).bind fun v_23 =>
  some (.inl (out_3.set v_6.toNat v_23))
  else
  (ix from2 x_4).bind fun v_26 =>
  if v_18 ≠ v_26 then
  sn 2 6 (osl eI true ([])) <| 
  some (.inr ([], false))
  else
  some (.inl out_3)) : Option ((List Int) ⊕ ((List Int) × Bool)))).bind fun o => match o with
  | .inl out_29 =>
  some (.inl out_29)
  | .inr (x_30, x_31) =>
  some (.inr (x_30, x_31))) : Option ((List Int) ⊕ ((List Int) × Bool)))).bind fun o => match o with
  | .inl out_32 =>
  some (.inl (out_32, w64 (x_4 + 1)))
  | .inr (x_33, x_34) =>
  some (.inr (.inr (x_33, x_34)))
  else
  some (.inr (.inl out_3)) : (List Int) × Int → Option (((List Int) × Int) ⊕ ((List Int) ⊕ ((List Int) × Bool))))) ?_
 exact go
instance i136 {values : (List Int)} {terms : (List Int)} {from2 : (List Int)} : Rn cx (f136 values terms from2) 136 [(ssl eI values), (ssl eI terms), (ssl eI from2)] (fun (r : (List Int) × Bool) => (.tup [(osl eI true r.1), (.bool r.2)])) (fun r => []) := by
 refine Rn.of rfl rfl (by decide) rfl ?_; unfold f136; exact go
instance : Io0 cx 136 := ⟨rfl⟩
end
end Go.Proofs.YtcllfkplpdppiaaGreatH
