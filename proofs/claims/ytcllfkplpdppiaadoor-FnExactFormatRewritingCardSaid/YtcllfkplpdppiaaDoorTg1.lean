import Derived.Test.YtcllfkplpdppiaaDoorTg1a
set_option maxHeartbeats 2000000
set_option linter.unusedVariables false
set_option linter.unusedSimpArgs false
set_option linter.defProp false
set_option linter.unusedSectionVars false
set_option maxRecDepth 100000
namespace Go.Proofs.YtcllfkplpdppiaaDoorH
open Go
noncomputable section
instance i131_2 {a : Int} {data_9 : (List Int)} {i_25 : Int} : Lp cx (f131_2 a data_9 i_25) 84 L131_2 (fun (zs : Int) => [(0, .v (osl eI true data_9)), (1, .v (iT a)), (9, .v (iT i_25)), (10, .v (iT zs))]) (QX 4 (fun (y : Int) => [(0, .v (osl eI true data_9)), (1, .v (iT a)), (9, .v (iT i_25)), (10, .v (iT y))])) := by
 refine Lp.of (f := (fun
 | j_26 =>
  (jn (QN (fun (y : Bool) => [(0, .v (osl eI true data_9)), (1, .v (iT a)), (9, .v (iT i_25)), (10, .v (iT j_26)), (59, .v (.bool y))])) ((if i_25 ≤ j_26 then
  (ix data_9 a).bind fun v_30 =>
  (ix data_9 j_26).bind fun v_32 =>
  (f130 v_30 v_32).bind fun o34 =>
  some o34
  else
  some false) : Option (Bool))).bind fun x_27 =>
  if x_27 = true then
  some (.inl (w64 (j_26 - 1)))
  else
  some (.inr j_26) : Int → Option (Int ⊕ Int))) ?_
 exact go
instance i131_0 {a : Int} : Lp cx (f131_0 a) 84 L131_0 (fun (zs : (List Int) × Int × Int) => [(0, .v (osl eI true zs.1)), (1, .v (iT a)), (9, .v (iT zs.2.1)), (10, .v (iT zs.2.2))]) (QX 0 (fun (y : (List Int) × Int) => [(0, .v (osl eI true y.1)), (9, .v (iT y.2))])) := by
 refine Lp.of ?_; unfold f131_0; exact go
instance i131 {data : (List Int)} {a : Int} {b : Int} {pivot : Int} : Rn cx (f131 data a b pivot) 131 [(osl eI true data), (iT a), (iT b), (iT pivot)] (fun (r : Int × (List Int)) => (iT r.1)) (fun r => [(osl eI true r.2)]) := by
 refine Rn.of rfl rfl (by decide) rfl ?_; unfold f131; exact go
instance i132_0 {data : (List Int)} {a : Int} {b : Int} {pivot : Int} {v_1 : Int} {v_3 : Int} : Lp cx (f132_0 data a b pivot v_1 v_3) 168 L132_0 (fun (zs : Int) => [(0, .v (osl eI true ((data.set a.toNat v_1).set pivot.toNat v_3))), (1, .v (iT a)), (10, .v (iT zs)), (11, .v (iT (w64 (b - 1))))]) (QX 0 (fun (y : Int) => [(0, .v (osl eI true ((data.set a.toNat v_1).set pivot.toNat v_3))), (1, .v (iT a)), (10, .v (iT y)), (11, .v (iT (w64 (b - 1))))])) := by
 refine Lp.of (f := (fun
 | i_9 =>
  (jn (QN (fun (y : Bool) => [(0, .v (osl eI true ((data.set a.toNat v_1).set pivot.toNat v_3))), (1, .v (iT a)), (10, .v (iT i_9)), (11, .v (iT (w64 (b - 1)))), (43, .v (.bool y))])) ((if i_9 ≤ (w64 (b - 1)) then
  (ix ((data.set a.toNat v_1).set pivot.toNat v_3) i_9).bind fun v_13 =>
  (ix ((data.set a.toNat v_1).set pivot.toNat v_3) a).bind fun v_15 =>
  (f130 v_13 v_15).bind fun o17 =>
  some o17
  else
  some false) : Option (Bool))).bind fun x_10 =>
  if x_10 = true then
  some (.inl (w64 (i_9 + 1)))
  else
  some (.inr i_9) : Int → Option (Int ⊕ Int))) ?_
 exact go
instance i132_1 {data : (List Int)} {a : Int} {pivot : Int} {v_1 : Int} {v_3 : Int} {i_22 : Int} : Lp cx (f132_1 data a pivot v_1 v_3 i_22) 168 L132_1 (fun (zs : Int) => [(0, .v (osl eI true ((data.set a.toNat v_1).set pivot.toNat v_3))), (1, .v (iT a)), (10, .v (iT i_22)), (11, .v (iT zs))]) (QX 2 (fun (y : Int) => [(0, .v (osl eI true ((data.set a.toNat v_1).set pivot.toNat v_3))), (1, .v (iT a)), (10, .v (iT i_22)), (11, .v (iT y))])) := by
 refine Lp.of (f := (fun
 | j_23 =>
  (jn (QN (fun (y : Bool) => [(0, .v (osl eI true ((data.set a.toNat v_1).set pivot.toNat v_3))), (1, .v (iT a)), (10, .v (iT i_22)), (11, .v (iT j_23)), (60, .v (.bool y))])) ((if i_22 ≤ j_23 then
  (ix ((data.set a.toNat v_1).set pivot.toNat v_3) j_23).bind fun v_27 =>
  (ix ((data.set a.toNat v_1).set pivot.toNat v_3) a).bind fun v_29 =>
  (f130 v_27 v_29).bind fun o31 =>
  some (decide (¬ (o31 = true)))
  else
  some false) : Option (Bool))).bind fun x_24 =>
  if x_24 = true then
  some (.inl (w64 (j_23 - 1)))
  else
  some (.inr j_23) : Int → Option (Int ⊕ Int))) ?_
 exact go
instance i132_3 {a : Int} {data_54 : (List Int)} {j_56 : Int} : Lp cx (f132_3 a data_54 j_56) 168 L132_3 (fun (zs : Int) => [(0, .v (osl eI true data_54)), (1, .v (iT a)), (10, .v (iT zs)), (11, .v (iT j_56))]) (QX 6 (fun (y : Int) => [(0, .v (osl eI true data_54)), (1, .v (iT a)), (10, .v (iT y)), (11, .v (iT j_56))])) := by
 refine Lp.of (f := (fun
 | i_57 =>
  (jn (QN (fun (y : Bool) => [(0, .v (osl eI true data_54)), (1, .v (iT a)), (10, .v (iT i_57)), (11, .v (iT j_56)), (112, .v (.bool y))])) ((if i_57 ≤ j_56 then
  (ix data_54 i_57).bind fun v_61 =>
  (ix data_54 a).bind fun v_63 =>
  (f130 v_61 v_63).bind fun o65 =>
  some o65
  else
  some false) : Option (Bool))).bind fun x_58 =>
  if x_58 = true then
  some (.inl (w64 (i_57 + 1)))
  else
  some (.inr i_57) : Int → Option (Int ⊕ Int))) ?_
 exact go
instance i132_4 {a : Int} {data_54 : (List Int)} {i_70 : Int} : Lp cx (f132_4 a data_54 i_70) 168 L132_4 (fun (zs : Int) => [(0, .v (osl eI true data_54)), (1, .v (iT a)), (10, .v (iT i_70)), (11, .v (iT zs))]) (QX 8 (fun (y : Int) => [(0, .v (osl eI true data_54)), (1, .v (iT a)), (10, .v (iT i_70)), (11, .v (iT y))])) := by
 refine Lp.of (f := (fun
 | j_71 =>
  (jn (QN (fun (y : Bool) => [(0, .v (osl eI true data_54)), (1, .v (iT a)), (10, .v (iT i_70)), (11, .v (iT j_71)), (129, .v (.bool y))])) ((if i_70 ≤ j_71 then
  (ix data_54 j_71).bind fun v_75 =>
  (ix data_54 a).bind fun v_77 =>
  (f130 v_75 v_77).bind fun o79 =>
  some (decide (¬ (o79 = true)))
  else
  some false) : Option (Bool))).bind fun x_72 =>
  if x_72 = true then
  some (.inl (w64 (j_71 - 1)))
  else
  some (.inr j_71) : Int → Option (Int ⊕ Int))) ?_
 exact go
instance i132_2 {a : Int} : Lp cx (f132_2 a) 168 L132_2 (fun (zs : (List Int) × Int × Int) => [(0, .v (osl eI true zs.1)), (1, .v (iT a)), (10, .v (iT zs.2.1)), (11, .v (iT zs.2.2))]) (QX 4 (fun (y : (List Int) × Int) => [(0, .v (osl eI true y.1)), (1, .v (iT a)), (11, .v (iT y.2))])) := by
 refine Lp.of ?_; unfold f132_2; exact go
instance i132 {data : (List Int)} {a : Int} {b : Int} {pivot : Int} : Rn cx (f132 data a b pivot) 132 [(osl eI true data), (iT a), (iT b), (iT pivot)] (fun (r : Int × Bool × (List Int)) => (.tup [(iT r.1), (.bool r.2.1)])) (fun r => [(osl eI true r.2.2)]) := by
 refine Rn.of rfl rfl (by decide) rfl ?_; unfold f132; exact go
instance i117_0 {rec : (List Int) → Int → Int → Int → Option (List Int)} [hrec : ∀ data a b limit, Rn cx (rec data a b limit) 117 [(osl eI true data), (iT a), (iT b), (iT limit)] (fun o => (.tup [])) (fun o => [(osl eI true o)])] : Lp cx (f117_0 rec) 134 L117_0 (fun (zs : (List Int) × Int × Int × Int × Bool × Bool) => [(0, .v (osl eI true zs.1)), (1, .v (iT zs.2.1)), (2, .v (iT zs.2.2.1)), (3, .v (iT zs.2.2.2.1)), (8, .v (.bool zs.2.2.2.2.1)), (9, .v (.bool zs.2.2.2.2.2))]) (QR (fun (y : (List Int)) => [(0, .v (osl eI true y))])) := by
 refine Lp.of (f := (fun
 | (data_1, a_2, b_3, limit_4, wasBalanced_5, wasPartitioned_6) =>
  (jb 1 (QO (QN (fun (y : (List Int) × Int × Int × Int × Bool × Bool) => [(0, .v (osl eI true y.1)), (1, .v (iT y.2.1)), (2, .v (iT y.2.2.1)), (3, .v (iT y.2.2.2.1)), (8, .v (.bool y.2.2.2.2.1)), (9, .v (.bool y.2.2.2.2.2))])) (QR (fun (y : (List Int)) => [(0, .v (osl eI true y))]))) ((if (w64 (b_3 - a_2)) ≤ 12 then
  (f124 data_1 a_2 b_3).bind fun o10 =>
  some (.inr o10)
  else
  if limit_4 = 0 then
  (f125 data_1 a_2 b_3).bind fun o13 =>
  some (.inr o13)
  else
  (jn (QN (fun (y : (List Int) × Int) => [(0, .v (osl eI true y.1)), (1, .v (iT a_2)), (2, .v (iT b_3)), (3, .v (iT y.2)), (8, .v (.bool wasBalanced_5)), (9, .v (.bool wasPartitioned_6)), (10, .v (iT (w64 (b_3 - a_2))))])) ((if ¬ (wasBalanced_5 = true) then
  (f126 data_1 a_2 b_3).bind fun o18 =>
  some (o18, w64 (limit_4 - 1))
  else
  some (data_1, limit_4)) : Option ((List Int) × Int))).bind fun (data_20, limit_21) =>
  (f127 data_20 a_2 b_3).bind fun o22 =>
  (jn (QN (fun (y : (List Int) × Int × Int) => [(0, .v (osl eI true y.1)), (1, .v (iT a_2)), (2, .v (iT b_3)), (3, .v (iT limit_21)), (8, .v (.bool wasBalanced_5)), (9, .v (.bool wasPartitioned_6)), (10, .v (iT (w64 (b_3 - a_2)))), (11, .v (iT y.2.1)), (12, .v (iT y.2.2))])) ((if o22.2 = 2 then
  (f128 data_20 a_2 b_3).bind fun o27 =>
  some (o27, w64 ((w64 (b_3 - 1)) - (w64 (o22.1 - a_2))), 1)
  else
  some (data_20, o22.1, o22.2)) : Option ((List Int) × Int × Int))).bind fun (data_29, pivot_30, hint_31) =>
  (jn (QN (fun (y : Bool) => [(0, .v (osl eI true data_29)), (1, .v (iT a_2)), (2, .v (iT b_3)), (3, .v (iT limit_21)), (8, .v (.bool wasBalanced_5)), (9, .v (.bool wasPartitioned_6)), (10, .v (iT (w64 (b_3 - a_2)))), (11, .v (iT pivot_30)), (68, .v (.bool y))])) ((if wasBalanced_5 = true then
  (jn (QN (fun (y : Bool) => [(0, .v (osl eI true data_29)), (1, .v (iT a_2)), (2, .v (iT b_3)), (3, .v (iT limit_21)), (8, .v (.bool wasBalanced_5)), (9, .v (.bool wasPartitioned_6)), (10, .v (iT (w64 (b_3 - a_2)))), (11, .v (iT pivot_30)), (68, .v (.bool y))])) ((if wasPartitioned_6 = true then
  some (decide (hint_31 = 1))
  else
  some false) : Option (Bool))).bind fun x_35 =>
  some x_35
  else
  some false) : Option (Bool))).bind fun x_32 =>
  (jn (QO (QN (fun (y : (List Int)) => [(0, .v (osl eI true y)), (1, .v (iT a_2)), (2, .v (iT b_3)), (3, .v (iT limit_21)), (8, .v (.bool wasBalanced_5)), (9, .v (.bool wasPartitioned_6)), (10, .v (iT (w64 (b_3 - a_2)))), (11, .v (iT pivot_30))])) (QR (fun (y : (List Int)) => [(0, .v (osl eI true y))]))) ((if x_32 = true then
  (f129 data_29 a_2 b_3).bind fun o41 =>
  if o41.1 = true then
  some (.inr o41.2)
  else
  some (.inl o41.2)
  else
  some (.inl data_29)) : Option ((List Int) ⊕ (List Int)))).bind fun o => match o with
  | .inl data_44 =>
  (jn (QN (fun (y : Bool) => [(0, .v (osl eI true data_44)), (1, .v (iT a_2)), (2, .v (iT b_3)), (3, .v (iT limit_21)), (8, .v (.bool wasBalanced_5)), (9, .v (.bool wasPartitioned_6)), (10, .v (iT (w64 (b_3 - a_2)))), (11, .v (iT pivot_30)), (87, .v (.bool y))])) ((if a_2 > 0 then
  (ix data_44 (w64 (a_2 - 1))).bind fun v_49 =>
  (ix data_44 pivot_30).bind fun v_51 =>
  (f130 v_49 v_51).bind fun o53 =>
  some (decide (¬ (o53 = true)))
  else
  some false) : Option (Bool))).bind fun x_46 =>
  if x_46 = true then
  (f131 data_44 a_2 b_3 pivot_30).bind fun o56 =>
  some (.inl (o56.2, o56.1, b_3, limit_21, wasBalanced_5, wasPartitioned_6))
  else
  (f132 data_44 a_2 b_3 pivot_30).bind fun o58 =>
  (jn (QN (fun (y : (List Int) × Int × Int × Bool) => [(0, .v (osl eI true y.1)), (1, .v (iT y.2.1)), (2, .v (iT y.2.2.1)), (3, .v (iT limit_21)), (8, .v (.bool y.2.2.2)), (9, .v (.bool o58.2.1))])) ((if (w64 (o58.1 - a_2)) < (w64 (b_3 - o58.1)) then
  (rec o58.2.2 a_2 o58.1 limit_21).bind fun o63 =>
  some (o63, w64 (o58.1 + 1), b_3, (decide ((w64 (o58.1 - a_2)) ≥ (w64 ((w64 (b_3 - a_2)).tdiv 8)))))
  else
  (rec o58.2.2 (w64 (o58.1 + 1)) b_3 limit_21).bind fun o65 =>
  some (o65, a_2, o58.1, (decide ((w64 (b_3 - o58.1)) ≥ (w64 ((w64 (b_3 - a_2)).tdiv 8)))))) : Option ((List Int) × Int × Int × Bool))).bind fun (data_67, a_68, b_69, wasBalanced_70) =>
  some (.inl (data_67, a_68, b_69, limit_21, wasBalanced_70, o58.2.1))
  | .inr data_45 =>
  some (.inr data_45)) : Option (((List Int) × Int × Int × Int × Bool × Bool) ⊕ (List Int)))).bind fun o => match o with
  | .inl (data_71, a_72, b_73, limit_74, wasBalanced_75, wasPartitioned_76) =>
  some (.inl (data_71, a_72, b_73, limit_74, wasBalanced_75, wasPartitioned_76))
  | .inr data_77 =>
  some (.inr data_77) : (List Int) × Int × Int × Int × Bool × Bool → Option (((List Int) × Int × Int × Int × Bool × Bool) ⊕ (List Int)))) ?_
 exact go
instance i117 : ∀ (n : Nat) data a b limit, Rn cx (f117 n data a b limit) 117 [(osl eI true data), (iT a), (iT b), (iT limit)] (fun (r : (List Int)) => (.tup [])) (fun r => [(osl eI true r)]) := by
 intro n
 induction n with
 | zero => intro data a b limit; exact ⟨fun r h => by simp [f117] at h⟩
 | succ n ih =>
  intro data a b limit
  refine Rn.of rfl rfl (by decide) rfl ?_
  simp only [f117]
  exact go
instance i109 {x : (List Int)} : Rn cx (f109 x) 109 [(osl eI true x)] (fun (r : (List Int)) => (.tup [])) (fun r => [(osl eI true r)]) := by
 refine Rn.of rfl rfl (by decide) rfl ?_; unfold f109; exact go
theorem r110 {l r : List Int} (h : f110 l = some r) : VJx cx (.ca 110 [osl eI true l] (ssl eI r) [.und]) := by
 exact ca_compact (X := noExt) (fun _ _ _ _ h => h) rfl rfl h
instance i110 {l : List Int} : Rn cx (f110 l) 110 [osl eI true l] (fun r => ssl eI r) (fun _ => [.und]) := ⟨fun _ h => r110 h⟩
instance i99 {a : (List Int)} {b : (List Int)} : Rn cx (f99 a b) 99 [(ssl eI a), (ssl eI b)] (fun (r : (List Int)) => (ssl eI r)) (fun r => []) := by
 refine Rn.of (e := (
  sn 4 8 (osl (eL eI) false ([a, b])) <| 
  (f108 ([a, b])).bind fun o1 =>
  (f109 o1).bind fun o3 =>
  (f110 o3).bind fun o5 =>
  some o5 : Option (List Int))) rfl rfl (by decide) rfl ?_
 exact go
instance : Io0 cx 99 := ⟨rfl⟩
instance i78_0 {atom : Atom} : Lp cx (f78_0 atom) 23 L78_0 (fun (zs : (List Int) × Int) => [(1, .v (.ptr true [(iT atom.Relation), (ssl eI atom.Terms)])), (3, .v (osl eI true zs.1)), (8, .v (ssl eI atom.Terms)), (9, .v (iT (atom.Terms.length : Int))), (10, .v (iT zs.2))]) (QX 0 (fun (y : (List Int)) => [(3, .v (osl eI true y))])) := by
 refine Lp.of (f := (fun
 | (out_1, x_2) =>
  if x_2 < (atom.Terms.length : Int) then
  (ix atom.Terms x_2).bind fun v_4 =>
  (f73 v_4 0 3).bind fun o6 =>
  (jn (QN (fun (y : (List Int)) => [(1, .v (.ptr true [(iT atom.Relation), (ssl eI atom.Terms)])), (3, .v (osl eI true y)), (8, .v (ssl eI atom.Terms)), (9, .v (iT (atom.Terms.length : Int))), (10, .v (iT x_2))])) ((if o6 = true then
  (app 8 out_1 ([v_4])).bind fun l_11 =>
  some l_11
  else
  some out_1) : Option (List Int))).bind fun out_13 =>
  some (.inl (out_13, w64 (x_2 + 1)))
  else
  some (.inr out_1) : (List Int) × Int → Option (((List Int) × Int) ⊕ (List Int)))) ?_
 exact go
instance i78 {atom : Atom} : Rn cx (f78 atom) 78 [(.agg [(iT atom.Relation), (ssl eI atom.Terms)])] (fun (r : (List Int)) => (ssl eI r)) (fun r => []) := by
 refine Rn.of (e := (
  sn 4 3 (osl eI true ([])) <| 
  (iter (f78_0 atom) ([], 0)).bind fun out_16 =>
  sn 1 21 (ssl eI out_16) <| 
  (f99 out_16 ([] : (List Int))).bind fun o17 =>
  some o17 : Option (List Int))) rfl rfl (by decide) rfl ?_
 exact go
instance : Io0 cx 78 := ⟨rfl⟩
instance i77 {relations : (List Relation)} {atom : Atom} : Rn cx (f77 relations atom) 77 [(ssl eRelation relations), (.agg [(iT atom.Relation), (ssl eI atom.Terms)])] (fun (r : (List Int)) => (ssl eI r)) (fun r => []) := by
 refine Rn.of (e := (
  (f73 atom.Relation 0 (w64 ((relations.length : Int) - 1))).bind fun o1 =>
  (jn (QN (fun (y : Bool) => [(0, .v (ssl eRelation relations)), (3, .v (.ptr true [(iT atom.Relation), (ssl eI atom.Terms)])), (24, .v (.bool y))])) ((if ¬ (o1 = true) then
  some true
  else
  (ix relations atom.Relation).bind fun v_6 =>
  (f73 v_6.KeyLength 0 (atom.Terms.length : Int)).bind fun o8 =>
  some (decide (¬ (o8 = true)))) : Option (Bool))).bind fun x_3 =>
  if x_3 = true then
  sn 1 4 (osl eI true ([])) <| 
  some ([])
  else
  (ix relations atom.Relation).bind fun v_11 =>
  (cutL atom.Terms 0 v_11.KeyLength).bind fun l_13 =>
  (f78 ({ Relation := 0, Terms := l_13 } : Atom)).bind fun o15 =>
  some o15 : Option (List Int))) rfl rfl (by decide) rfl ?_
 exact go
instance : Io0 cx 77 := ⟨rfl⟩
instance i107_0 {s0 : (List Int)} {v : Int} : Lp cx (f107_0 s0 v) 19 L107_0 (fun (zs : Int) => [(0, .v (ssl eI s0)), (1, .v (iT v)), (7, .v (iT (s0.length : Int))), (8, .v (iT zs))]) (QO (QX 0 (fun (y : Unit) => [])) (QR (fun (y : Int) => [(4, .v (iT y))]))) := by
 refine Lp.of ?_; unfold f107_0; exact go
instance i107 {s0 : (List Int)} {v : Int} : Rn cx (f107 s0 v) 107 [(ssl eI s0), (iT v)] (fun (r : Int) => (iT r)) (fun r => []) := by
 refine Rn.of rfl rfl (by decide) rfl ?_; unfold f107; exact go
instance : Io0 cx 107 := ⟨rfl⟩
instance i98 {s0 : (List Int)} {v : Int} : Rn cx (f98 s0 v) 98 [(ssl eI s0), (iT v)] (fun (r : Bool) => (.bool r)) (fun r => []) := by
 refine Rn.of rfl rfl (by decide) rfl ?_; unfold f98; exact go
instance : Io0 cx 98 := ⟨rfl⟩
instance i97 {n0 : Int} {c : (List Int)} : Rn cx (f97 n0 c) 97 [(iT n0), (.ptr false [(ssl eI c)])] (fun (r : Bool) => (.bool r)) (fun r => []) := by
 refine Rn.of rfl rfl (by decide) rfl ?_; unfold f97; exact go
instance : Io0 cx 97 := ⟨rfl⟩
instance i76 {a : (List Int)} {b : (List Int)} : Rn cx (f76 a b) 76 [(ssl eI a), (ssl eI b)] (fun (r : Bool) => (.bool r)) (fun r => []) := by
 refine Rn.of rfl rfl (by decide) rfl ?_; unfold f76; exact go
instance : Io0 cx 76 := ⟨rfl⟩
instance i41_0 {relations : (List Relation)} {rewriting : (List RewritingStep)} : Lp cx (f41_0 relations rewriting) 64 L41_0 (fun (zs : Int) => [(0, .v (ssl eRelation relations)), (8, .v (ssl eRewritingStep rewriting)), (9, .v (iT (rewriting.length : Int))), (10, .v (iT zs))]) (QO (QX 0 (fun (y : Unit) => [])) (QR (fun (y : Bool) => [(4, .v (.bool y))]))) := by
 refine Lp.of (f := (fun
 | x_1 =>
  if x_1 < (rewriting.length : Int) then
  (ix rewriting x_1).bind fun v_3 =>
  (jn (QN (fun (y : Bool) => [(0, .v (ssl eRelation relations)), (6, .v (.ptr true [(iT v_3.Atom.Relation), (ssl eI v_3.Atom.Terms), (ssl eI v_3.Existential), (ssl eI v_3.Universal)])), (7, .v (.ptr true [(iT v_3.Atom.Relation), (ssl eI v_3.Atom.Terms)])), (8, .v (ssl eRewritingStep rewriting)), (9, .v (iT (rewriting.length : Int))), (10, .v (iT x_1)), (44, .v (.bool y))])) ((if x_1 ≥ 3 then
  some true
  else
  (f55 relations).bind fun o8 =>
  (jn (QN (fun (y : Bool) => [(0, .v (ssl eRelation relations)), (6, .v (.ptr true [(iT v_3.Atom.Relation), (ssl eI v_3.Atom.Terms), (ssl eI v_3.Existential), (ssl eI v_3.Universal)])), (7, .v (.ptr true [(iT v_3.Atom.Relation), (ssl eI v_3.Atom.Terms)])), (8, .v (ssl eRewritingStep rewriting)), (9, .v (iT (rewriting.length : Int))), (10, .v (iT x_1)), (44, .v (.bool y))])) ((if ¬ (o8 = true) then
  some true
  else
  (f73 v_3.Atom.Relation 0 (w64 ((relations.length : Int) - 1))).bind fun o13 =>
  (jn (QN (fun (y : Bool) => [(0, .v (ssl eRelation relations)), (6, .v (.ptr true [(iT v_3.Atom.Relation), (ssl eI v_3.Atom.Terms), (ssl eI v_3.Existential), (ssl eI v_3.Universal)])), (7, .v (.ptr true [(iT v_3.Atom.Relation), (ssl eI v_3.Atom.Terms)])), (8, .v (ssl eRewritingStep rewriting)), (9, .v (iT (rewriting.length : Int))), (10, .v (iT x_1)), (44, .v (.bool y))])) ((if ¬ (o13 = true) then
  some true
  else
  (ix relations v_3.Atom.Relation).bind fun v_18 =>
  some (decide ((v_3.Atom.Terms.length : Int) ≠ v_18.Arity))) : Option (Bool))).bind fun x_15 =>
  some x_15) : Option (Bool))).bind fun x_10 =>
  some x_10) : Option (Bool))).bind fun x_5 =>
  if x_5 = true then
  some (.inr (.inr false))
  else
  (f74 v_3.Atom.Terms (fun x0 => f75 x0)).bind fun o21 =>
  if o21 = true then
  some (.inr (.inr false))
  else
  (f77 relations v_3.Atom).bind fun o24 =>
  (f76 v_3.Existential o24).bind fun o26 =>
  (jn (QN (fun (y : Bool) => [(0, .v (ssl eRelation relations)), (8, .v (ssl eRewritingStep rewriting)), (9, .v (iT (rewriting.length : Int))), (10, .v (iT x_1)), (62, .v (.bool y))])) ((if ¬ (o26 = true) then
  some true
  else
  (f78 v_3.Atom).bind fun o31 =>
  (f76 v_3.Universal o31).bind fun o33 =>
  some (decide (¬ (o33 = true)))) : Option (Bool))).bind fun x_28 =>
  if x_28 = true then
  some (.inr (.inr false))
  else
  some (.inl (w64 (x_1 + 1)))
  else
  some (.inr (.inl ())) : Int → Option (Int ⊕ (Unit ⊕ Bool)))) ?_
 exact go
instance i41 {relations : (List Relation)} {rewriting : (List RewritingStep)} : Rn cx (f41 relations rewriting) 41 [(ssl eRelation relations), (ssl eRewritingStep rewriting)] (fun (r : Bool) => (.bool r)) (fun r => []) := by
 refine Rn.of rfl rfl (by decide) rfl ?_; unfold f41; exact go
instance : Io0 cx 41 := ⟨rfl⟩
instance i100 {t : Int} : Rn cx (f100 t) 100 [(iT t)] (fun (r : Int × Bool) => (.tup [(iT r.1), (.bool r.2)])) (fun r => []) := by
 refine Rn.of rfl rfl (by decide) rfl ?_; unfold f100; exact go
instance : Io0 cx 100 := ⟨rfl⟩
theorem r60 {n : Int} {r : List UInt8} (h : f60 n = some r) : VJx cx (.ca 60 [.int .i64 n] (.str r) []) := by
 exact ca_itoa (fun _ _ _ _ h => h) rfl h
instance i60 {n : Int} : Rn cx (f60 n) 60 [.int .i64 n] (fun r => .str r) (fun _ => []) := ⟨fun _ h => r60 h⟩
instance : Io0 cx 60 := ⟨rfl⟩
instance i30 {n0 : Int} : Rn cx (f30 n0) 30 [(iT n0)] (fun (r : (List UInt8)) => (.str r)) (fun r => []) := by
 refine Rn.of rfl rfl (by decide) rfl ?_; unfold f30; exact go
instance : Io0 cx 30 := ⟨rfl⟩
instance i79 {t : Int} : Rn cx (f79 t) 79 [(iT t)] (fun (r : (List UInt8)) => (.str r)) (fun r => []) := by
 refine Rn.of rfl rfl (by decide) rfl ?_; unfold f79; exact go
instance : Io0 cx 79 := ⟨rfl⟩
instance i42_0 {terms : (List Int)} : Lp cx (f42_0 terms) 20 L42_0 (fun (zs : (List (List UInt8)) × Int) => [(3, .v (osl eS true zs.1)), (7, .v (ssl eI terms)), (8, .v (iT (terms.length : Int))), (9, .v (iT zs.2))]) (QX 0 (fun (y : (List (List UInt8))) => [(3, .v (osl eS true y))])) := by
 refine Lp.of ?_; unfold f42_0; exact go
instance i42 {terms : (List Int)} : Rn cx (f42 terms) 42 [(ssl eI terms)] (fun (r : (List (List UInt8))) => (osl eS true r)) (fun r => []) := by
 refine Rn.of (e := (
  sn 3 3 (osl eS true ([])) <| 
  (iter (f42_0 terms) ([], 0)).bind fun out_12 =>
  some out_12 : Option (List (List UInt8)))) rfl rfl (by decide) rfl ?_
 exact go
instance : Io0 cx 42 := ⟨rfl⟩
theorem r31 {xs : List (List UInt8)} {sep : List UInt8} {r : List UInt8} (h : f31 xs sep = some r) : VJx cx (.ca 31 [ssl eS xs, .str sep] (.str r) []) := by
 exact ca_join (fun _ _ _ _ h => h) rfl h
instance i31 {xs : List (List UInt8)} {sep : List UInt8} : Rn cx (f31 xs sep) 31 [ssl eS xs, .str sep] (fun r => .str r) (fun _ => []) := ⟨fun _ h => r31 h⟩
instance : Io0 cx 31 := ⟨rfl⟩
instance i80 {parts : (List (List UInt8))} {at1 : Int} : Rn cx (f80 parts at1) 80 [(ssl eS parts), (iT at1)] (fun (r : (List UInt8)) => (.str r)) (fun r => []) := by
 refine Rn.of (e := (
  (cutL parts 0 at1).bind fun l_1 =>
  (f31 l_1 ([])).bind fun o3 =>
  (jn (QN (fun (y : (List UInt8)) => [(5, .v (.str y))])) ((if at1 < (parts.length : Int) then
  (cutL parts at1 parts.length).bind fun l_8 =>
  (f31 l_8 ([])).bind fun o10 =>
  (cat ([124]) o10).bind fun s_12 =>
  (cat o3 s_12).bind fun s_14 =>
  some s_14
  else
  some o3) : Option (List UInt8))).bind fun out_16 =>
  some out_16 : Option (List UInt8))) rfl rfl (by decide) rfl ?_
 exact go
instance : Io0 cx 80 := ⟨rfl⟩
instance i43 {relations : (List Relation)} {atom : Atom} : Rn cx (f43 relations atom) 43 [(ssl eRelation relations), (.agg [(iT atom.Relation), (ssl eI atom.Terms)])] (fun (r : (List UInt8)) => (.str r)) (fun r => []) := by
 refine Rn.of rfl rfl (by decide) rfl ?_; unfold f43; exact go
instance : Io0 cx 43 := ⟨rfl⟩
instance i18_0 {relations : (List Relation)} {rewriting : (List RewritingStep)} : Lp cx (f18_0 relations rewriting) 42 L18_0 (fun (zs : (List (List UInt8)) × Int) => [(0, .v (ssl eRelation relations)), (5, .v (osl eS true zs.1)), (13, .v (ssl eRewritingStep rewriting)), (14, .v (iT (rewriting.length : Int))), (15, .v (iT zs.2))]) (QX 0 (fun (y : (List (List UInt8))) => [(5, .v (osl eS true y))])) := by
 refine Lp.of ?_; unfold f18_0; exact go
instance i18 {relations : (List Relation)} {rewriting : (List RewritingStep)} : Rn cx (f18 relations rewriting) 18 [(ssl eRelation relations), (ssl eRewritingStep rewriting)] (fun (r : (List UInt8)) => (.str r)) (fun r => []) := by
 refine Rn.of (e := (
  (f41 relations rewriting).bind fun o1 =>
  if ¬ (o1 = true) then
  some ([])
  else
  sn 2 5 (osl eS true ([])) <| 
  (iter (f18_0 relations rewriting) ([], 0)).bind fun out_33 =>
  (f31 out_33 ([32])).bind fun o34 =>
  some o34 : Option (List UInt8))) rfl rfl (by decide) rfl ?_
 exact go
instance : Io0 cx 18 := ⟨rfl⟩
instance i44 {a : Relation} {b : Relation} : Rn cx (f44 a b) 44 [(.agg [(.str a.Name), (iT a.Arity), (iT a.KeyLength)]), (.agg [(.str b.Name), (iT b.Arity), (iT b.KeyLength)])] (fun (r : Bool) => (.bool r)) (fun r => []) := by
 refine Rn.of rfl rfl (by decide) rfl ?_; unfold f44; exact go
instance : Io0 cx 44 := ⟨rfl⟩
instance i19_0 {a : (List Relation)} {b : (List Relation)} : Lp cx (f19_0 a b) 27 L19_0 (fun (zs : Int) => [(0, .v (ssl eRelation a)), (1, .v (ssl eRelation b)), (5, .v (iT zs))]) (QO (QX 0 (fun (y : Unit) => [])) (QR (fun (y : Bool) => [(4, .v (.bool y))]))) := by
 refine Lp.of ?_; unfold f19_0; exact go
instance i19 {a : (List Relation)} {b : (List Relation)} : Rn cx (f19 a b) 19 [(ssl eRelation a), (ssl eRelation b)] (fun (r : Bool) => (.bool r)) (fun r => []) := by
 refine Rn.of rfl rfl (by decide) rfl ?_; unfold f19; exact go
instance : Io0 cx 19 := ⟨rfl⟩
instance i65_0 {a : (List Int)} {b : (List Int)} : Lp cx (f65_0 a b) 26 L65_0 (fun (zs : Int) => [(0, .v (ssl eI a)), (1, .v (ssl eI b)), (5, .v (iT zs))]) (QO (QX 0 (fun (y : Unit) => [])) (QR (fun (y : Bool) => [(4, .v (.bool y))]))) := by
 refine Lp.of ?_; unfold f65_0; exact go
instance i65 {a : (List Int)} {b : (List Int)} : Rn cx (f65 a b) 65 [(ssl eI a), (ssl eI b)] (fun (r : Bool) => (.bool r)) (fun r => []) := by
 refine Rn.of rfl rfl (by decide) rfl ?_; unfold f65; exact go
instance : Io0 cx 65 := ⟨rfl⟩
instance i81 {a : Atom} {b : Atom} : Rn cx (f81 a b) 81 [(.agg [(iT a.Relation), (ssl eI a.Terms)]), (.agg [(iT b.Relation), (ssl eI b.Terms)])] (fun (r : Bool) => (.bool r)) (fun r => []) := by
 refine Rn.of rfl rfl (by decide) rfl ?_; unfold f81; exact go
instance : Io0 cx 81 := ⟨rfl⟩
instance i45 {a : RewritingStep} {b : RewritingStep} : Rn cx (f45 a b) 45 [(.agg [(iT a.Atom.Relation), (ssl eI a.Atom.Terms), (ssl eI a.Existential), (ssl eI a.Universal)]), (.agg [(iT b.Atom.Relation), (ssl eI b.Atom.Terms), (ssl eI b.Existential), (ssl eI b.Universal)])] (fun (r : Bool) => (.bool r)) (fun r => []) := by
 refine Rn.of rfl rfl (by decide) rfl ?_; unfold f45; exact go
instance : Io0 cx 45 := ⟨rfl⟩
instance i20_0 {a : (List RewritingStep)} {b : (List RewritingStep)} : Lp cx (f20_0 a b) 27 L20_0 (fun (zs : Int) => [(0, .v (ssl eRewritingStep a)), (1, .v (ssl eRewritingStep b)), (5, .v (iT zs))]) (QO (QX 0 (fun (y : Unit) => [])) (QR (fun (y : Bool) => [(4, .v (.bool y))]))) := by
 refine Lp.of ?_; unfold f20_0; exact go
instance i20 {a : (List RewritingStep)} {b : (List RewritingStep)} : Rn cx (f20 a b) 20 [(ssl eRewritingStep a), (ssl eRewritingStep b)] (fun (r : Bool) => (.bool r)) (fun r => []) := by
 refine Rn.of rfl rfl (by decide) rfl ?_; unfold f20; exact go
instance : Io0 cx 20 := ⟨rfl⟩
instance i4 {aRelations : (List Relation)} {aRewriting : (List RewritingStep)} : Rn cx (f4 aRelations aRewriting) 4 [(ssl eRelation aRelations), (ssl eRewritingStep aRewriting)] (fun (r : Bool) => (.bool r)) (fun r => []) := by
 refine Rn.of rfl rfl (by decide) rfl ?_; unfold f4; exact go
instance : Io0 cx 4 := ⟨rfl⟩
end
end Go.Proofs.YtcllfkplpdppiaaDoorH
