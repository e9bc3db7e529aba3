import Derived.Test.YtaanfdjhmhifiaaGreatTg1b
set_option maxHeartbeats 2000000
set_option linter.unusedVariables false
set_option linter.unusedSimpArgs false
set_option linter.defProp false
set_option linter.unusedSectionVars false
set_option maxRecDepth 100000
namespace Go.Proofs.YtaanfdjhmhifiaaGreatH
open Go
noncomputable section
instance i171_3 {a : Int} {data_54 : (List Int)} {j_56 : Int} : Lp cx (f171_3 a data_54 j_56) 168 L171_3 (fun (zs : Int) => [(0, .v (osl eI true data_54)), (1, .v (iT a)), (10, .v (iT zs)), (11, .v (iT j_56))]) (QX 6 (fun (y : Int) => [(0, .v (osl eI true data_54)), (1, .v (iT a)), (10, .v (iT y)), (11, .v (iT j_56))])) := by
 refine Lp.of (f := (fun
 | i_57 =>
  (jn (QN (fun (y : Bool) => [(0, .v (osl eI true data_54)), (1, .v (iT a)), (10, .v (iT i_57)), (11, .v (iT j_56)), (112, .v (.bool y))])) ((if i_57 ≤ j_56 then
  (ix data_54 i_57).bind fun v_61 =>
  (ix data_54 a).bind fun v_63 =>
  (f169 v_61 v_63).bind fun o65 =>
  some o65
  else
  some false) : Option (Bool))).bind fun x_58 =>
  if x_58 = true then
  some (.inl (w64 (i_57 + 1)))
  else
  some (.inr i_57) : Int → Option (Int ⊕ Int))) ?_
 exact go
instance i171_4 {a : Int} {data_54 : (List Int)} {i_70 : Int} : Lp cx (f171_4 a data_54 i_70) 168 L171_4 (fun (zs : Int) => [(0, .v (osl eI true data_54)), (1, .v (iT a)), (10, .v (iT i_70)), (11, .v (iT zs))]) (QX 8 (fun (y : Int) => [(0, .v (osl eI true data_54)), (1, .v (iT a)), (10, .v (iT i_70)), (11, .v (iT y))])) := by
 refine Lp.of (f := (fun
 | j_71 =>
  (jn (QN (fun (y : Bool) => [(0, .v (osl eI true data_54)), (1, .v (iT a)), (10, .v (iT i_70)), (11, .v (iT j_71)), (129, .v (.bool y))])) ((if i_70 ≤ j_71 then
  (ix data_54 j_71).bind fun v_75 =>
  (ix data_54 a).bind fun v_77 =>
  (f169 v_75 v_77).bind fun o79 =>
  some (decide (¬ (o79 = true)))
  else
  some false) : Option (Bool))).bind fun x_72 =>
  if x_72 = true then
  some (.inl (w64 (j_71 - 1)))
  else
  some (.inr j_71) : Int → Option (Int ⊕ Int))) ?_
 exact go
instance i171_2 {a : Int} : Lp cx (f171_2 a) 168 L171_2 (fun (zs : (List Int) × Int × Int) => [(0, .v (osl eI true zs.1)), (1, .v (iT a)), (10, .v (iT zs.2.1)), (11, .v (iT zs.2.2))]) (QX 4 (fun (y : (List Int) × Int) => [(0, .v (osl eI true y.1)), (1, .v (iT a)), (11, .v (iT y.2))])) := by
 refine Lp.of ?_; unfold f171_2; exact go
instance i171 {data : (List Int)} {a : Int} {b : Int} {pivot : Int} : Rn cx (f171 data a b pivot) 171 [(osl eI true data), (iT a), (iT b), (iT pivot)] (fun (r : Int × Bool × (List Int)) => (.tup [(iT r.1), (.bool r.2.1)])) (fun r => [(osl eI true r.2.2)]) := by
 refine Rn.of rfl rfl (by decide) rfl ?_; unfold f171; exact go
instance i144_0 {rec : (List Int) → Int → Int → Int → Option (List Int)} [hrec : ∀ data a b limit, Rn cx (rec data a b limit) 144 [(osl eI true data), (iT a), (iT b), (iT limit)] (fun o => (.tup [])) (fun o => [(osl eI true o)])] : Lp cx (f144_0 rec) 134 L144_0 (fun (zs : (List Int) × Int × Int × Int × Bool × Bool) => [(0, .v (osl eI true zs.1)), (1, .v (iT zs.2.1)), (2, .v (iT zs.2.2.1)), (3, .v (iT zs.2.2.2.1)), (8, .v (.bool zs.2.2.2.2.1)), (9, .v (.bool zs.2.2.2.2.2))]) (QR (fun (y : (List Int)) => [(0, .v (osl eI true y))])) := by
 refine Lp.of (f := (fun
 | (data_1, a_2, b_3, limit_4, wasBalanced_5, wasPartitioned_6) =>
  (jb 1 (QO (QN (fun (y : (List Int) × Int × Int × Int × Bool × Bool) => [(0, .v (osl eI true y.1)), (1, .v (iT y.2.1)), (2, .v (iT y.2.2.1)), (3, .v (iT y.2.2.2.1)), (8, .v (.bool y.2.2.2.2.1)), (9, .v (.bool y.2.2.2.2.2))])) (QR (fun (y : (List Int)) => [(0, .v (osl eI true y))]))) ((if (w64 (b_3 - a_2)) ≤ 12 then
  (f163 data_1 a_2 b_3).bind fun o10 =>
  some (.inr o10)
  else
  if limit_4 = 0 then
  (f164 data_1 a_2 b_3).bind fun o13 =>
  some (.inr o13)
  else
  (jn (QN (fun (y : (List Int) × Int) => [(0, .v (osl eI true y.1)), (1, .v (iT a_2)), (2, .v (iT b_3)), (3, .v (iT y.2)), (8, .v (.bool wasBalanced_5)), (9, .v (.bool wasPartitioned_6)), (10, .v (iT (w64 (b_3 - a_2))))])) ((if ¬ (wasBalanced_5 = true) then
  (f165 data_1 a_2 b_3).bind fun o18 =>
  some (o18, w64 (limit_4 - 1))
  else
  some (data_1, limit_4)) : Option ((List Int) × Int))).bind fun (data_20, limit_21) =>
  (f166 data_20 a_2 b_3).bind fun o22 =>
  (jn (QN (fun (y : (List Int) × Int × Int) => [(0, .v (osl eI true y.1)), (1, .v (iT a_2)), (2, .v (iT b_3)), (3, .v (iT limit_21)), (8, .v (.bool wasBalanced_5)), (9, .v (.bool wasPartitioned_6)), (10, .v (iT (w64 (b_3 - a_2)))), (11, .v (iT y.2.1)), (12, .v (iT y.2.2))])) ((if o22.2 = 2 then
  (f167 data_20 a_2 b_3).bind fun o27 =>
  some (o27, w64 ((w64 (b_3 - 1)) - (w64 (o22.1 - a_2))), 1)
  else
  some (data_20, o22.1, o22.2)) : Option ((List Int) × Int × Int))).bind fun (data_29, pivot_30, hint_31) =>
  (jn (QN (fun (y : Bool) => [(0, .v (osl eI true data_29)), (1, .v (iT a_2)), (2, .v (iT b_3)), (3, .v (iT limit_21)), (8, .v (.bool wasBalanced_5)), (9, .v (.bool wasPartitioned_6)), (10, .v (iT (w64 (b_3 - a_2)))), (11, .v (iT pivot_30)), (68, .v (.bool y))])) ((if wasBalanced_5 = true then
  (jn (QN (fun (y : Bool) => [(0, .v (osl eI true data_29)), (1, .v (iT a_2)), (2, .v (iT b_3)), (3, .v (iT limit_21)), (8, .v (.bool wasBalanced_5)), (9, .v (.bool wasPartitioned_6)), (10, .v (iT (w64 (b_3 - a_2)))), (11, .v (iT pivot_30)), (68, .v (.bool y))])) ((if wasPartitioned_6 = true then
  some (decide (hint_31 = 1))
  else
  some false) : Option (Bool))).bind fun x_35 =>
  some x_35
  else
  some false) : Option (Bool))).bind fun x_32 =>
  (jn (QO (QN (fun (y : (List Int)) => [(0, .v (osl eI true y)), (1, .v (iT a_2)), (2, .v (iT b_3)), (3, .v (iT limit_21)), (8, .v (.bool wasBalanced_5)), (9, .v (.bool wasPartitioned_6)), (10, .v (iT (w64 (b_3 - a_2)))), (11, .v (iT pivot_30))])) (QR (fun (y : (List Int)) => [(0, .v (osl eI true y))]))) ((if x_32 = true then
  (f168 data_29 a_2 b_3).bind fun o41 =>
  if o41.1 = true then
  some (.inr o41.2)
  else
  some (.inl o41.2)
  else
  some (.inl data_29)) : Option ((List Int) ⊕ (List Int)))).bind fun o => match o with
  | .inl data_44 =>
  (jn (QN (fun (y : Bool) => [(0, .v (osl eI true data_44)), (1, .v (iT a_2)), (2, .v (iT b_3)), (3, .v (iT limit_21)), (8, .v (.bool wasBalanced_5)), (9, .v (.bool wasPartitioned_6)), (10, .v (iT (w64 (b_3 - a_2)))), (11, .v (iT pivot_30)), (87, .v (.bool y))])) ((if a_2 > 0 then
  (ix data_44 (w64 (a_2 - 1))).bind fun v_49 =>
  (ix data_44 pivot_30).bind fun v_51 =>
  (f169 v_49 v_51).bind fun o53 =>
  some (decide (¬ (o53 = true)))
  else
  some false) : Option (Bool))).bind fun x_46 =>
  if x_46 = true then
  (f170 data_44 a_2 b_3 pivot_30).bind fun o56 =>
  some (.inl (o56.2, o56.1, b_3, limit_21, wasBalanced_5, wasPartitioned_6))
  else
  (f171 data_44 a_2 b_3 pivot_30).bind fun o58 =>
  (jn (QN (fun (y : (List Int) × Int × Int × Bool) => [(0, .v (osl eI true y.1)), (1, .v (iT y.2.1)), (2, .v (iT y.2.2.1)), (3, .v (iT limit_21)), (8, .v (.bool y.2.2.2)), (9, .v (.bool o58.2.1))])) ((if (w64 (o58.1 - a_2)) < (w64 (b_3 - o58.1)) then
  (rec o58.2.2 a_2 o58.1 limit_21).bind fun o63 =>
  some (o63, w64 (o58.1 + 1), b_3, (decide ((w64 (o58.1 - a_2)) ≥ (w64 ((w64 (b_3 - a_2)).tdiv 8)))))
  else
  (rec o58.2.2 (w64 (o58.1 + 1)) b_3 limit_21).bind fun o65 =>
  some (o65, a_2, o58.1, (decide ((w64 (b_3 - o58.1)) ≥ (w64 ((w64 (b_3 - a_2)).tdiv 8)))))) : Option ((List Int) × Int × Int × Bool))).bind fun (data_67, a_68, b_69, wasBalanced_70) =>
  some (.inl (data_67, a_68, b_69, limit_21, wasBalanced_70, o58.2.1))
  | .inr data_45 =>
  some (.inr data_45)) : Option (((List Int) × Int × Int × Int × Bool × Bool) ⊕ (List Int)))).bind fun o => match o with
  | .inl (data_71, a_72, b_73, limit_74, wasBalanced_75, wasPartitioned_76) =>
  some (.inl (data_71, a_72, b_73, limit_74, wasBalanced_75, wasPartitioned_76))
  | .inr data_77 =>
  some (.inr data_77) : (List Int) × Int × Int × Int × Bool × Bool → Option (((List Int) × Int × Int × Int × Bool × Bool) ⊕ (List Int)))) ?_
 exact go
instance i144 : ∀ (n : Nat) data a b limit, Rn cx (f144 n data a b limit) 144 [(osl eI true data), (iT a), (iT b), (iT limit)] (fun (r : (List Int)) => (.tup [])) (fun r => [(osl eI true r)]) := by
 intro n
 induction n with
 | zero => intro data a b limit; exact ⟨fun r h => by simp [f144] at h⟩
 | succ n ih =>
  intro data a b limit
  refine Rn.of rfl rfl (by decide) rfl ?_
  simp only [f144]
  exact go
instance i116 {x : (List Int)} : Rn cx (f116 x) 116 [(osl eI true x)] (fun (r : (List Int)) => (.tup [])) (fun r => [(osl eI true r)]) := by
 refine Rn.of rfl rfl (by decide) rfl ?_; unfold f116; exact go
theorem r153 {l r : List Int} (h : f153 l = some r) : VJx cx (.ca 153 [osl eI true l] (ssl eI r) [.und]) := by
 exact ca_compact (X := noExt) (fun _ _ _ _ h => h) rfl rfl h
instance i153 {l : List Int} : Rn cx (f153 l) 153 [osl eI true l] (fun r => ssl eI r) (fun _ => [.und]) := ⟨fun _ h => r153 h⟩
instance i129 {a : (List Int)} {b : (List Int)} : Rn cx (f129 a b) 129 [(ssl eI a), (ssl eI b)] (fun (r : (List Int)) => (ssl eI r)) (fun r => []) := by
 refine Rn.of (e := (
  sn 4 8 (osl (eL eI) false ([a, b])) <| 
  (f152 ([a, b])).bind fun o1 =>
  (f116 o1).bind fun o3 =>
  (f153 o3).bind fun o5 =>
  some o5 : Option (List Int))) rfl rfl (by decide) rfl ?_
 exact go
instance : Io0 cx 129 := ⟨rfl⟩
instance i139_0 {atom : Atom} : Lp cx (f139_0 atom) 23 L139_0 (fun (zs : (List Int) × Int) => [(1, .v (.ptr true [(iT atom.Relation), (ssl eI atom.Terms)])), (3, .v (osl eI true zs.1)), (8, .v (ssl eI atom.Terms)), (9, .v (iT (atom.Terms.length : Int))), (10, .v (iT zs.2))]) (QX 0 (fun (y : (List Int)) => [(3, .v (osl eI true y))])) := by
 refine Lp.of (f := (fun
 | (out_1, x_2) =>
  if x_2 < (atom.Terms.length : Int) then
  (ix atom.Terms x_2).bind fun v_4 =>
  (f82 v_4 0 3).bind fun o6 =>
  (jn (QN (fun (y : (List Int)) => [(1, .v (.ptr true [(iT atom.Relation), (ssl eI atom.Terms)])), (3, .v (osl eI true y)), (8, .v (ssl eI atom.Terms)), (9, .v (iT (atom.Terms.length : Int))), (10, .v (iT x_2))])) ((if o6 = true then
  (app 8 out_1 ([v_4])).bind fun l_11 =>
  some l_11
  else
  some out_1) : Option (List Int))).bind fun out_13 =>
  some (.inl (out_13, w64 (x_2 + 1)))
  else
  some (.inr out_1) : (List Int) × Int → Option (((List Int) × Int) ⊕ (List Int)))) ?_
 exact go
instance i139 {atom : Atom} : Rn cx (f139 atom) 139 [(.agg [(iT atom.Relation), (ssl eI atom.Terms)])] (fun (r : (List Int)) => (ssl eI r)) (fun r => []) := by
 refine Rn.of (e := (
  sn 4 3 (osl eI true ([])) <| 
  (iter (f139_0 atom) ([], 0)).bind fun out_16 =>
  sn 1 21 (ssl eI out_16) <| 
  (f129 out_16 ([] : (List Int))).bind fun o17 =>
  some o17 : Option (List Int))) rfl rfl (by decide) rfl ?_
 exact go
instance : Io0 cx 139 := ⟨rfl⟩
instance i114_1 {relations : (List Relation)} {query : Query} {occurring_19 : (List Int)} {x_20 : Int} {v_22 : Atom} : Lp cx (lw (relations, occurring_19, x_20) (f114_1 query v_22)) 94 L114_1 (fun (zs : Int) => [(0, .v (ssl eRelation relations)), (3, .v (.ptr true [(iT query.VariableCount), (ssl eAtom query.Atoms), (ssl eI query.Free)])), (5, .v (ssl eI occurring_19)), (7, .v (.ptr true [(iT v_22.Relation), (ssl eI v_22.Terms)])), (36, .v (ssl eAtom query.Atoms)), (37, .v (iT (query.Atoms.length : Int))), (38, .v (iT x_20)), (71, .v (ssl eI v_22.Terms)), (72, .v (iT (v_22.Terms.length : Int))), (73, .v (iT zs))]) (QO (QX 2 (fun (y : Unit) => [(0, .v (ssl eRelation relations)), (3, .v (.ptr true [(iT query.VariableCount), (ssl eAtom query.Atoms), (ssl eI query.Free)])), (5, .v (ssl eI occurring_19)), (7, .v (.ptr true [(iT v_22.Relation), (ssl eI v_22.Terms)])), (36, .v (ssl eAtom query.Atoms)), (37, .v (iT (query.Atoms.length : Int))), (38, .v (iT x_20))])) (QR (fun (y : Bool) => [(4, .v (.bool y))]))) := by
 refine Lp.of ?_; unfold lw f114_1; exact go
instance i114_0 {relations : (List Relation)} {query : Query} : Lp cx (f114_0 relations query) 94 L114_0 (fun (zs : (List Int) × Int) => [(0, .v (ssl eRelation relations)), (3, .v (.ptr true [(iT query.VariableCount), (ssl eAtom query.Atoms), (ssl eI query.Free)])), (5, .v (ssl eI zs.1)), (36, .v (ssl eAtom query.Atoms)), (37, .v (iT (query.Atoms.length : Int))), (38, .v (iT zs.2))]) (QO (QX 0 (fun (y : (List Int)) => [(3, .v (.ptr true [(iT query.VariableCount), (ssl eAtom query.Atoms), (ssl eI query.Free)])), (5, .v (ssl eI y))])) (QR (fun (y : Bool) => [(4, .v (.bool y))]))) := by
 refine Lp.of (f := (fun
 | (occurring_19, x_20) =>
  if x_20 < (query.Atoms.length : Int) then
  (ix query.Atoms x_20).bind fun v_22 =>
  (f82 v_22.Relation 0 (w64 ((relations.length : Int) - 1))).bind fun o24 =>
  (jn (QN (fun (y : Bool) => [(0, .v (ssl eRelation relations)), (3, .v (.ptr true [(iT query.VariableCount), (ssl eAtom query.Atoms), (ssl eI query.Free)])), (5, .v (ssl eI occurring_19)), (7, .v (.ptr true [(iT v_22.Relation), (ssl eI v_22.Terms)])), (36, .v (ssl eAtom query.Atoms)), (37, .v (iT (query.Atoms.length : Int))), (38, .v (iT x_20)), (69, .v (.bool y))])) ((if ¬ (o24 = true) then
  some true
  else
  (ix relations v_22.Relation).bind fun v_29 =>
  (jn (QN (fun (y : Bool) => [(0, .v (ssl eRelation relations)), (3, .v (.ptr true [(iT query.VariableCount), (ssl eAtom query.Atoms), (ssl eI query.Free)])), (5, .v (ssl eI occurring_19)), (7, .v (.ptr true [(iT v_22.Relation), (ssl eI v_22.Terms)])), (36, .v (ssl eAtom query.Atoms)), (37, .v (iT (query.Atoms.length : Int))), (38, .v (iT x_20)), (69, .v (.bool y))])) ((if (v_22.Terms.length : Int) ≠ v_29.Arity then
  some true
  else
  (cutL query.Atoms 0 x_20).bind fun l_34 =>
  (f137 l_34 (fun x0 => f138 x0 v_22)).bind fun o36 =>
  some o36) : Option (Bool))).bind fun x_31 =>
  some x_31) : Option (Bool))).bind fun x_26 =>
  if x_26 = true then
  some (.inr (.inr false))
  else
  (iter (lw (relations, occurring_19, x_20)  (f114_1 query v_22)) 0).bind fun o => match o with
  | .inl _ =>
  (f139 v_22).bind fun o49 =>
  (f129 occurring_19 o49).bind fun o51 =>
  some (.inl (o51, w64 (x_20 + 1)))
  | .inr x_48 =>
  some (.inr (.inr x_48))
  else
  some (.inr (.inl occurring_19)) : (List Int) × Int → Option (((List Int) × Int) ⊕ ((List Int) ⊕ Bool)))) ?_
 exact go
instance i114 {relations : (List Relation)} {query : Query} : Rn cx (f114 relations query) 114 [(ssl eRelation relations), (.agg [(iT query.VariableCount), (ssl eAtom query.Atoms), (ssl eI query.Free)])] (fun (r : Bool) => (.bool r)) (fun r => []) := by
 refine Rn.of (e := (
  (f131 relations).bind fun o1 =>
  (jn (QN (fun (y : Bool) => [(0, .v (ssl eRelation relations)), (3, .v (.ptr true [(iT query.VariableCount), (ssl eAtom query.Atoms), (ssl eI query.Free)])), (33, .v (.bool y))])) ((if ¬ (o1 = true) then
  some true
  else
  (f82 query.VariableCount 0 4).bind fun o6 =>
  (jn (QN (fun (y : Bool) => [(0, .v (ssl eRelation relations)), (3, .v (.ptr true [(iT query.VariableCount), (ssl eAtom query.Atoms), (ssl eI query.Free)])), (33, .v (.bool y))])) ((if ¬ (o6 = true) then
  some true
  else
  (f82 (query.Atoms.length : Int) 1 3).bind fun o11 =>
  (jn (QN (fun (y : Bool) => [(0, .v (ssl eRelation relations)), (3, .v (.ptr true [(iT query.VariableCount), (ssl eAtom query.Atoms), (ssl eI query.Free)])), (33, .v (.bool y))])) ((if ¬ (o11 = true) then
  some true
  else
  (f103 query.Free query.VariableCount).bind fun o16 =>
  some (decide (¬ (o16 = true)))) : Option (Bool))).bind fun x_13 =>
  some x_13) : Option (Bool))).bind fun x_8 =>
  some x_8) : Option (Bool))).bind fun x_3 =>
  if x_3 = true then
  some false
  else
  sn 2 5 (osl eI true ([])) <| 
  sn 0 5 (ssl eI ([])) <| 
  (iter (f114_0 relations query) ([], 0)).bind fun o => match o with
  | .inl occurring_55 =>
  some (decide ((occurring_55.length : Int) = query.VariableCount))
  | .inr x_56 =>
  some x_56 : Option Bool)) rfl rfl (by decide) rfl ?_
 exact go
instance : Io0 cx 114 := ⟨rfl⟩
instance i69 {db : Database} {query : Query} : Rn cx (f69 db query) 69 [(.agg [(ssl eRelation db.Relations), (ssl eFact db.Facts)]), (.agg [(iT query.VariableCount), (ssl eAtom query.Atoms), (ssl eI query.Free)])] (fun (r : Bool) => (.bool r)) (fun r => []) := by
 refine Rn.of (e := (
  (f102 db).bind fun o1 =>
  (jn (QN (fun (y : Bool) => [(4, .v (.bool y))])) ((if o1 = true then
  (f114 db.Relations query).bind fun o6 =>
  some o6
  else
  some false) : Option (Bool))).bind fun x_3 =>
  some x_3 : Option Bool)) rfl rfl (by decide) rfl ?_
 exact go
instance : Io0 cx 69 := ⟨rfl⟩
instance i186 {x : Int} {y : Int} : Rn cx (f186 x y) 186 [(.int .u64 x), (.int .u64 y)] (fun (r : Int × Int) => (.tup [(.int .u64 r.1), (.int .u64 r.2)])) (fun r => []) := by
 refine Rn.of rfl rfl (by decide) rfl ?_; unfold f186; exact go
instance : Io0 cx 186 := ⟨rfl⟩
instance i178 {x : Int} {y : Int} : Rn cx (f178 x y) 178 [(.int .u64 x), (.int .u64 y)] (fun (r : Int × Int) => (.tup [(.int .u64 r.1), (.int .u64 r.2)])) (fun r => []) := by
 refine Rn.of rfl rfl (by decide) rfl ?_; unfold f178; exact go
instance : Io0 cx 178 := ⟨rfl⟩
instance i162_0 : Lp cx f162_0 48 L162_0 (fun (zs : (List Int) × Int) => [(7, .v (.sl true false 1 0 (arr eI true zs.1))), (8, .v (iT zs.2))]) (QX 0 (fun (y : (List Int)) => [(7, .v (.sl true false 1 0 (arr eI true y)))])) := by
 refine Lp.of (f := (fun
 | (newslice_14, n_15) =>
  if n_15 < (newslice_14.length : Int) then
  (cutL newslice_14 0 n_15).bind fun z_17 =>
  cs 3 <| 
  some (.inl ((csL newslice_14 n_15.toNat), w64 (n_15 + (min n_15 ((newslice_14.length : Int) - n_15)))))
  else
  some (.inr newslice_14) : (List Int) × Int → Option (((List Int) × Int) ⊕ (List Int)))) ?_
 exact go
instance i162 {x : (List Int)} {count : Int} : Rn cx (f162 x count) 162 [(ssl eI x), (iT count)] (fun (r : (List Int)) => (osl eI true r)) (fun r => []) := by
 refine Rn.of (e := (
  (jn (QN (fun (y : Unit) => [(0, .v (ssl eI x)), (1, .v (iT count))])) ((if count < 0 then
  none
  else
  some ()) : Option Unit)).bind fun _ =>
  (f178 (IntKind.u64.wrap (x.length : Int)) (IntKind.u64.wrap count)).bind fun o4 =>
  (jn (QN (fun (y : Bool) => [(0, .v (ssl eI x)), (6, .v (.int .u64 o4.2)), (26, .v (.bool y))])) ((if o4.1 > 0 then
  some true
  else
  some (decide (o4.2 > 9223372036854775807))) : Option (Bool))).bind fun x_6 =>
  (jn (QN (fun (y : Unit) => [(0, .v (ssl eI x)), (6, .v (.int .u64 o4.2))])) ((if x_6 = true then
  none
  else
  some ()) : Option Unit)).bind fun _ =>
  (mkl 8 (w64 o4.2) 0).bind fun l_12 =>
  cp 6 <| 
  (iter f162_0 ((cpL l_12 x), ((min x.length l_12.length : Nat) : Int))).bind fun newslice_21 =>
  sn 2 4 (osl eI true newslice_21) <| 
  some newslice_21 : Option (List Int))) rfl rfl (by decide) rfl ?_
 exact go
instance : Io0 cx 162 := ⟨rfl⟩
instance i143 {n0 : Int} : Rn cx (f143 n0) 143 [(iT n0)] (fun (r : (List Int)) => (osl eI true r)) (fun r => []) := by
 refine Rn.of (e := (
  sn 3 3 (osl eI true ([-1])) <| 
  (f162 ([-1]) n0).bind fun o1 =>
  some o1 : Option (List Int))) rfl rfl (by decide) rfl ?_
 exact go
instance : Io0 cx 143 := ⟨rfl⟩
theorem r141 {s0 : (List Int)} {r : (List Int)} (h : f141 s0 = some r) : VJx cx (.ca 141 [(ssl eI s0)] (osl eI true r) []) := by
 unfold f141 at h
 refine ca_clone (X := noExt) (fun _ _ _ _ h => h) (fun _ _ _ _ h => h) rfl (by decide) rfl (cl_eq h) ?_
 refine Wc.start (V1 := [(0, .v (ssl eI s0))]) (by simp) ?_
 refine Wc.seq ?_
 obtain ⟨l_1, h2, h⟩ := bind_some h
 have gx2 := appT_arr2 (E := eI) (b := true) (b' := false) (y := false) h2 (by decide) (arr_sc rfl _)
 simp [-aI_app0, -aB_app0, -aS_app0, -aL_app0, -aLt_app1I, -aLf_app1I, -aLt_app10I, -aLf_app10I] at gx2
 refine Wc.evs (by conv => lhs; simp [-aI_app0, -aB_app0, -aS_app0, -aL_app0, -aI_app10, -aB_app10, -aS_app10, -aLt_app10I, -aLf_app10I, -aLt_app1I, -aLf_app1I, gx2]) ?_
 refine Wo.gh (vle_co (s := 2) (t1 := (osl eI true l_1)) rfl (by simp) (tle_own rfl) (by conv => lhs; simp)) ?_
 refine Wo.nil ?_
 refine Wc.ret (res_of (.inr rfl) ?_)
 cases h
 exact ⟨_, _, _, by conv => lhs; simp, by (conv => lhs; simp [cx, ioTab, List.range, List.range.loop]) <;> rfl, by first | rfl | simp [-aI_app0, -aB_app0, -aS_app0, -aL_app0, -aI_app10, -aB_app10, -aS_app10, -aLt_app10I, -aLf_app10I, -aLt_app1I, -aLf_app1I, gx2]⟩
instance i141 {s0 : (List Int)} : Rn cx (f141 s0) 141 [(ssl eI s0)] (fun (r : (List Int)) => (osl eI true r)) (fun r => []) := ⟨fun _ h => r141 h⟩
instance : Io0 cx 141 := ⟨rfl⟩
instance i160 {t : Int} : Rn cx (f160 t) 160 [(iT t)] (fun (r : Bool) => (.bool r)) (fun r => []) := by
 refine Rn.of rfl rfl (by decide) rfl ?_; unfold f160; exact go
instance : Io0 cx 160 := ⟨rfl⟩
instance i161 {v : Int} : Rn cx (f161 v) 161 [(iT v)] (fun (r : Int) => (iT r)) (fun r => []) := by
 refine Rn.of rfl rfl (by decide) rfl ?_; unfold f161; exact go
instance : Io0 cx 161 := ⟨rfl⟩
instance i142_0 {terms : (List Int)} {from2 : (List Int)} : Lp cx (f142_0 terms from2) 56 L142_0 (fun (zs : (List Int) × Int) => [(2, .v (ssl eI from2)), (8, .v (osl eI true zs.1)), (13, .v (ssl eI terms)), (14, .v (iT (terms.length : Int))), (15, .v (iT zs.2))]) (QO (QX 0 (fun (y : (List Int)) => [(8, .v (osl eI true y))])) (QR (fun (y : (List Int) × Bool) => [(6, .v (osl eI true y.1)), (7, .v (.bool y.2))]))) := by
 refine Lp.of (f := (fun
 | (out_3, x_4) =>
  if x_4 < (terms.length : Int) then
  (ix terms x_4).bind fun v_6 =>
  (f160 v_6).bind fun o8 =>
  (jn (QO (QN (fun (y : (List Int)) => [(2, .v (ssl eI from2)), (8, .v (osl eI true y)), (13, .v (ssl eI terms)), (14, .v (iT (terms.length : Int))), (15, .v (iT x_4))])) (QR (fun (y : (List Int) × Bool) => [(6, .v (osl eI true y.1)), (7, .v (.bool y.2))]))) ((if ¬ (o8 = true) then
  (ix from2 x_4).bind fun v_13 =>
  (f161 v_6).bind fun o15 =>
  if o15 ≠ v_13 then
  sn 2 6 (osl eI true ([])) <| 
  some (.inr ([], false))
  else
  some (.inl out_3)
  else
  (ix out_3 v_6).bind fun v_18 =>
  (jn (QO (QN (fun (y : (List Int)) => [(2, .v (ssl eI from2)), (8, .v (osl eI true y)), (13, .v (ssl eI terms)), (14, .v (iT (terms.length : Int))), (15, .v (iT x_4))])) (QR (fun (y : (List Int) × Bool) => [(6, .v (osl eI true y.1)), (7, .v (.bool y.2))]))) ((if v_18 < 0 then
  (ix from2 x_4).bind fun v_23 =>
  some (.inl (out_3.set v_6.toNat v_23))
  else
  (ix from2 x_4).bind fun v_26 =>
  if v_18 ≠ v_26 then
  sn 2 6 (osl eI true ([])) <| 
  some (.inr ([], false))
  else
  some (.inl out_3)) : Option ((List Int) ⊕ ((List Int) × Bool)))).bind fun o => match o with
  | .inl out_29 =>
  some (.inl out_29)
  | .inr (x_30, x_31) =>
  some (.inr (x_30, x_31))) : Option ((List Int) ⊕ ((List Int) × Bool)))).bind fun o => match o with
  | .inl out_32 =>
  some (.inl (out_32, w64 (x_4 + 1)))
  | .inr (x_33, x_34) =>
  some (.inr (.inr (x_33, x_34)))
  else
  some (.inr (.inl out_3)) : (List Int) × Int → Option (((List Int) × Int) ⊕ ((List Int) ⊕ ((List Int) × Bool))))) ?_
 exact go
instance i142 {values : (List Int)} {terms : (List Int)} {from2 : (List Int)} : Rn cx (f142 values terms from2) 142 [(ssl eI values), (ssl eI terms), (ssl eI from2)] (fun (r : (List Int) × Bool) => (.tup [(osl eI true r.1), (.bool r.2)])) (fun r => []) := by
 refine Rn.of rfl rfl (by decide) rfl ?_; unfold f142; exact go
instance : Io0 cx 142 := ⟨rfl⟩
instance i140_0 {a2 : AV} {a3 : AV} {a4 : AV} {a5 : AV} {values : (List Int)} {facts : (List Int)} {c : Query} {c4 : Database} {v_8 : Atom} {rec : (List Int) → (List Int) → Query → (List Embedding) → Database → Option (List Embedding)} [hrec : ∀ values facts c c3 c4, Rn cx (ag (a2, a3, a4, a5) <| rec values facts c c3 c4) 140 [(ssl eI values), (ssl eI facts), (.at a2 (.ptr false [(iT c.VariableCount), (ssl eAtom c.Atoms), (ssl eI c.Free)])), (.at a3 (.ptr true [(osl eEmbedding true c3)])), (.at a4 (.ptr false [(ssl eRelation c4.Relations), (ssl eFact c4.Facts)])), (.at a5 (.ptr false [(.at (.fn 140 [a2, a3, a4, a5]) .und)]))] (fun o => (.tup [])) (fun o => [(.at a3 (.ptr true [(osl eEmbedding true o)]))])] : Lp cx (lw (a2, a3, a4, a5) (f140_0 values facts c c4 rec v_8)) 65 L140_0 (fun (zs : (List Embedding) × Int) => [(0, .v (ssl eI values)), (1, .v (ssl eI facts)), (2, .v (.at a2 (.ptr false [(iT c.VariableCount), (ssl eAtom c.Atoms), (ssl eI c.Free)]))), (3, .v (.at a3 (.ptr true [(osl eEmbedding true zs.1)]))), (4, .v (.at a4 (.ptr false [(ssl eRelation c4.Relations), (ssl eFact c4.Facts)]))), (5, .v (.at a5 (.ptr false [(.at (.fn 140 [a2, a3, a4, a5]) .und)]))), (8, .v (.ptr true [(iT v_8.Relation), (ssl eI v_8.Terms)])), (34, .v (ssl eFact c4.Facts)), (35, .v (iT (c4.Facts.length : Int))), (36, .v (iT zs.2))]) (QX 0 (fun (y : (List Embedding)) => [(3, .v (.at a3 (.ptr true [(osl eEmbedding true y)])))])) := by
 refine Lp.of (f := (fun
 | (x_10, x_11) =>
  if x_11 < (c4.Facts.length : Int) then
  (jb 1 (QN (fun (y : (List Embedding)) => [(0, .v (ssl eI values)), (1, .v (ssl eI facts)), (2, .v (.at a2 (.ptr false [(iT c.VariableCount), (ssl eAtom c.Atoms), (ssl eI c.Free)]))), (3, .v (.at a3 (.ptr true [(osl eEmbedding true y)]))), (4, .v (.at a4 (.ptr false [(ssl eRelation c4.Relations), (ssl eFact c4.Facts)]))), (5, .v (.at a5 (.ptr false [(.at (.fn 140 [a2, a3, a4, a5]) .und)]))), (8, .v (.ptr true [(iT v_8.Relation), (ssl eI v_8.Terms)])), (34, .v (ssl eFact c4.Facts)), (35, .v (iT (c4.Facts.length : Int))), (36, .v (iT x_11))])) (((ix c4.Facts x_11).bind fun v_15 =>
  if v_15.Relation ≠ v_8.Relation then
  some x_10
  else
  (f142 values v_8.Terms v_15.Values).bind fun o18 =>
  (jn (QN (fun (y : (List Embedding)) => [(0, .v (ssl eI values)), (1, .v (ssl eI facts)), (2, .v (.at a2 (.ptr false [(iT c.VariableCount), (ssl eAtom c.Atoms), (ssl eI c.Free)]))), (3, .v (.at a3 (.ptr true [(osl eEmbedding true y)]))), (4, .v (.at a4 (.ptr false [(ssl eRelation c4.Relations), (ssl eFact c4.Facts)]))), (5, .v (.at a5 (.ptr false [(.at (.fn 140 [a2, a3, a4, a5]) .und)]))), (8, .v (.ptr true [(iT v_8.Relation), (ssl eI v_8.Terms)])), (34, .v (ssl eFact c4.Facts)), (35, .v (iT (c4.Facts.length : Int))), (36, .v (iT x_11))])) ((if o18.2 = true then
  sn 5 61 (osl eI true ([x_11])) <| 
  (f141 facts).bind fun o23 =>
  (app 8 o23 ([x_11])).bind fun l_25 =>
  (ca [2, 3, 4, 5] <| ag (a2, a3, a4, a5) (rec o18.1 l_25 c x_10 c4)).bind fun o27 =>
  some o27
  else
  some x_10) : Option (List Embedding))).bind fun x_29 =>
  some x_29) : Option (List Embedding))).bind fun x_30 =>
  some (.inl (x_30, w64 (x_11 + 1)))
  else
  some (.inr x_10) : (List Embedding) × Int → Option (((List Embedding) × Int) ⊕ (List Embedding)))) ?_
 exact go
instance i140 : ∀ (n : Nat) values facts c c3 c4 (a2 a3 a4 a5 : AV), Rn cx (ag (a2, a3, a4, a5) (f140 n values facts c c3 c4)) 140 [(ssl eI values), (ssl eI facts), (.at a2 (.ptr false [(iT c.VariableCount), (ssl eAtom c.Atoms), (ssl eI c.Free)])), (.at a3 (.ptr true [(osl eEmbedding true c3)])), (.at a4 (.ptr false [(ssl eRelation c4.Relations), (ssl eFact c4.Facts)])), (.at a5 (.ptr false [(.at (.fn 140 [a2, a3, a4, a5]) .und)]))] (fun (r : (List Embedding)) => (.tup [])) (fun r => [(.at a3 (.ptr true [(osl eEmbedding true r)]))]) := by
 intro n
 induction n with
 | zero => intro values facts c c3 c4 a2 a3 a4 a5; exact ⟨fun r h => by simp [ag, f140] at h⟩
 | succ n ih =>
  intro values facts c c3 c4 a2 a3 a4 a5
  refine Rn.of (e := (
   if (facts.length : Int) = (c.Atoms.length : Int) then
   (f141 values).bind fun o2 =>
   (f141 facts).bind fun o4 =>
   (app 48 c3 ([({ Values := o2, Facts := o4 } : Embedding)])).bind fun l_6 =>
   some l_6
   else
   (ix c.Atoms (facts.length : Int)).bind fun v_8 =>
   (iter (lw (a2, a3, a4, a5)  (f140_0 values facts c c4 (f140 n) v_8)) (c3, 0)).bind fun x_33 =>
   some x_33 : Option (List Embedding))) rfl rfl (by decide) rfl ?_
  exact go
instance i115 {db : Database} {query : Query} : Rn cx (f115 db query) 115 [(.agg [(ssl eRelation db.Relations), (ssl eFact db.Facts)]), (.agg [(iT query.VariableCount), (ssl eAtom query.Atoms), (ssl eI query.Free)])] (fun (r : (List Embedding)) => (osl eEmbedding true r)) (fun r => []) := by
 refine Rn.of (e := (
  sn 5 7 (osl eEmbedding true ([])) <| 
  (f69 db query).bind fun o1 =>
  if ¬ (o1 = true) then
  some ([])
  else
  lc 1 6 fun (a5 : AV) => 
  lc 0 3 fun (a2 : AV) => 
  lc 0 5 fun (a3 : AV) => 
  lc 0 2 fun (a4 : AV) => 
  fa 0 [a2, a3, a4, a5] <| 
  (f143 query.VariableCount).bind fun o4 =>
  (ca [3, 5, 2, 6] <| ag (a2, a3, a4, a5) (f140 64 o4 ([] : (List Int)) query ([]) db)).bind fun o6 =>
  some o6 : Option (List Embedding))) rfl rfl (by decide) rfl ?_
 exact go
instance : Io0 cx 115 := ⟨rfl⟩
instance i70_0 {o11 : (List Embedding)} : Lp cx (f70_0 o11) 27 L70_0 (fun (zs : (List (List Int)) × Nat × Int) => [(5, .v (osl (eL eI) true zs.1)), (11, .v (.sl true true 2 0 (arrM eEmbedding zs.2.1 o11))), (12, .v (iT (o11.length : Int))), (13, .v (iT zs.2.2))]) (QX 0 (fun (y : (List (List Int))) => [(5, .v (osl (eL eI) true y))])) := by
 refine Lp.of (f := (fun
 | (out, k, x) =>
  if x < (o11.length : Int) then
  (ml o11 k x).bind fun v =>
  mv 1 <|
  (f116 v.Facts).bind fun s =>
  mf 2 <|
  (app 24 out ([s])).bind fun l =>
  some (.inl (l, k + 1, w64 (x + 1)))
  else
  some (.inr out) : (List (List Int)) × Nat × Int → Option (((List (List Int)) × Nat × Int) ⊕ (List (List Int))))) ?_
 exact go
instance i70 {db : Database} {query : Query} : Rn cx (f70 db query) 70 [(.agg [(ssl eRelation db.Relations), (ssl eFact db.Facts)]), (.agg [(iT query.VariableCount), (ssl eAtom query.Atoms), (ssl eI query.Free)])] (fun (r : (List (List Int))) => (osl (eL eI) true r)) (fun r => []) := by
 refine Rn.of (e := (
  sn 5 5 (osl (eL eI) true ([])) <|
  (f115 db query).bind fun o11 =>
  (iter (f70_0 o11) ([], 0, 0)).bind fun out =>
  some out : Option (List (List Int)))) rfl rfl (by decide) rfl ?_
 exact go
instance : Io0 cx 70 := ⟨rfl⟩
instance i146_0 {s1 : (List Int)} {s2 : (List Int)} : Lp cx (f146_0 s1 s2) 26 L146_0 (fun (zs : Int) => [(0, .v (ssl eI s1)), (1, .v (ssl eI s2)), (12, .v (iT (s1.length : Int))), (13, .v (iT zs))]) (QO (QX 0 (fun (y : Unit) => [])) (QR (fun (y : Bool) => [(4, .v (.bool y))]))) := by
 refine Lp.of ?_; unfold f146_0; exact go
instance i146 {s1 : (List Int)} {s2 : (List Int)} : Rn cx (f146 s1 s2) 146 [(ssl eI s1), (ssl eI s2)] (fun (r : Bool) => (.bool r)) (fun r => []) := by
 refine Rn.of rfl rfl (by decide) rfl ?_; unfold f146; exact go
instance : Io0 cx 146 := ⟨rfl⟩
instance i117 {relations : (List Relation)} {a : Fact} {b : Fact} : Rn cx (f117 relations a b) 117 [(ssl eRelation relations), (.agg [(iT a.Relation), (ssl eI a.Values)]), (.agg [(iT b.Relation), (ssl eI b.Values)])] (fun (r : Bool) => (.bool r)) (fun r => []) := by
 refine Rn.of rfl rfl (by decide) rfl ?_; unfold f117; exact go
instance : Io0 cx 117 := ⟨rfl⟩
instance i71_0 {db : Database} : Lp cx (f71_0 db) 54 L71_0 (fun (zs : (List (List Int)) × Int) => [(1, .v (.ptr true [(ssl eRelation db.Relations), (ssl eFact db.Facts)])), (3, .v (osl (eL eI) true zs.1)), (9, .v (ssl eFact db.Facts)), (10, .v (iT (db.Facts.length : Int))), (11, .v (iT zs.2))]) (QX 0 (fun (y : (List (List Int))) => [(3, .v (osl (eL eI) true y))])) := by
 refine Lp.of (f := (fun
 | (out_1, x_2) =>
  if x_2 < (db.Facts.length : Int) then
  (ix db.Facts x_2).bind fun v_4 =>
  (jn (QN (fun (y : Bool) => [(1, .v (.ptr true [(ssl eRelation db.Relations), (ssl eFact db.Facts)])), (3, .v (osl (eL eI) true out_1)), (4, .v (iT x_2)), (6, .v (iT (w64 ((out_1.length : Int) - 1)))), (9, .v (ssl eFact db.Facts)), (10, .v (iT (db.Facts.length : Int))), (11, .v (iT x_2)), (36, .v (.bool y))])) ((if (w64 ((out_1.length : Int) - 1)) ≥ 0 then
  (ix out_1 (w64 ((out_1.length : Int) - 1))).bind fun v_9 =>
  (ix v_9 0).bind fun v_11 =>
  (ix db.Facts v_11).bind fun v_13 =>
  (f117 db.Relations v_13 v_4).bind fun o15 =>
  some o15
  else
  some false) : Option (Bool))).bind fun x_6 =>
  (jn (QN (fun (y : (List (List Int))) => [(1, .v (.ptr true [(ssl eRelation db.Relations), (ssl eFact db.Facts)])), (3, .v (osl (eL eI) true y)), (9, .v (ssl eFact db.Facts)), (10, .v (iT (db.Facts.length : Int))), (11, .v (iT x_2))])) ((if x_6 = true then
  (ix out_1 (w64 ((out_1.length : Int) - 1))).bind fun v_20 =>
  (app 8 v_20 ([x_2])).bind fun l_22 =>
  some (out_1.set (w64 ((out_1.length : Int) - 1)).toNat l_22)
  else
  sn 3 49 (osl eI true ([x_2])) <| 
  (app 24 out_1 ([[x_2]])).bind fun l_25 =>
  some l_25) : Option (List (List Int)))).bind fun out_27 =>
  some (.inl (out_27, w64 (x_2 + 1)))
  else
  some (.inr out_1) : (List (List Int)) × Int → Option (((List (List Int)) × Int) ⊕ (List (List Int))))) ?_
 exact go
instance i71 {db : Database} : Rn cx (f71 db) 71 [(.agg [(ssl eRelation db.Relations), (ssl eFact db.Facts)])] (fun (r : (List (List Int))) => (osl (eL eI) true r)) (fun r => []) := by
 refine Rn.of (e := (
  sn 4 3 (osl (eL eI) true ([])) <| 
  (iter (f71_0 db) ([], 0)).bind fun out_30 =>
  some out_30 : Option (List (List Int)))) rfl rfl (by decide) rfl ?_
 exact go
instance : Io0 cx 71 := ⟨rfl⟩
instance i49_0 {db : Database} : Lp cx (f49_0 db) 33 L49_0 (fun (zs : (List Relation) × (List Fact) × Int) => [(1, .v (.ptr true [(ssl eRelation db.Relations), (ssl eFact db.Facts)])), (2, .v (.ptr true [(osl eRelation true ([])), (osl eFact true ([]))])), (3, .v (.ptr true [(osl eRelation true zs.1), (osl eFact true zs.2.1)])), (13, .v (ssl eFact db.Facts)), (14, .v (iT (db.Facts.length : Int))), (15, .v (iT zs.2.2))]) (QX 0 (fun (y : (List Relation) × (List Fact)) => [(2, .v (.ptr true [(osl eRelation true ([])), (osl eFact true ([]))])), (3, .v (.ptr true [(osl eRelation true y.1), (osl eFact true y.2)]))])) := by
 refine Lp.of (f := (fun
 | (out_3, out_4, x_5) =>
  if x_5 < (db.Facts.length : Int) then
  (ix db.Facts x_5).bind fun v_7 =>
  (app 8 ([]) v_7.Values).bind fun l_9 =>
  sn 12 26 (osl eI true l_9) <| 
  (app 32 out_4 ([({ Relation := v_7.Relation, Values := l_9 } : Fact)])).bind fun l_11 =>
  some (.inl (out_3, l_11, w64 (x_5 + 1)))
  else
  some (.inr (out_3, out_4)) : (List Relation) × (List Fact) × Int → Option (((List Relation) × (List Fact) × Int) ⊕ ((List Relation) × (List Fact))))) ?_
 exact go
instance i49 {db : Database} : Rn cx (f49 db) 49 [(.agg [(ssl eRelation db.Relations), (ssl eFact db.Facts)])] (fun (r : Database) => (.agg [(osl eRelation true r.Relations), (osl eFact true r.Facts)])) (fun r => []) := by
 refine Rn.of (e := (
  sn 2 2 (.ptr true [(osl eRelation true ([])), (osl eFact true ([]))]) <| 
  (app 32 ([]) db.Relations).bind fun l_1 =>
  sn 5 9 (osl eRelation true l_1) <| 
  sn 0 10 (osl eFact true ([])) <| 
  (iter (f49_0 db) (l_1, [], 0)).bind fun (out_15, out_16) =>
  some ({ Relations := out_15, Facts := out_16 } : Database) : Option Database)) rfl rfl (by decide) rfl ?_
 exact go
instance : Io0 cx 49 := ⟨rfl⟩
instance i50_0 {indices : (List Int)} {o9 : Database} : Lp cx (f50_0 indices o9) 45 L50_0 (fun (zs : (List Relation) × (List Fact) × Int) => [(4, .v (.ptr true [(osl eRelation true ([])), (osl eFact true ([]))])), (6, .v (.ptr false [(ssl eRelation o9.Relations), (ssl eFact o9.Facts)])), (7, .v (.ptr true [(ssl eRelation zs.1), (osl eFact false zs.2.1)])), (27, .v (ssl eI indices)), (28, .v (iT (indices.length : Int))), (29, .v (iT zs.2.2))]) (QX 0 (fun (y : (List Relation) × (List Fact)) => [(4, .v (.ptr true [(osl eRelation true ([])), (osl eFact true ([]))])), (7, .v (.ptr true [(ssl eRelation y.1), (osl eFact false y.2)]))])) := by
 refine Lp.of ?_; unfold f50_0; exact go
instance i50 {db : Database} {indices : (List Int)} : Rn cx (f50 db indices) 50 [(.agg [(ssl eRelation db.Relations), (ssl eFact db.Facts)]), (ssl eI indices)] (fun (r : Database × Bool) => (.tup [(.agg [(ssl eRelation r.1.Relations), (osl eFact false r.1.Facts)]), (.bool r.2)])) (fun r => []) := by
 refine Rn.of (e := (
  sn 3 4 (.ptr true [(osl eRelation true ([])), (osl eFact true ([]))]) <| 
  (f102 db).bind fun o1 =>
  (jn (QN (fun (y : Bool) => [(1, .v (ssl eI indices)), (2, .v (.ptr true [(ssl eRelation db.Relations), (ssl eFact db.Facts)])), (4, .v (.ptr true [(osl eRelation true ([])), (osl eFact true ([]))])), (20, .v (.bool y))])) ((if ¬ (o1 = true) then
  some true
  else
  (f103 indices (db.Facts.length : Int)).bind fun o6 =>
  some (decide (¬ (o6 = true)))) : Option (Bool))).bind fun x_3 =>
  if x_3 = true then
  sn 1 21 (.agg [(osl eRelation true ([])), (osl eFact true ([]))]) <| 
  some (({ Relations := [], Facts := [] } : Database), false)
  else
  (f49 db).bind fun o9 =>
  sn 2 6 (.ptr false [(ssl eRelation o9.Relations), (ssl eFact o9.Facts)]) <| 
  sn 4 26 (.agg [(ssl eRelation o9.Relations), (osl eFact true ([]))]) <| 
  (iter (f50_0 indices o9) (o9.Relations, [], 0)).bind fun (out_23, out_24) =>
  some (({ Relations := out_23, Facts := out_24 } : Database), true) : Option (Database × Bool))) rfl rfl (by decide) rfl ?_
 exact go
instance : Io0 cx 50 := ⟨rfl⟩
instance i122 {db : Database} : Rn cx (f122 db) 122 [(.agg [(ssl eRelation db.Relations), (ssl eFact db.Facts)])] (fun (r : Bool) => (.bool r)) (fun r => []) := by
 refine Rn.of (e := (
  (f102 db).bind fun o1 =>
  (jn (QN (fun (y : Bool) => [(2, .v (.bool y))])) ((if o1 = true then
  (f71 db).bind fun o6 =>
  some (decide ((o6.length : Int) = (db.Facts.length : Int)))
  else
  some false) : Option (Bool))).bind fun x_3 =>
  some x_3 : Option Bool)) rfl rfl (by decide) rfl ?_
 exact go
instance : Io0 cx 122 := ⟨rfl⟩
instance i81 {db : Database} {indices : (List Int)} : Rn cx (f81 db indices) 81 [(.agg [(ssl eRelation db.Relations), (ssl eFact db.Facts)]), (ssl eI indices)] (fun (r : Bool) => (.bool r)) (fun r => []) := by
 refine Rn.of (e := (
  (f50 db indices).bind fun o1 =>
  (jn (QN (fun (y : Bool) => [(4, .v (.bool y))])) ((if o1.2 = true then
  (f122 o1.1).bind fun o6 =>
  some o6
  else
  some false) : Option (Bool))).bind fun x_3 =>
  some x_3 : Option Bool)) rfl rfl (by decide) rfl ?_
 exact go
instance : Io0 cx 81 := ⟨rfl⟩
instance i87_0 {s0 : (List (List Int))} {g_f : Nat} {cp_f : List T} {f : (List Int) → Option Bool} [hp_f : ∀ x0, Rn cx (f x0) g_f ((ssl eI x0) :: cp_f) (fun o => (.bool o)) (fun _ => [])] [Io0 cx g_f] : Lp cx (f87_0 s0 f) 19 L87_0 (fun (zs : Int) => [(0, .v (ssl (eL eI) s0)), (1, .v (.fn g_f cp_f)), (7, .v (iT (s0.length : Int))), (8, .v (iT zs))]) (QO (QX 0 (fun (y : Unit) => [])) (QR (fun (y : Int) => [(4, .v (iT y))]))) := by
 refine Lp.of ?_; unfold f87_0; exact go
instance i87 {s0 : (List (List Int))} {g_f : Nat} {cp_f : List T} {f : (List Int) → Option Bool} [hp_f : ∀ x0, Rn cx (f x0) g_f ((ssl eI x0) :: cp_f) (fun o => (.bool o)) (fun _ => [])] [Io0 cx g_f] : Rn cx (f87 s0 f) 87 [(ssl (eL eI) s0), (.fn g_f cp_f)] (fun (r : Int) => (iT r)) (fun r => []) := by
 refine Rn.of rfl rfl (by decide) rfl ?_; unfold f87; exact go
instance : Io0 cx 87 := ⟨rfl⟩
instance i74 {s0 : (List (List Int))} {g_f : Nat} {cp_f : List T} {f : (List Int) → Option Bool} [hp_f : ∀ x0, Rn cx (f x0) g_f ((ssl eI x0) :: cp_f) (fun o => (.bool o)) (fun _ => [])] [Io0 cx g_f] : Rn cx (f74 s0 f) 74 [(ssl (eL eI) s0), (.fn g_f cp_f)] (fun (r : Bool) => (.bool r)) (fun r => []) := by
 refine Rn.of rfl rfl (by decide) rfl ?_; unfold f74; exact go
instance : Io0 cx 74 := ⟨rfl⟩
instance i130_0 {s0 : (List Int)} {v : Int} : Lp cx (f130_0 s0 v) 19 L130_0 (fun (zs : Int) => [(0, .v (ssl eI s0)), (1, .v (iT v)), (7, .v (iT (s0.length : Int))), (8, .v (iT zs))]) (QO (QX 0 (fun (y : Unit) => [])) (QR (fun (y : Int) => [(4, .v (iT y))]))) := by
 refine Lp.of ?_; unfold f130_0; exact go
instance i130 {s0 : (List Int)} {v : Int} : Rn cx (f130 s0 v) 130 [(ssl eI s0), (iT v)] (fun (r : Int) => (iT r)) (fun r => []) := by
 refine Rn.of rfl rfl (by decide) rfl ?_; unfold f130; exact go
instance : Io0 cx 130 := ⟨rfl⟩
instance i101 {s0 : (List Int)} {v : Int} : Rn cx (f101 s0 v) 101 [(ssl eI s0), (iT v)] (fun (r : Bool) => (.bool r)) (fun r => []) := by
 refine Rn.of rfl rfl (by decide) rfl ?_; unfold f101; exact go
instance : Io0 cx 101 := ⟨rfl⟩
instance i150 {n0 : Int} {c : (List Int)} : Rn cx (f150 n0 c) 150 [(iT n0), (.ptr false [(ssl eI c)])] (fun (r : Bool) => (.bool r)) (fun r => []) := by
 refine Rn.of rfl rfl (by decide) rfl ?_; unfold f150; exact go
instance : Io0 cx 150 := ⟨rfl⟩
instance i120 {a : (List Int)} {b : (List Int)} : Rn cx (f120 a b) 120 [(ssl eI a), (ssl eI b)] (fun (r : Bool) => (.bool r)) (fun r => []) := by
 refine Rn.of rfl rfl (by decide) rfl ?_; unfold f120; exact go
instance : Io0 cx 120 := ⟨rfl⟩
instance i119 {own : (List Int)} {c : (List Int)} : Rn cx (f119 own c) 119 [(ssl eI own), (.ptr false [(ssl eI c)])] (fun (r : Bool) => (.bool r)) (fun r => []) := by
 refine Rn.of rfl rfl (by decide) rfl ?_; unfold f119; exact go
instance : Io0 cx 119 := ⟨rfl⟩
instance i73 {sets : (List (List Int))} {set1 : (List Int)} : Rn cx (f73 sets set1) 73 [(ssl (eL eI) sets), (ssl eI set1)] (fun (r : Bool) => (.bool r)) (fun r => []) := by
 refine Rn.of rfl rfl (by decide) rfl ?_; unfold f73; exact go
instance : Io0 cx 73 := ⟨rfl⟩
instance i83_0 {steps : (List DerivationStep)} : Lp cx (f83_0 steps) 20 L83_0 (fun (zs : (List (List Int)) × Int) => [(3, .v (osl (eL eI) false zs.1)), (7, .v (ssl eDerivationStep steps)), (8, .v (iT (steps.length : Int))), (9, .v (iT zs.2))]) (QX 0 (fun (y : (List (List Int))) => [(3, .v (osl (eL eI) false y))])) := by
 refine Lp.of ?_; unfold f83_0; exact go
instance i83 {steps : (List DerivationStep)} : Rn cx (f83 steps) 83 [(ssl eDerivationStep steps)] (fun (r : (List (List Int))) => (osl (eL eI) false r)) (fun r => []) := by
 refine Rn.of (e := (
  sn 3 3 (osl (eL eI) false ([])) <| 
  (iter (f83_0 steps) ([], 0)).bind fun out_10 =>
  some out_10 : Option (List (List Int)))) rfl rfl (by decide) rfl ?_
 exact go
instance : Io0 cx 83 := ⟨rfl⟩
instance i121 {set0 : (List Int)} {fact : Int} : Rn cx (f121 set0 fact) 121 [(ssl eI set0), (iT fact)] (fun (r : (List Int)) => (ssl eI r)) (fun r => []) := by
 refine Rn.of (e := (
  sn 4 7 (osl eI true ([fact])) <| 
  sn 0 7 (ssl eI ([fact])) <| 
  (f129 set0 ([fact])).bind fun o1 =>
  some o1 : Option (List Int))) rfl rfl (by decide) rfl ?_
 exact go
instance : Io0 cx 121 := ⟨rfl⟩
instance i76_0 {known : (List (List Int))} {set1 : (List Int)} {block : (List Int)} : Lp cx (f76_0 known set1 block) 27 L76_0 (fun (zs : Int) => [(0, .v (ssl (eL eI) known)), (1, .v (ssl eI set1)), (9, .v (ssl eI block)), (10, .v (iT (block.length : Int))), (11, .v (iT zs))]) (QO (QX 0 (fun (y : Unit) => [])) (QR (fun (y : Bool) => [(6, .v (.bool y))]))) := by
 refine Lp.of (f := (fun
 | x_1 =>
  if x_1 < (block.length : Int) then
  (ix block x_1).bind fun v_3 =>
  (f101 set1 v_3).bind fun o5 =>
  (jn (QN (fun (y : Bool) => [(0, .v (ssl (eL eI) known)), (1, .v (ssl eI set1)), (9, .v (ssl eI block)), (10, .v (iT (block.length : Int))), (11, .v (iT x_1)), (25, .v (.bool y))])) ((if o5 = true then
  some true
  else
  (f121 set1 v_3).bind fun o10 =>
  (f73 known o10).bind fun o12 =>
  some (decide (¬ (o12 = true)))) : Option (Bool))).bind fun x_7 =>
  if x_7 = true then
  some (.inr (.inr false))
  else
  some (.inl (w64 (x_1 + 1)))
  else
  some (.inr (.inl ())) : Int → Option (Int ⊕ (Unit ⊕ Bool)))) ?_
 exact go
instance i76 {known : (List (List Int))} {set1 : (List Int)} {block : (List Int)} : Rn cx (f76 known set1 block) 76 [(ssl (eL eI) known), (ssl eI set1), (ssl eI block)] (fun (r : Bool) => (.bool r)) (fun r => []) := by
 refine Rn.of rfl rfl (by decide) rfl ?_; unfold f76; exact go
instance : Io0 cx 76 := ⟨rfl⟩
end
end Go.Proofs.YtaanfdjhmhifiaaGreatH
