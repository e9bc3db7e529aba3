import Derived.Test.YtcllfkplpdppiaaTg1b
set_option maxHeartbeats 2000000
set_option linter.unusedVariables false
set_option linter.unusedSimpArgs false
set_option linter.defProp false
set_option linter.unusedSectionVars false
set_option maxRecDepth 100000
namespace Go.Proofs.YtcllfkplpdppiaaH
open Go
noncomputable section
instance i88_3 {a : Int} {data_54 : (List Int)} {j_56 : Int} : Lp cx (f88_3 a data_54 j_56) 168 L88_3 (fun (zs : Int) => [(0, .v (osl eI true data_54)), (1, .v (iT a)), (10, .v (iT zs)), (11, .v (iT j_56))]) (QX 6 (fun (y : Int) => [(0, .v (osl eI true data_54)), (1, .v (iT a)), (10, .v (iT y)), (11, .v (iT j_56))])) := by
 refine Lp.of (f := (fun
 | i_57 =>
  (jn (QN (fun (y : Bool) => [(0, .v (osl eI true data_54)), (1, .v (iT a)), (10, .v (iT i_57)), (11, .v (iT j_56)), (112, .v (.bool y))])) ((if i_57 ≤ j_56 then
  (ix data_54 i_57).bind fun v_61 =>
  (ix data_54 a).bind fun v_63 =>
  (f86 v_61 v_63).bind fun o65 =>
  some o65
  else
  some false) : Option (Bool))).bind fun x_58 =>
  if x_58 = true then
  some (.inl (w64 (i_57 + 1)))
  else
  some (.inr i_57) : Int → Option (Int ⊕ Int))) ?_
 exact go
instance i88_4 {a : Int} {data_54 : (List Int)} {i_70 : Int} : Lp cx (f88_4 a data_54 i_70) 168 L88_4 (fun (zs : Int) => [(0, .v (osl eI true data_54)), (1, .v (iT a)), (10, .v (iT i_70)), (11, .v (iT zs))]) (QX 8 (fun (y : Int) => [(0, .v (osl eI true data_54)), (1, .v (iT a)), (10, .v (iT i_70)), (11, .v (iT y))])) := by
 refine Lp.of (f := (fun
 | j_71 =>
  (jn (QN (fun (y : Bool) => [(0, .v (osl eI true data_54)), (1, .v (iT a)), (10, .v (iT i_70)), (11, .v (iT j_71)), (129, .v (.bool y))])) ((if i_70 ≤ j_71 then
  (ix data_54 j_71).bind fun v_75 =>
  (ix data_54 a).bind fun v_77 =>
  (f86 v_75 v_77).bind fun o79 =>
  some (decide (¬ (o79 = true)))
  else
  some false) : Option (Bool))).bind fun x_72 =>
  if x_72 = true then
  some (.inl (w64 (j_71 - 1)))
  else
  some (.inr j_71) : Int → Option (Int ⊕ Int))) ?_
 exact go
instance i88_2 {a : Int} : Lp cx (f88_2 a) 168 L88_2 (fun (zs : (List Int) × Int × Int) => [(0, .v (osl eI true zs.1)), (1, .v (iT a)), (10, .v (iT zs.2.1)), (11, .v (iT zs.2.2))]) (QX 4 (fun (y : (List Int) × Int) => [(0, .v (osl eI true y.1)), (1, .v (iT a)), (11, .v (iT y.2))])) := by
 refine Lp.of ?_; unfold f88_2; exact go
instance i88 {data : (List Int)} {a : Int} {b : Int} {pivot : Int} : Rn cx (f88 data a b pivot) 88 [(osl eI true data), (iT a), (iT b), (iT pivot)] (fun (r : Int × Bool × (List Int)) => (.tup [(iT r.1), (.bool r.2.1)])) (fun r => [(osl eI true r.2.2)]) := by
 refine Rn.of rfl rfl (by decide) rfl ?_; unfold f88; exact go
instance i73_0 {rec : (List Int) → Int → Int → Int → Option (List Int)} [hrec : ∀ data a b limit, Rn cx (rec data a b limit) 73 [(osl eI true data), (iT a), (iT b), (iT limit)] (fun o => (.tup [])) (fun o => [(osl eI true o)])] : Lp cx (f73_0 rec) 134 L73_0 (fun (zs : (List Int) × Int × Int × Int × Bool × Bool) => [(0, .v (osl eI true zs.1)), (1, .v (iT zs.2.1)), (2, .v (iT zs.2.2.1)), (3, .v (iT zs.2.2.2.1)), (8, .v (.bool zs.2.2.2.2.1)), (9, .v (.bool zs.2.2.2.2.2))]) (QR (fun (y : (List Int)) => [(0, .v (osl eI true y))])) := by
 refine Lp.of (f := (fun
 | (data_1, a_2, b_3, limit_4, wasBalanced_5, wasPartitioned_6) =>
  (jb 1 (QO (QN (fun (y : (List Int) × Int × Int × Int × Bool × Bool) => [(0, .v (osl eI true y.1)), (1, .v (iT y.2.1)), (2, .v (iT y.2.2.1)), (3, .v (iT y.2.2.2.1)), (8, .v (.bool y.2.2.2.2.1)), (9, .v (.bool y.2.2.2.2.2))])) (QR (fun (y : (List Int)) => [(0, .v (osl eI true y))]))) ((if (w64 (b_3 - a_2)) ≤ 12 then
  (f80 data_1 a_2 b_3).bind fun o10 =>
  some (.inr o10)
  else
  if limit_4 = 0 then
  (f81 data_1 a_2 b_3).bind fun o13 =>
  some (.inr o13)
  else
  (jn (QN (fun (y : (List Int) × Int) => [(0, .v (osl eI true y.1)), (1, .v (iT a_2)), (2, .v (iT b_3)), (3, .v (iT y.2)), (8, .v (.bool wasBalanced_5)), (9, .v (.bool wasPartitioned_6)), (10, .v (iT (w64 (b_3 - a_2))))])) ((if ¬ (wasBalanced_5 = true) then
  (f82 data_1 a_2 b_3).bind fun o18 =>
  some (o18, w64 (limit_4 - 1))
  else
  some (data_1, limit_4)) : Option ((List Int) × Int))).bind fun (data_20, limit_21) =>
  (f83 data_20 a_2 b_3).bind fun o22 =>
  (jn (QN (fun (y : (List Int) × Int × Int) => [(0, .v (osl eI true y.1)), (1, .v (iT a_2)), (2, .v (iT b_3)), (3, .v (iT limit_21)), (8, .v (.bool wasBalanced_5)), (9, .v (.bool wasPartitioned_6)), (10, .v (iT (w64 (b_3 - a_2)))), (11, .v (iT y.2.1)), (12, .v (iT y.2.2))])) ((if o22.2 = 2 then
  (f84 data_20 a_2 b_3).bind fun o27 =>
  some (o27, w64 ((w64 (b_3 - 1)) - (w64 (o22.1 - a_2))), 1)
  else
  some (data_20, o22.1, o22.2)) : Option ((List Int) × Int × Int))).bind fun (data_29, pivot_30, hint_31) =>
  (jn (QN (fun (y : Bool) => [(0, .v (osl eI true data_29)), (1, .v (iT a_2)), (2, .v (iT b_3)), (3, .v (iT limit_21)), (8, .v (.bool wasBalanced_5)), (9, .v (.bool wasPartitioned_6)), (10, .v (iT (w64 (b_3 - a_2)))), (11, .v (iT pivot_30)), (68, .v (.bool y))])) ((if wasBalanced_5 = true then
  (jn (QN (fun (y : Bool) => [(0, .v (osl eI true data_29)), (1, .v (iT a_2)), (2, .v (iT b_3)), (3, .v (iT limit_21)), (8, .v (.bool wasBalanced_5)), (9, .v (.bool wasPartitioned_6)), (10, .v (iT (w64 (b_3 - a_2)))), (11, .v (iT pivot_30)), (68, .v (.bool y))])) ((if wasPartitioned_6 = true then
  some (decide (hint_31 = 1))
  else
  some false) : Option (Bool))).bind fun x_35 =>
  some x_35
  else
  some false) : Option (Bool))).bind fun x_32 =>
  (jn (QO (QN (fun (y : (List Int)) => [(0, .v (osl eI true y)), (1, .v (iT a_2)), (2, .v (iT b_3)), (3, .v (iT limit_21)), (8, .v (.bool wasBalanced_5)), (9, .v (.bool wasPartitioned_6)), (10, .v (iT (w64 (b_3 - a_2)))), (11, .v (iT pivot_30))])) (QR (fun (y : (List Int)) => [(0, .v (osl eI true y))]))) ((if x_32 = true then
  (f85 data_29 a_2 b_3).bind fun o41 =>
  if o41.1 = true then
  some (.inr o41.2)
  else
  some (.inl o41.2)
  else
  some (.inl data_29)) : Option ((List Int) ⊕ (List Int)))).bind fun o => match o with
  | .inl data_44 =>
  (jn (QN (fun (y : Bool) => [(0, .v (osl eI true data_44)), (1, .v (iT a_2)), (2, .v (iT b_3)), (3, .v (iT limit_21)), (8, .v (.bool wasBalanced_5)), (9, .v (.bool wasPartitioned_6)), (10, .v (iT (w64 (b_3 - a_2)))), (11, .v (iT pivot_30)), (87, .v (.bool y))])) ((if a_2 > 0 then
  (ix data_44 (w64 (a_2 - 1))).bind fun v_49 =>
  (ix data_44 pivot_30).bind fun v_51 =>
  (f86 v_49 v_51).bind fun o53 =>
  some (decide (¬ (o53 = true)))
  else
  some false) : Option (Bool))).bind fun x_46 =>
  if x_46 = true then
  (f87 data_44 a_2 b_3 pivot_30).bind fun o56 =>
  some (.inl (o56.2, o56.1, b_3, limit_21, wasBalanced_5, wasPartitioned_6))
  else
  (f88 data_44 a_2 b_3 pivot_30).bind fun o58 =>
  (jn (QN (fun (y : (List Int) × Int × Int × Bool) => [(0, .v (osl eI true y.1)), (1, .v (iT y.2.1)), (2, .v (iT y.2.2.1)), (3, .v (iT limit_21)), (8, .v (.bool y.2.2.2)), (9, .v (.bool o58.2.1))])) ((if (w64 (o58.1 - a_2)) < (w64 (b_3 - o58.1)) then
  (rec o58.2.2 a_2 o58.1 limit_21).bind fun o63 =>
  some (o63, w64 (o58.1 + 1), b_3, (decide ((w64 (o58.1 - a_2)) ≥ (w64 ((w64 (b_3 - a_2)).tdiv 8)))))
  else
  (rec o58.2.2 (w64 (o58.1 + 1)) b_3 limit_21).bind fun o65 =>
  some (o65, a_2, o58.1, (decide ((w64 (b_3 - o58.1)) ≥ (w64 ((w64 (b_3 - a_2)).tdiv 8)))))) : Option ((List Int) × Int × Int × Bool))).bind fun (data_67, a_68, b_69, wasBalanced_70) =>
  some (.inl (data_67, a_68, b_69, limit_21, wasBalanced_70, o58.2.1))
  | .inr data_45 =>
  some (.inr data_45)) : Option (((List Int) × Int × Int × Int × Bool × Bool) ⊕ (List Int)))).bind fun o => match o with
  | .inl (data_71, a_72, b_73, limit_74, wasBalanced_75, wasPartitioned_76) =>
  some (.inl (data_71, a_72, b_73, limit_74, wasBalanced_75, wasPartitioned_76))
  | .inr data_77 =>
  some (.inr data_77) : (List Int) × Int × Int × Int × Bool × Bool → Option (((List Int) × Int × Int × Int × Bool × Bool) ⊕ (List Int)))) ?_
 exact go
instance i73 : ∀ (n : Nat) data a b limit, Rn cx (f73 n data a b limit) 73 [(osl eI true data), (iT a), (iT b), (iT limit)] (fun (r : (List Int)) => (.tup [])) (fun r => [(osl eI true r)]) := by
 intro n
 induction n with
 | zero => intro data a b limit; exact ⟨fun r h => by simp [f73] at h⟩
 | succ n ih =>
  intro data a b limit
  refine Rn.of rfl rfl (by decide) rfl ?_
  simp only [f73]
  exact go
instance i63 {x : (List Int)} : Rn cx (f63 x) 63 [(osl eI true x)] (fun (r : (List Int)) => (.tup [])) (fun r => [(osl eI true r)]) := by
 refine Rn.of rfl rfl (by decide) rfl ?_; unfold f63; exact go
theorem r64 {l r : List Int} (h : f64 l = some r) : VJx cx (.ca 64 [osl eI true l] (ssl eI r) [.und]) := by
 exact ca_compact (X := noExt) (fun _ _ _ _ h => h) rfl rfl h
instance i64 {l : List Int} : Rn cx (f64 l) 64 [osl eI true l] (fun r => ssl eI r) (fun _ => [.und]) := ⟨fun _ h => r64 h⟩
instance i50 {a : (List Int)} {b : (List Int)} : Rn cx (f50 a b) 50 [(ssl eI a), (ssl eI b)] (fun (r : (List Int)) => (ssl eI r)) (fun r => []) := by
 refine Rn.of (e := (
  sn 4 8 (osl (eL eI) false ([a, b])) <| 
  (f57 ([a, b])).bind fun o1 =>
  (f63 o1).bind fun o3 =>
  (f64 o3).bind fun o5 =>
  some o5 : Option (List Int))) rfl rfl (by decide) rfl ?_
 exact go
instance : Io0 cx 50 := ⟨rfl⟩
instance i51_0 {atom : Atom} : Lp cx (f51_0 atom) 23 L51_0 (fun (zs : (List Int) × Int) => [(1, .v (.ptr true [(iT atom.Relation), (ssl eI atom.Terms)])), (3, .v (osl eI true zs.1)), (8, .v (ssl eI atom.Terms)), (9, .v (iT (atom.Terms.length : Int))), (10, .v (iT zs.2))]) (QX 0 (fun (y : (List Int)) => [(3, .v (osl eI true y))])) := by
 refine Lp.of (f := (fun
 | (out_1, x_2) =>
  if x_2 < (atom.Terms.length : Int) then
  (ix atom.Terms x_2).bind fun v_4 =>
  (f26 v_4 0 3).bind fun o6 =>
  (jn (QN (fun (y : (List Int)) => [(1, .v (.ptr true [(iT atom.Relation), (ssl eI atom.Terms)])), (3, .v (osl eI true y)), (8, .v (ssl eI atom.Terms)), (9, .v (iT (atom.Terms.length : Int))), (10, .v (iT x_2))])) ((if o6 = true then
  (app 8 out_1 ([v_4])).bind fun l_11 =>
  some l_11
  else
  some out_1) : Option (List Int))).bind fun out_13 =>
  some (.inl (out_13, w64 (x_2 + 1)))
  else
  some (.inr out_1) : (List Int) × Int → Option (((List Int) × Int) ⊕ (List Int)))) ?_
 exact go
instance i51 {atom : Atom} : Rn cx (f51 atom) 51 [(.agg [(iT atom.Relation), (ssl eI atom.Terms)])] (fun (r : (List Int)) => (ssl eI r)) (fun r => []) := by
 refine Rn.of (e := (
  sn 4 3 (osl eI true ([])) <| 
  (iter (f51_0 atom) ([], 0)).bind fun out_16 =>
  sn 1 21 (ssl eI out_16) <| 
  (f50 out_16 ([] : (List Int))).bind fun o17 =>
  some o17 : Option (List Int))) rfl rfl (by decide) rfl ?_
 exact go
instance : Io0 cx 51 := ⟨rfl⟩
instance i25_1 {relations : (List Relation)} {query : Query} {occurring_19 : (List Int)} {x_20 : Int} {v_22 : Atom} : Lp cx (lw (relations, occurring_19, x_20) (f25_1 query v_22)) 94 L25_1 (fun (zs : Int) => [(0, .v (ssl eRelation relations)), (3, .v (.ptr true [(iT query.VariableCount), (ssl eAtom query.Atoms), (ssl eI query.Free)])), (5, .v (ssl eI occurring_19)), (7, .v (.ptr true [(iT v_22.Relation), (ssl eI v_22.Terms)])), (36, .v (ssl eAtom query.Atoms)), (37, .v (iT (query.Atoms.length : Int))), (38, .v (iT x_20)), (71, .v (ssl eI v_22.Terms)), (72, .v (iT (v_22.Terms.length : Int))), (73, .v (iT zs))]) (QO (QX 2 (fun (y : Unit) => [(0, .v (ssl eRelation relations)), (3, .v (.ptr true [(iT query.VariableCount), (ssl eAtom query.Atoms), (ssl eI query.Free)])), (5, .v (ssl eI occurring_19)), (7, .v (.ptr true [(iT v_22.Relation), (ssl eI v_22.Terms)])), (36, .v (ssl eAtom query.Atoms)), (37, .v (iT (query.Atoms.length : Int))), (38, .v (iT x_20))])) (QR (fun (y : Bool) => [(4, .v (.bool y))]))) := by
 refine Lp.of ?_; unfold lw f25_1; exact go
instance i25_0 {relations : (List Relation)} {query : Query} : Lp cx (f25_0 relations query) 94 L25_0 (fun (zs : (List Int) × Int) => [(0, .v (ssl eRelation relations)), (3, .v (.ptr true [(iT query.VariableCount), (ssl eAtom query.Atoms), (ssl eI query.Free)])), (5, .v (ssl eI zs.1)), (36, .v (ssl eAtom query.Atoms)), (37, .v (iT (query.Atoms.length : Int))), (38, .v (iT zs.2))]) (QO (QX 0 (fun (y : (List Int)) => [(3, .v (.ptr true [(iT query.VariableCount), (ssl eAtom query.Atoms), (ssl eI query.Free)])), (5, .v (ssl eI y))])) (QR (fun (y : Bool) => [(4, .v (.bool y))]))) := by
 refine Lp.of (f := (fun
 | (occurring_19, x_20) =>
  if x_20 < (query.Atoms.length : Int) then
  (ix query.Atoms x_20).bind fun v_22 =>
  (f26 v_22.Relation 0 (w64 ((relations.length : Int) - 1))).bind fun o24 =>
  (jn (QN (fun (y : Bool) => [(0, .v (ssl eRelation relations)), (3, .v (.ptr true [(iT query.VariableCount), (ssl eAtom query.Atoms), (ssl eI query.Free)])), (5, .v (ssl eI occurring_19)), (7, .v (.ptr true [(iT v_22.Relation), (ssl eI v_22.Terms)])), (36, .v (ssl eAtom query.Atoms)), (37, .v (iT (query.Atoms.length : Int))), (38, .v (iT x_20)), (69, .v (.bool y))])) ((if ¬ (o24 = true) then
  some true
  else
  (ix relations v_22.Relation).bind fun v_29 =>
  (jn (QN (fun (y : Bool) => [(0, .v (ssl eRelation relations)), (3, .v (.ptr true [(iT query.VariableCount), (ssl eAtom query.Atoms), (ssl eI query.Free)])), (5, .v (ssl eI occurring_19)), (7, .v (.ptr true [(iT v_22.Relation), (ssl eI v_22.Terms)])), (36, .v (ssl eAtom query.Atoms)), (37, .v (iT (query.Atoms.length : Int))), (38, .v (iT x_20)), (69, .v (.bool y))])) ((if (v_22.Terms.length : Int) ≠ v_29.Arity then
  some true
  else
  (cutL query.Atoms 0 x_20).bind fun l_34 =>
  (f48 l_34 (fun x0 => f49 x0 v_22)).bind fun o36 =>
  some o36) : Option (Bool))).bind fun x_31 =>
  some x_31) : Option (Bool))).bind fun x_26 =>
  if x_26 = true then
  some (.inr (.inr false))
  else
  (iter (lw (relations, occurring_19, x_20)  (f25_1 query v_22)) 0).bind fun o => match o with
  | .inl _ =>
  (f51 v_22).bind fun o49 =>
  (f50 occurring_19 o49).bind fun o51 =>
  some (.inl (o51, w64 (x_20 + 1)))
  | .inr x_48 =>
  some (.inr (.inr x_48))
  else
  some (.inr (.inl occurring_19)) : (List Int) × Int → Option (((List Int) × Int) ⊕ ((List Int) ⊕ Bool)))) ?_
 exact go
instance i25 {relations : (List Relation)} {query : Query} : Rn cx (f25 relations query) 25 [(ssl eRelation relations), (.agg [(iT query.VariableCount), (ssl eAtom query.Atoms), (ssl eI query.Free)])] (fun (r : Bool) => (.bool r)) (fun r => []) := by
 refine Rn.of (e := (
  (f46 relations).bind fun o1 =>
  (jn (QN (fun (y : Bool) => [(0, .v (ssl eRelation relations)), (3, .v (.ptr true [(iT query.VariableCount), (ssl eAtom query.Atoms), (ssl eI query.Free)])), (33, .v (.bool y))])) ((if ¬ (o1 = true) then
  some true
  else
  (f26 query.VariableCount 0 4).bind fun o6 =>
  (jn (QN (fun (y : Bool) => [(0, .v (ssl eRelation relations)), (3, .v (.ptr true [(iT query.VariableCount), (ssl eAtom query.Atoms), (ssl eI query.Free)])), (33, .v (.bool y))])) ((if ¬ (o6 = true) then
  some true
  else
  (f26 (query.Atoms.length : Int) 1 3).bind fun o11 =>
  (jn (QN (fun (y : Bool) => [(0, .v (ssl eRelation relations)), (3, .v (.ptr true [(iT query.VariableCount), (ssl eAtom query.Atoms), (ssl eI query.Free)])), (33, .v (.bool y))])) ((if ¬ (o11 = true) then
  some true
  else
  (f47 query.Free query.VariableCount).bind fun o16 =>
  some (decide (¬ (o16 = true)))) : Option (Bool))).bind fun x_13 =>
  some x_13) : Option (Bool))).bind fun x_8 =>
  some x_8) : Option (Bool))).bind fun x_3 =>
  if x_3 = true then
  some false
  else
  sn 2 5 (osl eI true ([])) <| 
  sn 0 5 (ssl eI ([])) <| 
  (iter (f25_0 relations query) ([], 0)).bind fun o => match o with
  | .inl occurring_55 =>
  some (decide ((occurring_55.length : Int) = query.VariableCount))
  | .inr x_56 =>
  some x_56 : Option Bool)) rfl rfl (by decide) rfl ?_
 exact go
instance : Io0 cx 25 := ⟨rfl⟩
instance i29 {relations : (List Relation)} {atom : Atom} : Rn cx (f29 relations atom) 29 [(ssl eRelation relations), (.agg [(iT atom.Relation), (ssl eI atom.Terms)])] (fun (r : (List Int)) => (ssl eI r)) (fun r => []) := by
 refine Rn.of (e := (
  (f26 atom.Relation 0 (w64 ((relations.length : Int) - 1))).bind fun o1 =>
  (jn (QN (fun (y : Bool) => [(0, .v (ssl eRelation relations)), (3, .v (.ptr true [(iT atom.Relation), (ssl eI atom.Terms)])), (24, .v (.bool y))])) ((if ¬ (o1 = true) then
  some true
  else
  (ix relations atom.Relation).bind fun v_6 =>
  (f26 v_6.KeyLength 0 (atom.Terms.length : Int)).bind fun o8 =>
  some (decide (¬ (o8 = true)))) : Option (Bool))).bind fun x_3 =>
  if x_3 = true then
  sn 1 4 (osl eI true ([])) <| 
  some ([])
  else
  (ix relations atom.Relation).bind fun v_11 =>
  (cutL atom.Terms 0 v_11.KeyLength).bind fun l_13 =>
  (f51 ({ Relation := 0, Terms := l_13 } : Atom)).bind fun o15 =>
  some o15 : Option (List Int))) rfl rfl (by decide) rfl ?_
 exact go
instance : Io0 cx 29 := ⟨rfl⟩
instance i76_0 {s0 : (List Int)} {g_f : Nat} {cp_f : List T} {f : Int → Option Bool} [hp_f : ∀ x0, Rn cx (f x0) g_f ((iT x0) :: cp_f) (fun o => (.bool o)) (fun _ => [])] [Io0 cx g_f] : Lp cx (f76_0 s0 f) 19 L76_0 (fun (zs : Int) => [(0, .v (ssl eI s0)), (1, .v (.fn g_f cp_f)), (7, .v (iT (s0.length : Int))), (8, .v (iT zs))]) (QO (QX 0 (fun (y : Unit) => [])) (QR (fun (y : Int) => [(4, .v (iT y))]))) := by
 refine Lp.of ?_; unfold f76_0; exact go
instance i76 {s0 : (List Int)} {g_f : Nat} {cp_f : List T} {f : Int → Option Bool} [hp_f : ∀ x0, Rn cx (f x0) g_f ((iT x0) :: cp_f) (fun o => (.bool o)) (fun _ => [])] [Io0 cx g_f] : Rn cx (f76 s0 f) 76 [(ssl eI s0), (.fn g_f cp_f)] (fun (r : Int) => (iT r)) (fun r => []) := by
 refine Rn.of rfl rfl (by decide) rfl ?_; unfold f76; exact go
instance : Io0 cx 76 := ⟨rfl⟩
instance i66 {s0 : (List Int)} {g_f : Nat} {cp_f : List T} {f : Int → Option Bool} [hp_f : ∀ x0, Rn cx (f x0) g_f ((iT x0) :: cp_f) (fun o => (.bool o)) (fun _ => [])] [Io0 cx g_f] : Rn cx (f66 s0 f) 66 [(ssl eI s0), (.fn g_f cp_f)] (fun (r : Bool) => (.bool r)) (fun r => []) := by
 refine Rn.of rfl rfl (by decide) rfl ?_; unfold f66; exact go
instance : Io0 cx 66 := ⟨rfl⟩
instance i75_0 {s0 : (List Int)} {v : Int} : Lp cx (f75_0 s0 v) 19 L75_0 (fun (zs : Int) => [(0, .v (ssl eI s0)), (1, .v (iT v)), (7, .v (iT (s0.length : Int))), (8, .v (iT zs))]) (QO (QX 0 (fun (y : Unit) => [])) (QR (fun (y : Int) => [(4, .v (iT y))]))) := by
 refine Lp.of ?_; unfold f75_0; exact go
instance i75 {s0 : (List Int)} {v : Int} : Rn cx (f75 s0 v) 75 [(ssl eI s0), (iT v)] (fun (r : Int) => (iT r)) (fun r => []) := by
 refine Rn.of rfl rfl (by decide) rfl ?_; unfold f75; exact go
instance : Io0 cx 75 := ⟨rfl⟩
instance i65 {s0 : (List Int)} {v : Int} : Rn cx (f65 s0 v) 65 [(ssl eI s0), (iT v)] (fun (r : Bool) => (.bool r)) (fun r => []) := by
 refine Rn.of rfl rfl (by decide) rfl ?_; unfold f65; exact go
instance : Io0 cx 65 := ⟨rfl⟩
instance i67 {n0 : Int} {c : (List Int)} : Rn cx (f67 n0 c) 67 [(iT n0), (.ptr false [(ssl eI c)])] (fun (r : Bool) => (.bool r)) (fun r => []) := by
 refine Rn.of rfl rfl (by decide) rfl ?_; unfold f67; exact go
instance : Io0 cx 67 := ⟨rfl⟩
instance i53 {a : (List Int)} {b : (List Int)} : Rn cx (f53 a b) 53 [(ssl eI a), (ssl eI b)] (fun (r : Bool) => (.bool r)) (fun r => []) := by
 refine Rn.of rfl rfl (by decide) rfl ?_; unfold f53; exact go
instance : Io0 cx 53 := ⟨rfl⟩
instance i56_1 {relations : (List Relation)} {atoms : (List Atom)} {skip : Int} {out_3 : (List Int)} : Lp cx (lw out_3 (f56_1 relations atoms skip)) 45 L56_1 (fun (zs : (List Int) × Int) => [(0, .v (ssl eRelation relations)), (1, .v (ssl eAtom atoms)), (2, .v (iT skip)), (9, .v (ssl eI out_3)), (10, .v (ssl eI zs.1)), (16, .v (ssl eAtom atoms)), (17, .v (iT (atoms.length : Int))), (18, .v (iT zs.2))]) (QX 2 (fun (y : (List Int)) => [(0, .v (ssl eRelation relations)), (1, .v (ssl eAtom atoms)), (2, .v (iT skip)), (9, .v (ssl eI out_3)), (10, .v (ssl eI y))])) := by
 refine Lp.of (f := (fun
 | (larger_4, x_5) =>
  if x_5 < (atoms.length : Int) then
  (ix atoms x_5).bind fun v_7 =>
  (jn (QN (fun (y : Bool) => [(0, .v (ssl eRelation relations)), (1, .v (ssl eAtom atoms)), (2, .v (iT skip)), (9, .v (ssl eI out_3)), (10, .v (ssl eI larger_4)), (12, .v (.ptr true [(iT v_7.Relation), (ssl eI v_7.Terms)])), (16, .v (ssl eAtom atoms)), (17, .v (iT (atoms.length : Int))), (18, .v (iT x_5)), (32, .v (.bool y))])) ((if x_5 ≠ skip then
  (f29 relations v_7).bind fun o12 =>
  (f53 o12 larger_4).bind fun o14 =>
  some o14
  else
  some false) : Option (Bool))).bind fun x_9 =>
  (jn (QN (fun (y : (List Int)) => [(0, .v (ssl eRelation relations)), (1, .v (ssl eAtom atoms)), (2, .v (iT skip)), (9, .v (ssl eI out_3)), (10, .v (ssl eI y)), (16, .v (ssl eAtom atoms)), (17, .v (iT (atoms.length : Int))), (18, .v (iT x_5))])) ((if x_9 = true then
  (f51 v_7).bind fun o19 =>
  (f50 larger_4 o19).bind fun o21 =>
  some o21
  else
  some larger_4) : Option (List Int))).bind fun larger_23 =>
  some (.inl (larger_23, w64 (x_5 + 1)))
  else
  some (.inr larger_4) : (List Int) × Int → Option (((List Int) × Int) ⊕ (List Int)))) ?_
 exact go
instance i56_0 {relations : (List Relation)} {atoms : (List Atom)} {skip : Int} : Lp cx (f56_0 relations atoms skip) 45 L56_0 (fun (zs : (List Int)) => [(0, .v (ssl eRelation relations)), (1, .v (ssl eAtom atoms)), (2, .v (iT skip)), (9, .v (ssl eI zs))]) (QR (fun (y : (List Int)) => [(8, .v (ssl eI y))])) := by
 refine Lp.of (f := (fun
 | out_3 =>
  (iter (lw out_3  (f56_1 relations atoms skip)) (out_3, 0)).bind fun larger_26 =>
  if (larger_26.length : Int) = (out_3.length : Int) then
  some (.inr out_3)
  else
  some (.inl larger_26) : (List Int) → Option ((List Int) ⊕ (List Int)))) ?_
 exact go
instance i56 {relations : (List Relation)} {atoms : (List Atom)} {skip : Int} {variables : (List Int)} : Rn cx (f56 relations atoms skip variables) 56 [(ssl eRelation relations), (ssl eAtom atoms), (iT skip), (ssl eI variables)] (fun (r : (List Int)) => (ssl eI r)) (fun r => []) := by
 refine Rn.of rfl rfl (by decide) rfl ?_; unfold f56; exact go
instance : Io0 cx 56 := ⟨rfl⟩
instance i52_0 {a : (List Int)} {b : (List Int)} : Lp cx (f52_0 a b) 25 L52_0 (fun (zs : (List Int) × Int) => [(1, .v (ssl eI b)), (5, .v (osl eI true zs.1)), (9, .v (ssl eI a)), (10, .v (iT (a.length : Int))), (11, .v (iT zs.2))]) (QX 0 (fun (y : (List Int)) => [(5, .v (osl eI true y))])) := by
 refine Lp.of (f := (fun
 | (out_1, x_2) =>
  if x_2 < (a.length : Int) then
  (ix a x_2).bind fun v_4 =>
  (f65 b v_4).bind fun o6 =>
  (jn (QN (fun (y : (List Int)) => [(1, .v (ssl eI b)), (5, .v (osl eI true y)), (9, .v (ssl eI a)), (10, .v (iT (a.length : Int))), (11, .v (iT x_2))])) ((if ¬ (o6 = true) then
  (app 8 out_1 ([v_4])).bind fun l_11 =>
  some l_11
  else
  some out_1) : Option (List Int))).bind fun out_13 =>
  some (.inl (out_13, w64 (x_2 + 1)))
  else
  some (.inr out_1) : (List Int) × Int → Option (((List Int) × Int) ⊕ (List Int)))) ?_
 exact go
instance i52 {a : (List Int)} {b : (List Int)} : Rn cx (f52 a b) 52 [(ssl eI a), (ssl eI b)] (fun (r : (List Int)) => (osl eI true r)) (fun r => []) := by
 refine Rn.of (e := (
  sn 3 5 (osl eI true ([])) <| 
  (iter (f52_0 a b) ([], 0)).bind fun out_16 =>
  some out_16 : Option (List Int))) rfl rfl (by decide) rfl ?_
 exact go
instance : Io0 cx 52 := ⟨rfl⟩
instance i35_1 {relations : (List Relation)} {atoms : (List Atom)} {o7 : (List Int)} {out_13 : (List Int)} : Lp cx (lw (relations, out_13) (f35_1 atoms o7)) 64 L35_1 (fun (zs : (List Int) × Int) => [(0, .v (ssl eRelation relations)), (1, .v (ssl eAtom atoms)), (9, .v (ssl eI o7)), (10, .v (ssl eI out_13)), (11, .v (ssl eI zs.1)), (36, .v (ssl eAtom atoms)), (37, .v (iT (atoms.length : Int))), (38, .v (iT zs.2))]) (QX 2 (fun (y : (List Int)) => [(0, .v (ssl eRelation relations)), (1, .v (ssl eAtom atoms)), (9, .v (ssl eI o7)), (10, .v (ssl eI out_13)), (11, .v (ssl eI y))])) := by
 refine Lp.of (f := (fun
 | (larger_14, x_15) =>
  if x_15 < (atoms.length : Int) then
  (ix atoms x_15).bind fun v_17 =>
  (f51 v_17).bind fun o19 =>
  (f52 o19 o7).bind fun o21 =>
  (f52 o21 larger_14).bind fun o23 =>
  (jn (QN (fun (y : (List Int)) => [(0, .v (ssl eRelation relations)), (1, .v (ssl eAtom atoms)), (9, .v (ssl eI o7)), (10, .v (ssl eI out_13)), (11, .v (ssl eI y)), (36, .v (ssl eAtom atoms)), (37, .v (iT (atoms.length : Int))), (38, .v (iT x_15))])) ((if (o23.length : Int) < (o21.length : Int) then
  sn 2 54 (ssl eI o21) <| 
  (f50 larger_14 o21).bind fun o28 =>
  some o28
  else
  some larger_14) : Option (List Int))).bind fun larger_30 =>
  some (.inl (larger_30, w64 (x_15 + 1)))
  else
  some (.inr larger_14) : (List Int) × Int → Option (((List Int) × Int) ⊕ (List Int)))) ?_
 exact go
instance i35_0 {relations : (List Relation)} {atoms : (List Atom)} {o7 : (List Int)} : Lp cx (lw relations (f35_0 atoms o7)) 64 L35_0 (fun (zs : (List Int)) => [(0, .v (ssl eRelation relations)), (1, .v (ssl eAtom atoms)), (9, .v (ssl eI o7)), (10, .v (ssl eI zs))]) (QR (fun (y : (List Int)) => [(0, .v (ssl eRelation relations)), (8, .v (ssl eI y))])) := by
 refine Lp.of (f := (fun
 | out_13 =>
  (iter (lw (relations, out_13)  (f35_1 atoms o7)) (out_13, 0)).bind fun larger_33 =>
  if (larger_33.length : Int) = (out_13.length : Int) then
  some (.inr out_13)
  else
  some (.inl larger_33) : (List Int) → Option ((List Int) ⊕ (List Int)))) ?_
 exact go
instance i35 {relations : (List Relation)} {atoms : (List Atom)} {free : (List Int)} {atom : Int} : Rn cx (f35 relations atoms free atom) 35 [(ssl eRelation relations), (ssl eAtom atoms), (ssl eI free), (iT atom)] (fun (r : (List Int)) => (ssl eI r)) (fun r => []) := by
 refine Rn.of (e := (
  (ix atoms atom).bind fun v_1 =>
  (f29 relations v_1).bind fun o3 =>
  sn 1 25 (osl (eL eI) false ([free, o3])) <| 
  (f57 ([free, o3])).bind fun o5 =>
  sn 0 26 (ssl eI o5) <| 
  (f56 relations atoms atom o5).bind fun o7 =>
  (f51 v_1).bind fun o9 =>
  (f52 o9 o7).bind fun o11 =>
  sn 1 10 (ssl eI o11) <| 
  (iter (lw relations  (f35_0 atoms o7)) o11).bind fun x_37 =>
  some x_37 : Option (List Int))) rfl rfl (by decide) rfl ?_
 exact go
instance : Io0 cx 35 := ⟨rfl⟩
instance i27 {relations : (List Relation)} {atoms : (List Atom)} {free : (List Int)} {from3 : Int} {to : Int} : Rn cx (f27 relations atoms free from3 to) 27 [(ssl eRelation relations), (ssl eAtom atoms), (ssl eI free), (iT from3), (iT to)] (fun (r : Bool) => (.bool r)) (fun r => []) := by
 refine Rn.of (e := (
  (ix atoms to).bind fun v_1 =>
  (f51 v_1).bind fun o3 =>
  (jn (QN (fun (y : Bool) => [(10, .v (.bool y))])) ((if from3 ≠ to then
  (f35 relations atoms free from3).bind fun o8 =>
  (f52 o3 o8).bind fun o10 =>
  some (decide ((o10.length : Int) < (o3.length : Int)))
  else
  some false) : Option (Bool))).bind fun x_5 =>
  some x_5 : Option Bool)) rfl rfl (by decide) rfl ?_
 exact go
instance : Io0 cx 27 := ⟨rfl⟩
instance i7 {relations : (List Relation)} {query : Query} {from2 : Int} {to : Int} : Rn cx (f7 relations query from2 to) 7 [(ssl eRelation relations), (.agg [(iT query.VariableCount), (ssl eAtom query.Atoms), (ssl eI query.Free)]), (iT from2), (iT to)] (fun (r : Bool) => (.bool r)) (fun r => []) := by
 refine Rn.of (e := (
  (f25 relations query).bind fun o1 =>
  (jn (QN (fun (y : Bool) => [(8, .v (.bool y))])) ((if o1 = true then
  (f26 from2 0 (w64 ((query.Atoms.length : Int) - 1))).bind fun o6 =>
  (jn (QN (fun (y : Bool) => [(8, .v (.bool y))])) ((if o6 = true then
  (f26 to 0 (w64 ((query.Atoms.length : Int) - 1))).bind fun o11 =>
  (jn (QN (fun (y : Bool) => [(8, .v (.bool y))])) ((if o11 = true then
  (f27 relations query.Atoms query.Free from2 to).bind fun o16 =>
  some o16
  else
  some false) : Option (Bool))).bind fun x_13 =>
  some x_13
  else
  some false) : Option (Bool))).bind fun x_8 =>
  some x_8
  else
  some false) : Option (Bool))).bind fun x_3 =>
  some x_3 : Option Bool)) rfl rfl (by decide) rfl ?_
 exact go
instance : Io0 cx 7 := ⟨rfl⟩
theorem r68 {s0 : (List Int)} {r : (List Int)} (h : f68 s0 = some r) : VJx cx (.ca 68 [(ssl eI s0)] (osl eI true r) []) := by
 unfold f68 at h
 refine ca_clone (X := noExt) (fun _ _ _ _ h => h) (fun _ _ _ _ h => h) rfl (by decide) rfl (cl_eq h) ?_
 refine Wc.start (V1 := [(0, .v (ssl eI s0))]) (by simp) ?_
 refine Wc.seq ?_
 obtain ⟨l_1, h2, h⟩ := bind_some h
 have gx2 := appT_arr2 (E := eI) (b := true) (b' := false) (y := false) h2 (by decide) (arr_sc rfl _)
 simp [-aI_app0, -aB_app0, -aS_app0, -aL_app0, -aLt_app1I, -aLf_app1I, -aLt_app10I, -aLf_app10I] at gx2
 refine Wc.evs (by conv => lhs; simp [-aI_app0, -aB_app0, -aS_app0, -aL_app0, -aI_app10, -aB_app10, -aS_app10, -aLt_app10I, -aLf_app10I, -aLt_app1I, -aLf_app1I, gx2]) ?_
 refine Wo.gh (vle_co (s := 2) (t1 := (osl eI true l_1)) rfl (by simp) (tle_own rfl) (by conv => lhs; simp)) ?_
 refine Wo.nil ?_
 refine Wc.ret (res_of (.inr rfl) ?_)
 cases h
 exact ⟨_, _, _, by conv => lhs; simp, by (conv => lhs; simp [cx, ioTab, List.range, List.range.loop]) <;> rfl, by first | rfl | simp [-aI_app0, -aB_app0, -aS_app0, -aL_app0, -aI_app10, -aB_app10, -aS_app10, -aLt_app10I, -aLf_app10I, -aLt_app1I, -aLf_app1I, gx2]⟩
instance i68 {s0 : (List Int)} : Rn cx (f68 s0) 68 [(ssl eI s0)] (fun (r : (List Int)) => (osl eI true r)) (fun r => []) := ⟨fun _ h => r68 h⟩
instance : Io0 cx 68 := ⟨rfl⟩
instance i54_0 {relations : (List Relation)} {query : Query} {skip : Int} {variables : (List Int)} : Lp cx (lw (relations, query, skip) (f54_0 variables)) 38 L54_0 (fun (zs : (List Int) × Int) => [(0, .v (ssl eRelation relations)), (2, .v (iT skip)), (5, .v (.ptr true [(iT query.VariableCount), (ssl eAtom query.Atoms), (ssl eI query.Free)])), (9, .v (osl eI true zs.1)), (19, .v (ssl eI variables)), (20, .v (iT (variables.length : Int))), (21, .v (iT zs.2))]) (QX 0 (fun (y : (List Int)) => [(0, .v (ssl eRelation relations)), (2, .v (iT skip)), (5, .v (.ptr true [(iT query.VariableCount), (ssl eAtom query.Atoms), (ssl eI query.Free)])), (9, .v (osl eI true y))])) := by
 refine Lp.of (f := (fun
 | (given_6, x_7) =>
  if x_7 < (variables.length : Int) then
  (ix variables x_7).bind fun v_9 =>
  (f26 v_9 0 3).bind fun o11 =>
  (jn (QN (fun (y : (List Int)) => [(0, .v (ssl eRelation relations)), (2, .v (iT skip)), (5, .v (.ptr true [(iT query.VariableCount), (ssl eAtom query.Atoms), (ssl eI query.Free)])), (9, .v (osl eI true y)), (19, .v (ssl eI variables)), (20, .v (iT (variables.length : Int))), (21, .v (iT x_7))])) ((if o11 = true then
  (app 8 given_6 ([v_9])).bind fun l_16 =>
  some l_16
  else
  some given_6) : Option (List Int))).bind fun given_18 =>
  some (.inl (given_18, w64 (x_7 + 1)))
  else
  some (.inr given_6) : (List Int) × Int → Option (((List Int) × Int) ⊕ (List Int)))) ?_
 exact go
instance i54 {relations : (List Relation)} {query : Query} {skip : Int} {variables : (List Int)} : Rn cx (f54 relations query skip variables) 54 [(ssl eRelation relations), (.agg [(iT query.VariableCount), (ssl eAtom query.Atoms), (ssl eI query.Free)]), (iT skip), (ssl eI variables)] (fun (r : (List Int)) => (ssl eI r)) (fun r => []) := by
 refine Rn.of (e := (
  (f25 relations query).bind fun o1 =>
  if ¬ (o1 = true) then
  sn 1 8 (osl eI true ([])) <| 
  some ([])
  else
  (f68 query.Free).bind fun o4 =>
  (iter (lw (relations, query, skip)  (f54_0 variables)) (o4, 0)).bind fun given_21 =>
  sn 5 36 (ssl eI given_21) <| 
  (f56 relations query.Atoms skip given_21).bind fun o22 =>
  some o22 : Option (List Int))) rfl rfl (by decide) rfl ?_
 exact go
instance : Io0 cx 54 := ⟨rfl⟩
instance i28 {relations : (List Relation)} {query : Query} {from2 : (List Int)} {to : (List Int)} : Rn cx (f28 relations query from2 to) 28 [(ssl eRelation relations), (.agg [(iT query.VariableCount), (ssl eAtom query.Atoms), (ssl eI query.Free)]), (ssl eI from2), (ssl eI to)] (fun (r : Bool) => (.bool r)) (fun r => []) := by
 refine Rn.of (e := (
  (f25 relations query).bind fun o1 =>
  (jn (QN (fun (y : Bool) => [(8, .v (.bool y))])) ((if o1 = true then
  (f54 relations query (-1) from2).bind fun o6 =>
  (f53 to o6).bind fun o8 =>
  some o8
  else
  some false) : Option (Bool))).bind fun x_3 =>
  some x_3 : Option Bool)) rfl rfl (by decide) rfl ?_
 exact go
instance : Io0 cx 28 := ⟨rfl⟩
instance i8 {relations : (List Relation)} {query : Query} {from2 : Int} {to : Int} : Rn cx (f8 relations query from2 to) 8 [(ssl eRelation relations), (.agg [(iT query.VariableCount), (ssl eAtom query.Atoms), (ssl eI query.Free)]), (iT from2), (iT to)] (fun (r : Bool) => (.bool r)) (fun r => []) := by
 refine Rn.of (e := (
  (f7 relations query from2 to).bind fun o1 =>
  (jn (QN (fun (y : Bool) => [(0, .v (ssl eRelation relations)), (8, .v (.bool y))])) ((if o1 = true then
  (ix query.Atoms from2).bind fun v_6 =>
  (ix query.Atoms to).bind fun v_8 =>
  (f29 relations v_6).bind fun o10 =>
  (f29 relations v_8).bind fun o12 =>
  (f28 relations query o10 o12).bind fun o14 =>
  some o14
  else
  some false) : Option (Bool))).bind fun x_3 =>
  some x_3 : Option Bool)) rfl rfl (by decide) rfl ?_
 exact go
instance : Io0 cx 8 := ⟨rfl⟩
instance i32_0 {l : (List Int)} {x : Int} : Lp cx (f32_0 l x) 18 L32_0 (fun (zs : Int) => [(0, .v (ssl eI l)), (1, .v (iT x)), (5, .v (iT zs))]) (QO (QX 0 (fun (y : Unit) => [])) (QR (fun (y : Bool) => [(4, .v (.bool y))]))) := by
 refine Lp.of ?_; unfold f32_0; exact go
instance i32 {l : (List Int)} {x : Int} : Rn cx (f32 l x) 32 [(ssl eI l), (iT x)] (fun (r : Bool) => (.bool r)) (fun r => []) := by
 refine Rn.of rfl rfl (by decide) rfl ?_; unfold f32; exact go
instance : Io0 cx 32 := ⟨rfl⟩
instance i31_0 {a : Atom} : Lp cx (f31_0 a) 19 L31_0 (fun (zs : (List Int) × Int) => [(1, .v (.ptr true [(iT a.Relation), (ssl eI a.Terms)])), (3, .v (osl eI true zs.1)), (4, .v (iT zs.2))]) (QX 0 (fun (y : (List Int)) => [(3, .v (osl eI true y))])) := by
 refine Lp.of (f := (fun
 | (out_1, v_2) =>
  if v_2 < 4 then
  (f32 a.Terms v_2).bind fun o4 =>
  (jn (QN (fun (y : (List Int)) => [(1, .v (.ptr true [(iT a.Relation), (ssl eI a.Terms)])), (3, .v (osl eI true y)), (4, .v (iT v_2))])) ((if o4 = true then
  (app 8 out_1 ([v_2])).bind fun l_9 =>
  some l_9
  else
  some out_1) : Option (List Int))).bind fun out_11 =>
  some (.inl (out_11, w64 (v_2 + 1)))
  else
  some (.inr out_1) : (List Int) × Int → Option (((List Int) × Int) ⊕ (List Int)))) ?_
 exact go
instance i31 {a : Atom} : Rn cx (f31 a) 31 [(.agg [(iT a.Relation), (ssl eI a.Terms)])] (fun (r : (List Int)) => (osl eI true r)) (fun r => []) := by
 refine Rn.of (e := (
  sn 4 3 (osl eI true ([])) <| 
  (iter (f31_0 a) ([], 0)).bind fun out_14 =>
  some out_14 : Option (List Int))) rfl rfl (by decide) rfl ?_
 exact go
instance : Io0 cx 31 := ⟨rfl⟩
instance i34 {l : (List Relation)} {a : Atom} : Rn cx (f34 l a) 34 [(ssl eRelation l), (.agg [(iT a.Relation), (ssl eI a.Terms)])] (fun (r : (List Int)) => (osl eI true r)) (fun r => []) := by
 refine Rn.of (e := (
  (f30 a.Relation 0 (w64 ((l.length : Int) - 1))).bind fun o1 =>
  (jn (QN (fun (y : Bool) => [(0, .v (ssl eRelation l)), (3, .v (.ptr true [(iT a.Relation), (ssl eI a.Terms)])), (24, .v (.bool y))])) ((if ¬ (o1 = true) then
  some true
  else
  (ix l a.Relation).bind fun v_6 =>
  (f30 v_6.KeyLength 0 (a.Terms.length : Int)).bind fun o8 =>
  some (decide (¬ (o8 = true)))) : Option (Bool))).bind fun x_3 =>
  if x_3 = true then
  sn 2 4 (osl eI true ([])) <| 
  some ([])
  else
  (ix l a.Relation).bind fun v_11 =>
  (cutL a.Terms 0 v_11.KeyLength).bind fun l_13 =>
  (f31 ({ Relation := 0, Terms := l_13 } : Atom)).bind fun o15 =>
  some o15 : Option (List Int))) rfl rfl (by decide) rfl ?_
 exact go
instance : Io0 cx 34 := ⟨rfl⟩
instance i37_0 {a : (List Int)} {b : (List Int)} : Lp cx (f37_0 a b) 25 L37_0 (fun (zs : (List Int) × Int) => [(0, .v (ssl eI a)), (1, .v (ssl eI b)), (5, .v (osl eI true zs.1)), (6, .v (iT zs.2))]) (QX 0 (fun (y : (List Int)) => [(5, .v (osl eI true y))])) := by
 refine Lp.of (f := (fun
 | (out_1, v_2) =>
  if v_2 < 4 then
  (f32 a v_2).bind fun o4 =>
  (jn (QN (fun (y : Bool) => [(0, .v (ssl eI a)), (1, .v (ssl eI b)), (5, .v (osl eI true out_1)), (6, .v (iT v_2)), (19, .v (.bool y))])) ((if o4 = true then
  some true
  else
  (f32 b v_2).bind fun o9 =>
  some o9) : Option (Bool))).bind fun x_6 =>
  (jn (QN (fun (y : (List Int)) => [(0, .v (ssl eI a)), (1, .v (ssl eI b)), (5, .v (osl eI true y)), (6, .v (iT v_2))])) ((if x_6 = true then
  (app 8 out_1 ([v_2])).bind fun l_14 =>
  some l_14
  else
  some out_1) : Option (List Int))).bind fun out_16 =>
  some (.inl (out_16, w64 (v_2 + 1)))
  else
  some (.inr out_1) : (List Int) × Int → Option (((List Int) × Int) ⊕ (List Int)))) ?_
 exact go
instance i37 {a : (List Int)} {b : (List Int)} : Rn cx (f37 a b) 37 [(ssl eI a), (ssl eI b)] (fun (r : (List Int)) => (osl eI true r)) (fun r => []) := by
 refine Rn.of (e := (
  sn 3 5 (osl eI true ([])) <| 
  (iter (f37_0 a b) ([], 0)).bind fun out_19 =>
  some out_19 : Option (List Int))) rfl rfl (by decide) rfl ?_
 exact go
instance : Io0 cx 37 := ⟨rfl⟩
instance i55_0 {l : (List Int)} {want : (List Int)} : Lp cx (f55_0 l want) 19 L55_0 (fun (zs : Int) => [(0, .v (ssl eI l)), (1, .v (ssl eI want)), (5, .v (iT zs))]) (QO (QX 0 (fun (y : Unit) => [])) (QR (fun (y : Bool) => [(4, .v (.bool y))]))) := by
 refine Lp.of ?_; unfold f55_0; exact go
instance i55 {l : (List Int)} {want : (List Int)} : Rn cx (f55 l want) 55 [(ssl eI l), (ssl eI want)] (fun (r : Bool) => (.bool r)) (fun r => []) := by
 refine Rn.of rfl rfl (by decide) rfl ?_; unfold f55; exact go
instance : Io0 cx 55 := ⟨rfl⟩
instance i36_1 {l : (List Relation)} {q : Query} {skip : Int} {n_7 : Int} : Lp cx (lw n_7 (f36_1 l q skip)) 58 L36_1 (fun (zs : (List Int) × Int) => [(0, .v (ssl eRelation l)), (2, .v (iT skip)), (5, .v (.ptr true [(iT q.VariableCount), (ssl eAtom q.Atoms), (ssl eI q.Free)])), (9, .v (osl eI true zs.1)), (10, .v (iT n_7)), (11, .v (iT zs.2))]) (QX 2 (fun (y : (List Int)) => [(0, .v (ssl eRelation l)), (2, .v (iT skip)), (5, .v (.ptr true [(iT q.VariableCount), (ssl eAtom q.Atoms), (ssl eI q.Free)])), (9, .v (osl eI true y)), (10, .v (iT n_7))])) := by
 refine Lp.of (f := (fun
 | (out_9, i_10) =>
  if i_10 < (q.Atoms.length : Int) then
  (jn (QN (fun (y : Bool) => [(0, .v (ssl eRelation l)), (2, .v (iT skip)), (5, .v (.ptr true [(iT q.VariableCount), (ssl eAtom q.Atoms), (ssl eI q.Free)])), (9, .v (osl eI true out_9)), (10, .v (iT n_7)), (11, .v (iT i_10)), (48, .v (.bool y))])) ((if i_10 ≠ skip then
  (ix q.Atoms i_10).bind fun v_15 =>
  (f34 l v_15).bind fun o17 =>
  (f55 out_9 o17).bind fun o19 =>
  some o19
  else
  some false) : Option (Bool))).bind fun x_12 =>
  (jn (QN (fun (y : (List Int)) => [(0, .v (ssl eRelation l)), (2, .v (iT skip)), (5, .v (.ptr true [(iT q.VariableCount), (ssl eAtom q.Atoms), (ssl eI q.Free)])), (9, .v (osl eI true y)), (10, .v (iT n_7)), (11, .v (iT i_10))])) ((if x_12 = true then
  (ix q.Atoms i_10).bind fun v_24 =>
  (f31 v_24).bind fun o26 =>
  (f37 out_9 o26).bind fun o28 =>
  some o28
  else
  some out_9) : Option (List Int))).bind fun out_30 =>
  some (.inl (out_30, w64 (i_10 + 1)))
  else
  some (.inr out_9) : (List Int) × Int → Option (((List Int) × Int) ⊕ (List Int)))) ?_
 exact go
instance i36_0 {l : (List Relation)} {q : Query} {skip : Int} : Lp cx (f36_0 l q skip) 58 L36_0 (fun (zs : (List Int) × Int) => [(0, .v (ssl eRelation l)), (2, .v (iT skip)), (5, .v (.ptr true [(iT q.VariableCount), (ssl eAtom q.Atoms), (ssl eI q.Free)])), (9, .v (osl eI true zs.1)), (10, .v (iT zs.2))]) (QX 0 (fun (y : (List Int)) => [(9, .v (osl eI true y))])) := by
 refine Lp.of (f := (fun
 | (out_6, n_7) =>
  if n_7 < (q.Atoms.length : Int) then
  (iter (lw n_7  (f36_1 l q skip)) (out_6, 0)).bind fun out_33 =>
  some (.inl (out_33, w64 (n_7 + 1)))
  else
  some (.inr out_6) : (List Int) × Int → Option (((List Int) × Int) ⊕ (List Int)))) ?_
 exact go
instance i36 {l : (List Relation)} {q : Query} {skip : Int} {vars : (List Int)} : Rn cx (f36 l q skip vars) 36 [(ssl eRelation l), (.agg [(iT q.VariableCount), (ssl eAtom q.Atoms), (ssl eI q.Free)]), (iT skip), (ssl eI vars)] (fun (r : (List Int)) => (osl eI true r)) (fun r => []) := by
 refine Rn.of (e := (
  (f19 l q).bind fun o1 =>
  if ¬ (o1 = true) then
  sn 2 8 (osl eI true ([])) <| 
  some ([])
  else
  (f37 vars q.Free).bind fun o4 =>
  (iter (f36_0 l q skip) (o4, 0)).bind fun out_36 =>
  some out_36 : Option (List Int))) rfl rfl (by decide) rfl ?_
 exact go
instance : Io0 cx 36 := ⟨rfl⟩
instance i12 {l : (List Relation)} {q : Query} {k : Int} : Rn cx (f12 l q k) 12 [(ssl eRelation l), (.agg [(iT q.VariableCount), (ssl eAtom q.Atoms), (ssl eI q.Free)]), (iT k)] (fun (r : (List Int)) => (osl eI true r)) (fun r => []) := by
 refine Rn.of (e := (
  (f19 l q).bind fun o1 =>
  (jn (QN (fun (y : Bool) => [(0, .v (ssl eRelation l)), (2, .v (iT k)), (4, .v (.ptr true [(iT q.VariableCount), (ssl eAtom q.Atoms), (ssl eI q.Free)])), (19, .v (.bool y))])) ((if ¬ (o1 = true) then
  some true
  else
  (f30 k 0 (w64 ((q.Atoms.length : Int) - 1))).bind fun o6 =>
  some (decide (¬ (o6 = true)))) : Option (Bool))).bind fun x_3 =>
  if x_3 = true then
  sn 2 6 (osl eI true ([])) <| 
  some ([])
  else
  (ix q.Atoms k).bind fun v_9 =>
  (f34 l v_9).bind fun o11 =>
  (f36 l q k o11).bind fun o13 =>
  some o13 : Option (List Int))) rfl rfl (by decide) rfl ?_
 exact go
instance : Io0 cx 12 := ⟨rfl⟩
instance i15_2 {q : Query} {k : Int} {o9 : (List Int)} {n_12 : Int} {out_14 : (List Int)} {i_15 : Int} {o19 : (List Int)} : Lp cx (lw (q, k, o9, n_12, i_15) (f15_2 out_14 o19)) 96 L15_2 (fun (zs : Bool × Int) => [(2, .v (iT k)), (4, .v (.ptr true [(iT q.VariableCount), (ssl eAtom q.Atoms), (ssl eI q.Free)])), (7, .v (osl eI true out_14)), (8, .v (osl eI true o9)), (9, .v (iT n_12)), (10, .v (iT i_15)), (11, .v (osl eI true o19)), (12, .v (.bool zs.1)), (13, .v (iT zs.2))]) (QX 4 (fun (y : Bool) => [(2, .v (iT k)), (4, .v (.ptr true [(iT q.VariableCount), (ssl eAtom q.Atoms), (ssl eI q.Free)])), (7, .v (osl eI true out_14)), (8, .v (osl eI true o9)), (9, .v (iT n_12)), (10, .v (iT i_15)), (11, .v (osl eI true o19)), (12, .v (.bool y))])) := by
 refine Lp.of (f := (fun
 | (met_21, j_22) =>
  if j_22 < (o19.length : Int) then
  (jn (QN (fun (y : Bool) => [(2, .v (iT k)), (4, .v (.ptr true [(iT q.VariableCount), (ssl eAtom q.Atoms), (ssl eI q.Free)])), (7, .v (osl eI true out_14)), (8, .v (osl eI true o9)), (9, .v (iT n_12)), (10, .v (iT i_15)), (11, .v (osl eI true o19)), (12, .v (.bool y)), (13, .v (iT j_22))])) ((if met_21 = true then
  some true
  else
  (ix o19 j_22).bind fun v_27 =>
  (f32 out_14 v_27).bind fun o29 =>
  some o29) : Option (Bool))).bind fun met_24 =>
  some (.inl (met_24, w64 (j_22 + 1)))
  else
  some (.inr met_21) : Bool × Int → Option ((Bool × Int) ⊕ Bool))) ?_
 exact go
instance i15_3 {q : Query} {k : Int} {o9 : (List Int)} {n_12 : Int} {i_15 : Int} {o19 : (List Int)} {met_33 : Bool} : Lp cx (lw (q, k, n_12, i_15) (f15_3 o9 o19 met_33)) 96 L15_3 (fun (zs : (List Int) × Int) => [(2, .v (iT k)), (4, .v (.ptr true [(iT q.VariableCount), (ssl eAtom q.Atoms), (ssl eI q.Free)])), (7, .v (osl eI true zs.1)), (8, .v (osl eI true o9)), (9, .v (iT n_12)), (10, .v (iT i_15)), (11, .v (osl eI true o19)), (12, .v (.bool met_33)), (14, .v (iT zs.2))]) (QX 6 (fun (y : (List Int)) => [(2, .v (iT k)), (4, .v (.ptr true [(iT q.VariableCount), (ssl eAtom q.Atoms), (ssl eI q.Free)])), (7, .v (osl eI true y)), (8, .v (osl eI true o9)), (9, .v (iT n_12)), (10, .v (iT i_15))])) := by
 refine Lp.of (f := (fun
 | (out_34, j_35) =>
  (jn (QN (fun (y : Bool) => [(2, .v (iT k)), (4, .v (.ptr true [(iT q.VariableCount), (ssl eAtom q.Atoms), (ssl eI q.Free)])), (7, .v (osl eI true out_34)), (8, .v (osl eI true o9)), (9, .v (iT n_12)), (10, .v (iT i_15)), (11, .v (osl eI true o19)), (12, .v (.bool met_33)), (14, .v (iT j_35)), (78, .v (.bool y))])) ((if j_35 < (o19.length : Int) then
  some met_33
  else
  some false) : Option (Bool))).bind fun x_36 =>
  if x_36 = true then
  (ix o19 j_35).bind fun v_40 =>
  (f32 o9 v_40).bind fun o42 =>
  (jn (QN (fun (y : (List Int)) => [(2, .v (iT k)), (4, .v (.ptr true [(iT q.VariableCount), (ssl eAtom q.Atoms), (ssl eI q.Free)])), (7, .v (osl eI true y)), (8, .v (osl eI true o9)), (9, .v (iT n_12)), (10, .v (iT i_15)), (11, .v (osl eI true o19)), (12, .v (.bool met_33)), (14, .v (iT j_35))])) ((if ¬ (o42 = true) then
  sn 6 93 (osl eI true ([v_40])) <| 
  (f37 out_34 ([v_40])).bind fun o47 =>
  some o47
  else
  some out_34) : Option (List Int))).bind fun out_49 =>
  some (.inl (out_49, w64 (j_35 + 1)))
  else
  some (.inr out_34) : (List Int) × Int → Option (((List Int) × Int) ⊕ (List Int)))) ?_
 exact go
end
end Go.Proofs.YtcllfkplpdppiaaH
