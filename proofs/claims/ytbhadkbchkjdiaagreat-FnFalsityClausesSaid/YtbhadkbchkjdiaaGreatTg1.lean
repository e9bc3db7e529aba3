import Derived.Test.YtbhadkbchkjdiaaGreatTg1c
set_option maxHeartbeats 2000000
set_option linter.unusedVariables false
set_option linter.unusedSimpArgs false
set_option linter.defProp false
set_option linter.unusedSectionVars false
set_option maxRecDepth 100000
namespace Go.Proofs.YtbhadkbchkjdiaaGreatH
open Go
noncomputable section
instance i10_1 {o26 : (List (List Int))} : Lp cx (f10_1 o26) 88 L10_1 (fun (zs : (List (List Int)) × Int) => [(5, .v (osl (eL eI) true zs.1)), (10, .v (osl (eL eI) false o26)), (11, .v (iT zs.2))]) (QX 4 (fun (y : (List (List Int))) => [(5, .v (osl (eL eI) true y))])) := by
 refine Lp.of (f := (fun
 | (out_28, i_29) =>
  if i_29 < (o26.length : Int) then
  sn 2 12 (osl eI true ([])) <| 
  (iter (lw out_28  (f10_3 o26 i_29)) ([], 0)).bind fun c_42 =>
  (app 24 out_28 ([c_42])).bind fun l_43 =>
  some (.inl (l_43, w64 (i_29 + 1)))
  else
  some (.inr out_28) : (List (List Int)) × Int → Option (((List (List Int)) × Int) ⊕ (List (List Int))))) ?_
 exact go
instance i10 {d : Database} {q : Query} : Rn cx (f10 d q) 10 [(.agg [(ssl eRelation d.Relations), (ssl eFact d.Facts)]), (.agg [(iT q.VariableCount), (ssl eAtom q.Atoms), (ssl eI q.Free)])] (fun (r : (List (List Int))) => (osl (eL eI) true r)) (fun r => []) := by
 refine Rn.of (e := (
  sn 5 5 (osl (eL eI) true ([])) <| 
  (f11 d q).bind fun o1 =>
  if ¬ (o1 = true) then
  some ([])
  else
  (f35 d).bind fun o4 =>
  (iter (lw (d, q)  (f10_0 o4)) ([], 0)).bind fun out_25 =>
  (f24 d q).bind fun o26 =>
  (iter (f10_1 o26) (out_25, 0)).bind fun out_47 =>
  some out_47 : Option (List (List Int)))) rfl rfl (by decide) rfl ?_
 exact go
instance : Io0 cx 10 := ⟨rfl⟩
instance i18_0 {a : (List Int)} {b : (List Int)} : Lp cx (f18_0 a b) 26 L18_0 (fun (zs : Int) => [(0, .v (ssl eI a)), (1, .v (ssl eI b)), (5, .v (iT zs))]) (QO (QX 0 (fun (y : Unit) => [])) (QR (fun (y : Bool) => [(4, .v (.bool y))]))) := by
 refine Lp.of ?_; unfold f18_0; exact go
instance i18 {a : (List Int)} {b : (List Int)} : Rn cx (f18 a b) 18 [(ssl eI a), (ssl eI b)] (fun (r : Bool) => (.bool r)) (fun r => []) := by
 refine Rn.of rfl rfl (by decide) rfl ?_; unfold f18; exact go
instance : Io0 cx 18 := ⟨rfl⟩
instance i9_0 {a : (List (List Int))} {b : (List (List Int))} : Lp cx (f9_0 a b) 27 L9_0 (fun (zs : Int) => [(0, .v (ssl (eL eI) a)), (1, .v (ssl (eL eI) b)), (5, .v (iT zs))]) (QO (QX 0 (fun (y : Unit) => [])) (QR (fun (y : Bool) => [(4, .v (.bool y))]))) := by
 refine Lp.of ?_; unfold f9_0; exact go
instance i9 {a : (List (List Int))} {b : (List (List Int))} : Rn cx (f9 a b) 9 [(ssl (eL eI) a), (ssl (eL eI) b)] (fun (r : Bool) => (.bool r)) (fun r => []) := by
 refine Rn.of rfl rfl (by decide) rfl ?_; unfold f9; exact go
instance : Io0 cx 9 := ⟨rfl⟩
instance i13 {code : (List Int)} {i : Int} : Rn cx (f13 code i) 13 [(ssl eU code), (iT i)] (fun (r : Int) => (iT r)) (fun r => []) := by
 refine Rn.of rfl rfl (by decide) rfl ?_; unfold f13; exact go
instance : Io0 cx 13 := ⟨rfl⟩
instance i40_0 {o1 : (List (List Int))} : Lp cx (f40_0 o1) 24 L40_0 (fun (zs : (List Int) × Int) => [(3, .v (osl eI true zs.1)), (4, .v (osl (eL eI) true o1)), (5, .v (iT zs.2))]) (QX 0 (fun (y : (List Int)) => [(3, .v (osl eI true y))])) := by
 refine Lp.of ?_; unfold f40_0; exact go
instance i40 {d : Database} : Rn cx (f40 d) 40 [(.agg [(ssl eRelation d.Relations), (ssl eFact d.Facts)])] (fun (r : (List Int)) => (osl eI true r)) (fun r => []) := by
 refine Rn.of (e := (
  sn 4 3 (osl eI true ([])) <| 
  (f35 d).bind fun o1 =>
  (iter (f40_0 o1) ([], 0)).bind fun out_12 =>
  some out_12 : Option (List Int))) rfl rfl (by decide) rfl ?_
 exact go
instance : Io0 cx 40 := ⟨rfl⟩
instance i14_0 {o4 : (List Int)} : Lp cx (f14_0 o4) 24 L14_0 (fun (zs : Int × Int) => [(3, .v (iT zs.1)), (4, .v (osl eI true o4)), (5, .v (iT zs.2))]) (QX 0 (fun (y : Int) => [(3, .v (iT y))])) := by
 refine Lp.of ?_; unfold f14_0; exact go
instance i14 {d : Database} : Rn cx (f14 d) 14 [(.agg [(ssl eRelation d.Relations), (ssl eFact d.Facts)])] (fun (r : Int) => (iT r)) (fun r => []) := by
 refine Rn.of rfl rfl (by decide) rfl ?_; unfold f14; exact go
instance : Io0 cx 14 := ⟨rfl⟩
instance i12_0 {o6 : (List (List Int))} : Lp cx (f12_0 o6) 51 L12_0 (fun (zs : Int × (List Int) × Int) => [(1, .v (iT zs.1)), (6, .v (osl (eL eI) true o6)), (7, .v (osl eI true zs.2.1)), (8, .v (iT zs.2.2))]) (QX 0 (fun (y : (List Int)) => [(7, .v (osl eI true y))])) := by
 refine Lp.of ?_; unfold f12_0; exact go
instance i12 {d : Database} {k : Int} : Rn cx (f12 d k) 12 [(.agg [(ssl eRelation d.Relations), (ssl eFact d.Facts)]), (iT k)] (fun (r : (List Int) × Bool) => (.tup [(ssl eI r.1), (.bool r.2)])) (fun r => []) := by
 refine Rn.of (e := (
  (f14 d).bind fun o1 =>
  (f38 k 0 (w64 (o1 - 1))).bind fun o3 =>
  if ¬ (o3 = true) then
  sn 3 4 (osl eI true ([])) <| 
  some ([], false)
  else
  (f35 d).bind fun o6 =>
  sn 3 7 (osl eI true ([])) <| 
  (iter (f12_0 o6) (k, [], w64 ((o6.length : Int) - 1))).bind fun out_24 =>
  sn 1 49 (ssl eI out_24) <| 
  (f39 out_24).bind fun o25 =>
  some (o25, true) : Option ((List Int) × Bool))) rfl rfl (by decide) rfl ?_
 exact go
instance : Io0 cx 12 := ⟨rfl⟩
instance i77_0 {s0 : (List (List Int))} {g_f : Nat} {cp_f : List T} {f : (List Int) → Option Bool} [hp_f : ∀ x0, Rn cx (f x0) g_f ((ssl eI x0) :: cp_f) (fun o => (.bool o)) (fun _ => [])] [Io0 cx g_f] : Lp cx (f77_0 s0 f) 19 L77_0 (fun (zs : Int) => [(0, .v (ssl (eL eI) s0)), (1, .v (.fn g_f cp_f)), (7, .v (iT (s0.length : Int))), (8, .v (iT zs))]) (QO (QX 0 (fun (y : Unit) => [])) (QR (fun (y : Int) => [(4, .v (iT y))]))) := by
 refine Lp.of ?_; unfold f77_0; exact go
instance i77 {s0 : (List (List Int))} {g_f : Nat} {cp_f : List T} {f : (List Int) → Option Bool} [hp_f : ∀ x0, Rn cx (f x0) g_f ((ssl eI x0) :: cp_f) (fun o => (.bool o)) (fun _ => [])] [Io0 cx g_f] : Rn cx (f77 s0 f) 77 [(ssl (eL eI) s0), (.fn g_f cp_f)] (fun (r : Int) => (iT r)) (fun r => []) := by
 refine Rn.of rfl rfl (by decide) rfl ?_; unfold f77; exact go
instance : Io0 cx 77 := ⟨rfl⟩
instance i42 {s0 : (List (List Int))} {g_f : Nat} {cp_f : List T} {f : (List Int) → Option Bool} [hp_f : ∀ x0, Rn cx (f x0) g_f ((ssl eI x0) :: cp_f) (fun o => (.bool o)) (fun _ => [])] [Io0 cx g_f] : Rn cx (f42 s0 f) 42 [(ssl (eL eI) s0), (.fn g_f cp_f)] (fun (r : Bool) => (.bool r)) (fun r => []) := by
 refine Rn.of rfl rfl (by decide) rfl ?_; unfold f42; exact go
instance : Io0 cx 42 := ⟨rfl⟩
instance i115_0 {s0 : (List Int)} {v : Int} : Lp cx (f115_0 s0 v) 19 L115_0 (fun (zs : Int) => [(0, .v (ssl eI s0)), (1, .v (iT v)), (7, .v (iT (s0.length : Int))), (8, .v (iT zs))]) (QO (QX 0 (fun (y : Unit) => [])) (QR (fun (y : Int) => [(4, .v (iT y))]))) := by
 refine Lp.of ?_; unfold f115_0; exact go
instance i115 {s0 : (List Int)} {v : Int} : Rn cx (f115 s0 v) 115 [(ssl eI s0), (iT v)] (fun (r : Int) => (iT r)) (fun r => []) := by
 refine Rn.of rfl rfl (by decide) rfl ?_; unfold f115; exact go
instance : Io0 cx 115 := ⟨rfl⟩
instance i83 {s0 : (List Int)} {v : Int} : Rn cx (f83 s0 v) 83 [(ssl eI s0), (iT v)] (fun (r : Bool) => (.bool r)) (fun r => []) := by
 refine Rn.of rfl rfl (by decide) rfl ?_; unfold f83; exact go
instance : Io0 cx 83 := ⟨rfl⟩
instance i76_0 {n0 : Int} {clause : (List Int)} : Lp cx (f76_0 n0 clause) 40 L76_0 (fun (zs : Int) => [(0, .v (iT n0)), (1, .v (ssl eI clause)), (7, .v (ssl eI clause)), (8, .v (iT (clause.length : Int))), (9, .v (iT zs))]) (QO (QX 0 (fun (y : Unit) => [])) (QR (fun (y : Bool) => [(4, .v (.bool y))]))) := by
 refine Lp.of (f := (fun
 | x_1 =>
  if x_1 < (clause.length : Int) then
  (ix clause x_1).bind fun v_3 =>
  (jn (QN (fun (y : Bool) => [(0, .v (iT n0)), (1, .v (ssl eI clause)), (7, .v (ssl eI clause)), (8, .v (iT (clause.length : Int))), (9, .v (iT x_1)), (38, .v (.bool y))])) ((if v_3 = 0 then
  some true
  else
  (f74 v_3 (w64 (-n0)) n0).bind fun o8 =>
  (jn (QN (fun (y : Bool) => [(0, .v (iT n0)), (1, .v (ssl eI clause)), (7, .v (ssl eI clause)), (8, .v (iT (clause.length : Int))), (9, .v (iT x_1)), (38, .v (.bool y))])) ((if ¬ (o8 = true) then
  some true
  else
  (cutL clause 0 x_1).bind fun l_13 =>
  (f83 l_13 v_3).bind fun o15 =>
  (jn (QN (fun (y : Bool) => [(0, .v (iT n0)), (1, .v (ssl eI clause)), (7, .v (ssl eI clause)), (8, .v (iT (clause.length : Int))), (9, .v (iT x_1)), (38, .v (.bool y))])) ((if o15 = true then
  some true
  else
  (f83 l_13 (w64 (-v_3))).bind fun o20 =>
  some o20) : Option (Bool))).bind fun x_17 =>
  some x_17) : Option (Bool))).bind fun x_10 =>
  some x_10) : Option (Bool))).bind fun x_5 =>
  if x_5 = true then
  some (.inr (.inr false))
  else
  some (.inl (w64 (x_1 + 1)))
  else
  some (.inr (.inl ())) : Int → Option (Int ⊕ (Unit ⊕ Bool)))) ?_
 exact go
instance i76 {n0 : Int} {clause : (List Int)} : Rn cx (f76 n0 clause) 76 [(iT n0), (ssl eI clause)] (fun (r : Bool) => (.bool r)) (fun r => []) := by
 refine Rn.of rfl rfl (by decide) rfl ?_; unfold f76; exact go
instance : Io0 cx 76 := ⟨rfl⟩
instance i75 {clause : (List Int)} {c : Int} : Rn cx (f75 clause c) 75 [(ssl eI clause), (.ptr false [(iT c)])] (fun (r : Bool) => (.bool r)) (fun r => []) := by
 refine Rn.of rfl rfl (by decide) rfl ?_; unfold f75; exact go
instance : Io0 cx 75 := ⟨rfl⟩
instance i41 {n0 : Int} {clauses : (List (List Int))} : Rn cx (f41 n0 clauses) 41 [(iT n0), (ssl (eL eI) clauses)] (fun (r : Bool) => (.bool r)) (fun r => []) := by
 refine Rn.of (e := (
  (f74 n0 0 14).bind fun o1 =>
  (jn (QN (fun (y : Bool) => [(4, .v (.bool y))])) ((if o1 = true then
  (f42 clauses (fun x0 => f75 x0 n0)).bind fun o6 =>
  some (decide (¬ (o6 = true)))
  else
  some false) : Option (Bool))).bind fun x_3 =>
  some x_3 : Option Bool)) rfl rfl (by decide) rfl ?_
 exact go
instance : Io0 cx 41 := ⟨rfl⟩
instance i15 {n0 : Int} {clauses : (List (List Int))} : Rn cx (f15 n0 clauses) 15 [(iT n0), (ssl (eL eI) clauses)] (fun (r : Bool) => (.bool r)) (fun r => []) := by
 refine Rn.of (e := (
  (jn (QN (fun (y : Bool) => [(4, .v (.bool y))])) ((if (clauses.length : Int) ≤ 400 then
  (f41 n0 clauses).bind fun o4 =>
  some o4
  else
  some false) : Option (Bool))).bind fun x_1 =>
  some x_1 : Option Bool)) rfl rfl (by decide) rfl ?_
 exact go
instance : Io0 cx 15 := ⟨rfl⟩
instance i46 {model : (List Bool)} {x : Int} : Rn cx (f46 model x) 46 [(ssl eB model), (iT x)] (fun (r : Bool) => (.bool r)) (fun r => []) := by
 refine Rn.of (e := (
  if x > 0 then
  (jn (QN (fun (y : Bool) => [(4, .v (.bool y))])) ((if x ≤ (model.length : Int) then
  (ix model (w64 (x - 1))).bind fun v_5 =>
  some v_5
  else
  some false) : Option (Bool))).bind fun x_2 =>
  some x_2
  else
  (jn (QN (fun (y : Bool) => [(4, .v (.bool y))])) ((if x < 0 then
  (jn (QN (fun (y : Bool) => [(4, .v (.bool y))])) ((if x ≥ (w64 (-(model.length : Int))) then
  (ix model (w64 ((w64 (-x)) - 1))).bind fun v_13 =>
  some (decide (¬ (v_13 = true)))
  else
  some false) : Option (Bool))).bind fun x_10 =>
  some x_10
  else
  some false) : Option (Bool))).bind fun x_7 =>
  some x_7 : Option Bool)) rfl rfl (by decide) rfl ?_
 exact go
instance : Io0 cx 46 := ⟨rfl⟩
instance i45 {x : Int} {c : (List Bool)} : Rn cx (f45 x c) 45 [(iT x), (.ptr false [(ssl eB c)])] (fun (r : Bool) => (.bool r)) (fun r => []) := by
 refine Rn.of rfl rfl (by decide) rfl ?_; unfold f45; exact go
instance : Io0 cx 45 := ⟨rfl⟩
instance i43 {clause : (List Int)} {c : (List Bool)} : Rn cx (f43 clause c) 43 [(ssl eI clause), (.ptr false [(ssl eB c)])] (fun (r : Bool) => (.bool r)) (fun r => []) := by
 refine Rn.of rfl rfl (by decide) rfl ?_; unfold f43; exact go
instance : Io0 cx 43 := ⟨rfl⟩
instance i16 {clauses : (List (List Int))} {model : (List Bool)} : Rn cx (f16 clauses model) 16 [(ssl (eL eI) clauses), (ssl eB model)] (fun (r : Bool) => (.bool r)) (fun r => []) := by
 refine Rn.of rfl rfl (by decide) rfl ?_; unfold f16; exact go
instance : Io0 cx 16 := ⟨rfl⟩
instance i17 {d : Database} {l : (List Int)} {q : Query} : Rn cx (f17 d l q) 17 [(.agg [(ssl eRelation d.Relations), (ssl eFact d.Facts)]), (ssl eI l), (.agg [(iT q.VariableCount), (ssl eAtom q.Atoms), (ssl eI q.Free)])] (fun (r : Bool) => (.bool r)) (fun r => []) := by
 refine Rn.of (e := (
  (f47 d l).bind fun o1 =>
  (jn (QN (fun (y : Bool) => [(6, .v (.bool y))])) ((if o1.2 = true then
  (f48 o1.1 q).bind fun o6 =>
  some (decide ((o6.length : Int) > 0))
  else
  some false) : Option (Bool))).bind fun x_3 =>
  some x_3 : Option Bool)) rfl rfl (by decide) rfl ?_
 exact go
instance : Io0 cx 17 := ⟨rfl⟩
instance i19_0 {model : (List Bool)} : Lp cx (f19_0 model) 21 L19_0 (fun (zs : (List Int) × Int) => [(3, .v (osl eI true zs.1)), (7, .v (ssl eB model)), (8, .v (iT (model.length : Int))), (9, .v (iT zs.2))]) (QX 0 (fun (y : (List Int)) => [(3, .v (osl eI true y))])) := by
 refine Lp.of (f := (fun
 | (out_1, x_2) =>
  if x_2 < (model.length : Int) then
  (ix model x_2).bind fun v_4 =>
  (jn (QN (fun (y : (List Int)) => [(3, .v (osl eI true y)), (7, .v (ssl eB model)), (8, .v (iT (model.length : Int))), (9, .v (iT x_2))])) ((if v_4 = true then
  (app 8 out_1 ([x_2])).bind fun l_9 =>
  some l_9
  else
  some out_1) : Option (List Int))).bind fun out_11 =>
  some (.inl (out_11, w64 (x_2 + 1)))
  else
  some (.inr out_1) : (List Int) × Int → Option (((List Int) × Int) ⊕ (List Int)))) ?_
 exact go
instance i19 {model : (List Bool)} : Rn cx (f19 model) 19 [(ssl eB model)] (fun (r : (List Int)) => (osl eI true r)) (fun r => []) := by
 refine Rn.of (e := (
  sn 3 3 (osl eI true ([])) <| 
  (iter (f19_0 model) ([], 0)).bind fun out_14 =>
  some out_14 : Option (List Int))) rfl rfl (by decide) rfl ?_
 exact go
instance : Io0 cx 19 := ⟨rfl⟩
instance i3_0 {o4 : (Database × Query)} {o6 : Query} {o8 : (List (List Int))} {o24 : ((List Int) × Bool)} : Lp cx (lw (o4, o6, o8) (f3_0 o24)) 84 L3_0 (fun (zs : (List Bool) × Int) => [(3, .v (.ptr true [(ssl eRelation o4.1.Relations), (ssl eFact o4.1.Facts)])), (5, .v (.ptr true [(iT o6.VariableCount), (ssl eAtom o6.Atoms), (ssl eI o6.Free)])), (6, .v (osl (eL eI) true o8)), (7, .v (ssl eI o24.1)), (9, .v (osl eB true zs.1)), (10, .v (iT zs.2))]) (QX 0 (fun (y : (List Bool)) => [(3, .v (.ptr true [(ssl eRelation o4.1.Relations), (ssl eFact o4.1.Facts)])), (5, .v (.ptr true [(iT o6.VariableCount), (ssl eAtom o6.Atoms), (ssl eI o6.Free)])), (6, .v (osl (eL eI) true o8)), (7, .v (ssl eI o24.1)), (9, .v (osl eB true y))])) := by
 refine Lp.of ?_; unfold lw f3_0; exact go
instance i3 {code : (List Int)} : Rn cx (f3 code) 3 [(ssl eU code)] (fun (r : Bool) => (.bool r)) (fun r => []) := by
 refine Rn.of (e := (
  (f5 code).bind fun o1 =>
  if o1 = true then
  some true
  else
  (f6 code).bind fun o4 =>
  sn 7 4 (.ptr false [(iT o4.2.VariableCount), (ssl eAtom o4.2.Atoms), (ssl eI o4.2.Free)]) <| 
  (f7 o4.2).bind fun o6 =>
  (f8 o4.1 o6).bind fun o8 =>
  (f10 o4.1 o6).bind fun o10 =>
  (f9 o8 o10).bind fun o12 =>
  if ¬ (o12 = true) then
  some false
  else
  (f11 o4.1 o6).bind fun o15 =>
  if ¬ (o15 = true) then
  some (decide ((o8.length : Int) = 0))
  else
  (f13 code 0).bind fun o18 =>
  (f14 o4.1).bind fun o20 =>
  (nz o20).bind fun z_22 =>
  (f12 o4.1 (o18.tmod o20)).bind fun o24 =>
  (mkl 1 (o4.1.Facts.length : Int) false).bind fun l_26 =>
  sn 10 9 (osl eB true l_26) <| 
  (iter (lw (o4, o6, o8)  (f3_0 o24)) (l_26, 0)).bind fun m_38 =>
  (f15 (o4.1.Facts.length : Int) o8).bind fun o39 =>
  (jn (QN (fun (y : Bool) => [(2, .v (.bool y))])) ((if o39 = true then
  (f16 o8 m_38).bind fun o44 =>
  (f17 o4.1 o24.1 o6).bind fun o46 =>
  (jn (QN (fun (y : Bool) => [(2, .v (.bool y))])) ((if (o44 == (decide (¬ (o46 = true)))) = true then
  (f19 m_38).bind fun o51 =>
  (f18 o51 o24.1).bind fun o53 =>
  some o53
  else
  some false) : Option (Bool))).bind fun x_48 =>
  some x_48
  else
  some false) : Option (Bool))).bind fun x_41 =>
  some x_41 : Option Bool)) rfl rfl (by decide) rfl ?_
 exact go
instance : Io0 cx 3 := ⟨rfl⟩
end
end Go.Proofs.YtbhadkbchkjdiaaGreatH
