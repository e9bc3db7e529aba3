import Derived.Test.YtjfeimhiiomgoaaTg1a
set_option maxHeartbeats 2000000
set_option linter.unusedVariables false
set_option linter.unusedSimpArgs false
set_option linter.defProp false
set_option linter.unusedSectionVars false
set_option maxRecDepth 100000
namespace Go.Proofs.YtjfeimhiiomgoaaH
open Go
noncomputable section
variable {o1 : (Int × L1Cur)} {slices : (List (List (List Int)))} {clauses l proof : (List (List Int))} {m model : (List Bool)} {a b c clause code literals s0 set1 : (List Int)} {high i_1 low n0 n1 v x : Int}
instance i30_1 : Lp cx (lw n0 (f30_1 c i_1)) 68 L30_1 (fun (zs : Int) => [(0, .v (iT n0)), (1, .v (ssl eI c)), (5, .v (iT i_1)), (7, .v (iT zs))]) (QO (QX 2 (fun (y : Unit) => [(0, .v (iT n0)), (1, .v (ssl eI c)), (5, .v (iT i_1))])) (QR (fun (y : Bool) => [(4, .v (.bool y))]))) := Lp.of (f := (fun
 | k_15 =>
  if k_15 < i_1 then
  (ix c k_15).bind fun v_17 =>
  (ix c i_1).bind fun v_19 =>
  (jn (QN (fun (y : Bool) => [(0, .v (iT n0)), (1, .v (ssl eI c)), (5, .v (iT i_1)), (7, .v (iT k_15)), (67, .v (.bool y))])) ((if v_17 = v_19 then
  some true
  else
  some (decide (v_17 = (w64 (-v_19))))) : Option (Bool))).bind fun x_21 =>
  if x_21 = true then
  some (.inr (.inr false))
  else
  some (.inl (w64 (k_15 + 1)))
  else
  some (.inr (.inl ())) : Int -> Option (Int ⊕ (Unit ⊕ Bool)))) (by exact go)
instance i30_0 : Lp cx (f30_0 n0 c) 68 L30_0 (fun (zs : Int) => [(0, .v (iT n0)), (1, .v (ssl eI c)), (5, .v (iT zs))]) (QO (QX 0 (fun (y : Unit) => [])) (QR (fun (y : Bool) => [(4, .v (.bool y))]))) := Lp.of (f := (fun
 | i_1 =>
  if i_1 < (c.length : Int) then
  (ix c i_1).bind fun v_3 =>
  (jn (QN (fun (y : Bool) => [(0, .v (iT n0)), (1, .v (ssl eI c)), (5, .v (iT i_1)), (6, .v (iT (if 0 > v_3 then 0 else v_3))), (32, .v (.bool y))])) ((if v_3 < 0 then
  some (decide (v_3 >= (w64 (-n0))))
  else
  some false) : Option (Bool))).bind fun x_5 =>
  (jn (QN (fun (y : Int) => [(0, .v (iT n0)), (1, .v (ssl eI c)), (5, .v (iT i_1)), (6, .v (iT y))])) ((if x_5 = true then
  some (w64 (-v_3))
  else
  some (if 0 > v_3 then 0 else v_3)) : Option Int)).bind fun v_11 =>
  (f31 v_11 1 n0).bind fun o12 =>
  if ¬ (o12 = true) then
  some (.inr (.inr false))
  else
  (iter (lw n0  (f30_1 c i_1)) 0).bind fun o => match o with
  | .inl _ =>
  some (.inl (w64 (i_1 + 1)))
  | .inr x_27 =>
  some (.inr (.inr x_27))
  else
  some (.inr (.inl ())) : Int -> Option (Int ⊕ (Unit ⊕ Bool)))) (by exact go)
instance i30 : Rn cx (f30 n0 c) 30 [(iT n0), (ssl eI c)] (fun (r : Bool) => (.bool r)) (fun r => []) := Rn.o rfl (by unfold f30; exact go)
instance : Io0 cx 30 := ⟨rfl⟩
instance i12_0 : Lp cx (f12_0 n0 l) 26 L12_0 (fun (zs : Int) => [(0, .v (iT n0)), (1, .v (ssl (eL eI) l)), (5, .v (iT zs))]) (QO (QX 0 (fun (y : Unit) => [(0, .v (iT n0)), (1, .v (ssl (eL eI) l))])) (QR (fun (y : Bool) => [(4, .v (.bool y))]))) := Lp.of (by unfold f12_0; exact go)
instance i12 : Rn cx (f12 n0 l) 12 [(iT n0), (ssl (eL eI) l)] (fun (r : Bool) => (.bool r)) (fun r => []) := Rn.o (e := (
  (iter (f12_0 n0 l) 0).bind fun o => match o with
  | .inl _ =>
  (f31 n0 0 14).bind fun o11 =>
  (jn (QN (fun (y : Bool) => [(4, .v (.bool y))])) ((if o11 = true then
  some (decide ((l.length : Int) <= 400))
  else
  some false) : Option (Bool))).bind fun x_13 =>
  some x_13
  | .inr x_10 =>
  some x_10 : Option Bool)) rfl (by exact go)
instance : Io0 cx 12 := ⟨rfl⟩
instance i55_0 {l : (List Int)} : Lp cx (f55_0 l x) 18 L55_0 (fun (zs : Int) => [(0, .v (ssl eI l)), (1, .v (iT x)), (5, .v (iT zs))]) (QO (QX 0 (fun (y : Unit) => [])) (QR (fun (y : Bool) => [(4, .v (.bool y))]))) := Lp.of (by unfold f55_0; exact go)
instance i55 {l : (List Int)} : Rn cx (f55 l x) 55 [(ssl eI l), (iT x)] (fun (r : Bool) => (.bool r)) (fun r => []) := Rn.o rfl (by unfold f55; exact go)
instance : Io0 cx 55 := ⟨rfl⟩
instance i63_0 : Lp cx (f63_0 c set1) 38 L63_0 (fun (zs : (List Int) × Int) => [(0, .v (ssl eI c)), (1, .v (ssl eI set1)), (6, .v (osl eI true zs.1)), (7, .v (iT zs.2))]) (QO (QX 0 (fun (y : (List Int)) => [(6, .v (osl eI true y))])) (QR (fun (y : (List Int) × Bool) => [(4, .v (osl eI true y.1)), (5, .v (.bool y.2))]))) := Lp.of (f := (fun
 | (out_1, i_2) =>
  if i_2 < (c.length : Int) then
  (ix c i_2).bind fun v_4 =>
  (f55 set1 v_4).bind fun o6 =>
  if o6 = true then
  some (.inr (.inr (out_1, true)))
  else
  (f55 set1 (w64 (-v_4))).bind fun o9 =>
  (jn (QN (fun (y : (List Int)) => [(0, .v (ssl eI c)), (1, .v (ssl eI set1)), (6, .v (osl eI true y)), (7, .v (iT i_2))])) ((if ¬ (o9 = true) then
  (app 8 out_1 ([v_4])).bind fun l_14 =>
  some l_14
  else
  some out_1) : Option (List Int))).bind fun out_16 =>
  some (.inl (out_16, w64 (i_2 + 1)))
  else
  some (.inr (.inl out_1)) : (List Int) × Int -> Option (((List Int) × Int) ⊕ ((List Int) ⊕ ((List Int) × Bool))))) (by exact go)
instance i63 : Rn cx (f63 c set1) 63 [(ssl eI c), (ssl eI set1)] (fun (r : (List Int) × Bool) => (.tup [(osl eI true r.1), (.bool r.2)])) (fun r => []) := Rn.o (e := (
  sn 4 6 (osl eI true ([])) <| 
  (iter (f63_0 c set1) ([], 0)).bind fun o => match o with
  | .inl out_19 =>
  some (out_19, false)
  | .inr (x_20, x_21) =>
  some (x_20, x_21) : Option ((List Int) × Bool))) rfl (by exact go)
instance : Io0 cx 63 := ⟨rfl⟩
instance i41_1 : Lp cx (f41_1 l) 49 L41_1 (fun (zs : (List Int) × Bool × Int) => [(0, .v (ssl (eL eI) l)), (6, .v (osl eI true zs.1)), (7, .v (.bool zs.2.1)), (8, .v (iT zs.2.2))]) (QO (QX 2 (fun (y : (List Int) × Bool) => [(0, .v (ssl (eL eI) l)), (6, .v (osl eI true y.1)), (7, .v (.bool y.2))])) (QR (fun (y : (List Int) × Bool) => [(4, .v (osl eI true y.1)), (5, .v (.bool y.2))]))) := Lp.of (f := (fun
 | (out_6, more_7, i_8) =>
  (jn (QN (fun (y : Bool) => [(0, .v (ssl (eL eI) l)), (6, .v (osl eI true out_6)), (7, .v (.bool more_7)), (8, .v (iT i_8)), (22, .v (.bool y))])) ((if i_8 < (l.length : Int) then
  some (decide (¬ (more_7 = true)))
  else
  some false) : Option (Bool))).bind fun x_9 =>
  if x_9 = true then
  (jb 3 (QO (QN (fun (y : (List Int) × Bool) => [(0, .v (ssl (eL eI) l)), (6, .v (osl eI true y.1)), (7, .v (.bool y.2)), (8, .v (iT i_8))])) (QR (fun (y : (List Int) × Bool) => [(4, .v (osl eI true y.1)), (5, .v (.bool y.2))]))) (((ix l i_8).bind fun v_15 =>
  (f63 v_15 out_6).bind fun o17 =>
  if o17.2 = true then
  some (.inl (out_6, more_7))
  else
  if (o17.1.length : Int) = 0 then
  some (.inr (out_6, true))
  else
  (jn (QN (fun (y : (List Int) × Bool) => [(0, .v (ssl (eL eI) l)), (6, .v (osl eI true y.1)), (7, .v (.bool y.2)), (8, .v (iT i_8))])) ((if (o17.1.length : Int) = 1 then
  (ix o17.1 0).bind fun v_24 =>
  (app 8 out_6 ([v_24])).bind fun l_26 =>
  some (l_26, true)
  else
  some (out_6, more_7)) : Option ((List Int) × Bool))).bind fun (out_28, more_29) =>
  some (.inl (out_28, more_29))) : Option (((List Int) × Bool) ⊕ ((List Int) × Bool)))).bind fun o => match o with
  | .inl (out_30, more_31) =>
  some (.inl (out_30, more_31, w64 (i_8 + 1)))
  | .inr (x_32, x_33) =>
  some (.inr (.inr (x_32, x_33)))
  else
  some (.inr (.inl (out_6, more_7))) : (List Int) × Bool × Int -> Option (((List Int) × Bool × Int) ⊕ (((List Int) × Bool) ⊕ ((List Int) × Bool))))) (by exact go)
instance i41_0 : Lp cx (f41_0 l) 49 L41_0 (fun (zs : (List Int) × Bool) => [(0, .v (ssl (eL eI) l)), (6, .v (osl eI true zs.1)), (7, .v (.bool zs.2))]) (QO (QX 0 (fun (y : (List Int)) => [(6, .v (osl eI true y))])) (QR (fun (y : (List Int) × Bool) => [(4, .v (osl eI true y.1)), (5, .v (.bool y.2))]))) := Lp.of (by unfold f41_0; exact go)
instance i41 : Rn cx (f41 l set1) 41 [(ssl (eL eI) l), (ssl eI set1)] (fun (r : (List Int) × Bool) => (.tup [(osl eI true r.1), (.bool r.2)])) (fun r => []) := Rn.o (e := (
  (app 8 ([]) set1).bind fun l_1 =>
  sn 6 6 (osl eI true l_1) <| 
  (iter (f41_0 l) (l_1, true)).bind fun o => match o with
  | .inl out_42 =>
  some (out_42, false)
  | .inr (x_43, x_44) =>
  some (x_43, x_44) : Option ((List Int) × Bool))) rfl (by exact go)
instance : Io0 cx 41 := ⟨rfl⟩
instance i42_0 {l : (List Int)} : Lp cx (f42_0 l) 21 L42_0 (fun (zs : (List Int) × Int) => [(0, .v (ssl eI l)), (3, .v (osl eI true zs.1)), (4, .v (iT zs.2))]) (QX 0 (fun (y : (List Int)) => [(3, .v (osl eI true y))])) := Lp.of (by unfold f42_0; exact go)
instance i42 {l : (List Int)} : Rn cx (f42 l) 42 [(ssl eI l)] (fun (r : (List Int)) => (osl eI true r)) (fun r => []) := Rn.o (e := (
  sn 3 3 (osl eI true ([])) <| 
  (iter (f42_0 l) ([], 0)).bind fun out_10 =>
  some out_10 : Option (List Int))) rfl (by exact go)
instance : Io0 cx 42 := ⟨rfl⟩
instance i54 {t : L22State} {signs : (List Int)} : Rn cx (f54 t signs) 54 [(.ptr true [(iT t.n), (osl (eL eI) false t.l), (osl (eL eI) false t.proof), (osl eB true t.model)]), (ssl eI signs)] (fun (r : L22State) => (.tup [])) (fun r => [(.ptr true [(iT r.n), (osl (eL eI) false r.l), (osl (eL eI) false r.proof), (osl eB true r.model)])]) := Rn.o (e := (
  (f42 signs).bind fun o1 =>
  sn 1 4 (ssl eI o1) <| 
  sn 7 13 (osl (eL eI) false ([o1])) <| 
  sn 0 13 (ssl (eL eI) ([o1])) <| 
  (app 24 t.l ([o1])).bind fun l_3 =>
  (app 24 t.proof ([o1])).bind fun l_5 =>
  some ({ n := t.n, l := l_3, proof := l_5, model := t.model } : L22State) : Option L22State)) rfl (by exact go)
instance i28_0 {t : L22State} {signs : (List Int)} {o1 : ((List Int) × Bool)} {rec : L22State -> (List Int) -> Option (Bool × L22State)} [hrec : ∀ t signs, Rn cx (rec t signs) 28 [(.ptr true [(iT t.n), (osl (eL eI) false t.l), (osl (eL eI) false t.proof), (osl eB true t.model)]), (ssl eI signs)] (fun o => (.bool o.1)) (fun o => [(.ptr true [(iT o.2.n), (osl (eL eI) false o.2.l), (osl (eL eI) false o.2.proof), (osl eB true o.2.model)])])] : Lp cx (f28_0 t signs rec o1) 81 L28_0 (fun (zs : Int) => [(0, .v (.ptr true [(iT t.n), (osl (eL eI) false t.l), (osl (eL eI) false t.proof), (osl eB true t.model)])), (1, .v (ssl eI signs)), (5, .v (osl eI true o1.1)), (7, .v (iT zs))]) (QO (QX 0 (fun (y : Unit) => [(0, .v (.ptr true [(iT t.n), (osl (eL eI) false t.l), (osl (eL eI) false t.proof), (osl eB true t.model)])), (5, .v (osl eI true o1.1))])) (QR (fun (y : Int × (List (List Int)) × (List (List Int)) × (List Bool) × Bool) => [(0, .v (.ptr true [(iT y.1), (osl (eL eI) false y.2.1), (osl (eL eI) false y.2.2.1), (osl eB true y.2.2.2.1)])), (4, .v (.bool y.2.2.2.2))]))) := Lp.of (f := (fun
 | v_6 =>
  if v_6 <= t.n then
  (f55 o1.1 v_6).bind fun o8 =>
  (jn (QN (fun (y : Bool) => [(0, .v (.ptr true [(iT t.n), (osl (eL eI) false t.l), (osl (eL eI) false t.proof), (osl eB true t.model)])), (1, .v (ssl eI signs)), (5, .v (osl eI true o1.1)), (7, .v (iT v_6)), (38, .v (.bool y))])) ((if o8 = true then
  some true
  else
  (f55 o1.1 (w64 (-v_6))).bind fun o13 =>
  some o13) : Option (Bool))).bind fun x_10 =>
  if x_10 = true then
  some (.inl (w64 (v_6 + 1)))
  else
  (app 8 ([]) signs).bind fun l_16 =>
  (app 8 l_16 ([v_6])).bind fun l_18 =>
  sn 7 45 (osl eI true l_18) <| 
  sn 0 45 (ssl eI l_18) <| 
  (rec t l_18).bind fun o20 =>
  (jn (QN (fun (y : Int × (List (List Int)) × (List (List Int)) × (List Bool) × Bool) => [(0, .v (.ptr true [(iT y.1), (osl (eL eI) false y.2.1), (osl (eL eI) false y.2.2.1), (osl eB true y.2.2.2.1)])), (1, .v (ssl eI signs)), (57, .v (.bool y.2.2.2.2))])) ((if o20.1 = true then
  some (o20.2.n, o20.2.l, o20.2.proof, o20.2.model, true)
  else
  (app 8 l_16 ([w64 (-v_6)])).bind fun l_29 =>
  sn 0 55 (osl eI true l_29) <| 
  sn 0 55 (ssl eI l_29) <| 
  (rec o20.2 l_29).bind fun o31 =>
  some (o31.2.n, o31.2.l, o31.2.proof, o31.2.model, o31.1)) : Option (Int × (List (List Int)) × (List (List Int)) × (List Bool) × Bool))).bind fun (t_22, t_23, t_24, t_25, x_26) =>
  if x_26 = true then
  some (.inr (.inr (t_22, t_23, t_24, t_25, true)))
  else
  (f54 ({ n := t_22, l := t_23, proof := t_24, model := t_25 } : L22State) signs).bind fun o34 =>
  some (.inr (.inr (o34.n, o34.l, o34.proof, o34.model, false)))
  else
  some (.inr (.inl ())) : Int -> Option (Int ⊕ (Unit ⊕ (Int × (List (List Int)) × (List (List Int)) × (List Bool) × Bool))))) (by exact go)
instance i28_1 {o1 : ((List Int) × Bool)} : Lp cx (f28_1 o1) 81 L28_1 (fun (zs : Int × (List (List Int)) × (List (List Int)) × (List Bool) × Int) => [(0, .v (.ptr true [(iT zs.1), (osl (eL eI) false zs.2.1), (osl (eL eI) false zs.2.2.1), (osl eB true zs.2.2.2.1)])), (5, .v (osl eI true o1.1)), (8, .v (iT zs.2.2.2.2))]) (QX 2 (fun (y : Int × (List (List Int)) × (List (List Int)) × (List Bool)) => [(0, .v (.ptr true [(iT y.1), (osl (eL eI) false y.2.1), (osl (eL eI) false y.2.2.1), (osl eB true y.2.2.2)]))])) := Lp.of (by unfold f28_1; exact go)
instance i28 : ∀ (n : Nat) t signs, Rn cx (f28 n t signs) 28 [(.ptr true [(iT t.n), (osl (eL eI) false t.l), (osl (eL eI) false t.proof), (osl eB true t.model)]), (ssl eI signs)] (fun (r : Bool × L22State) => (.bool r.1)) (fun r => [(.ptr true [(iT r.2.n), (osl (eL eI) false r.2.l), (osl (eL eI) false r.2.proof), (osl eB true r.2.model)])]) := by
 intro n
 induction n with
 | zero => intro t signs; exact ⟨fun r h => by simp [f28] at h⟩
 | succ n ih =>
  intro t signs
  refine Rn.of rfl rfl (by decide) rfl ?_
  simp only [f28]
  exact go
instance i8 : Rn cx (f8 n0 l) 8 [(iT n0), (ssl (eL eI) l)] (fun (r : (List Bool) × (List (List Int)) × Bool) => (.tup [(osl eB true r.1), (osl (eL eI) false r.2.1), (.bool r.2.2)])) (fun r => []) := Rn.o (e := (
  (f12 n0 l).bind fun o1 =>
  if ¬ (o1 = true) then
  sn 5 4 (osl eB true ([])) <| 
  sn 0 5 (osl (eL eI) true ([])) <| 
  some ([], [], false)
  else
  (app 24 ([]) l).bind fun l_4 =>
  sn 4 17 (osl (eL eI) false l_4) <| 
  sn 1 18 (.agg [(iT n0), (osl (eL eI) false l_4), (osl (eL eI) true ([])), (osl eB true ([]))]) <| 
  sn 2 7 (.ptr true [(iT n0), (osl (eL eI) false l_4), (osl (eL eI) false ([])), (osl eB true ([]))]) <| 
  sn 2 21 (osl eI true ([])) <| 
  sn 0 21 (ssl eI ([])) <| 
  (f28 64 ({ n := n0, l := l_4, proof := [], model := [] } : L22State) ([])).bind fun o6 =>
  if o6.1 = true then
  sn 8 5 (osl (eL eI) true ([])) <| 
  some (o6.2.model, [], true)
  else
  sn 8 4 (osl eB true ([])) <| 
  some ([], o6.2.proof, false) : Option ((List Bool) × (List (List Int)) × Bool))) rfl (by exact go)
instance : Io0 cx 8 := ⟨rfl⟩
instance i36 : Rn cx (f36 model x) 36 [(ssl eB model), (iT x)] (fun (r : Bool) => (.bool r)) (fun r => []) := Rn.o (e := (
  if x > 0 then
  (jn (QN (fun (y : Bool) => [(4, .v (.bool y))])) ((if x <= (model.length : Int) then
  (ix model (w64 (x - 1))).bind fun v_5 =>
  some v_5
  else
  some false) : Option (Bool))).bind fun x_2 =>
  some x_2
  else
  (jn (QN (fun (y : Bool) => [(4, .v (.bool y))])) ((if x < 0 then
  (jn (QN (fun (y : Bool) => [(4, .v (.bool y))])) ((if x >= (w64 (-(model.length : Int))) then
  (ix model (w64 ((w64 (-x)) - 1))).bind fun v_13 =>
  some (decide (¬ (v_13 = true)))
  else
  some false) : Option (Bool))).bind fun x_10 =>
  some x_10
  else
  some false) : Option (Bool))).bind fun x_7 =>
  some x_7 : Option Bool)) rfl (by exact go)
instance : Io0 cx 36 := ⟨rfl⟩
instance i35 {c : (List Bool)} : Rn cx (f35 x c) 35 [(iT x), (.ptr false [(ssl eB c)])] (fun (r : Bool) => (.bool r)) (fun r => []) := Rn.o rfl (by unfold f35; exact go)
instance : Io0 cx 35 := ⟨rfl⟩
instance i33 {c : (List Bool)} : Rn cx (f33 clause c) 33 [(ssl eI clause), (.ptr false [(ssl eB c)])] (fun (r : Bool) => (.bool r)) (fun r => []) := Rn.o rfl (by unfold f33; exact go)
instance : Io0 cx 33 := ⟨rfl⟩
instance i13 : Rn cx (f13 clauses model) 13 [(ssl (eL eI) clauses), (ssl eB model)] (fun (r : Bool) => (.bool r)) (fun r => []) := Rn.o rfl (by unfold f13; exact go)
instance : Io0 cx 13 := ⟨rfl⟩
instance i9_1 {count_8 : Int} {model_9 : (List Bool)} {x_10 : Int} : Lp cx (lw (n0, clauses, count_8) (f9_1 model_9 x_10)) 41 L9_1 (fun (zs : (List Bool) × Int) => [(1, .v (ssl (eL eI) clauses)), (5, .v (iT count_8)), (6, .v (osl eB true zs.1)), (7, .v (iT x_10)), (16, .v (iT (sshl .i64 1 n0))), (17, .v (iT x_10)), (21, .v (iT (model_9.length : Int))), (22, .v (iT zs.2))]) (QX 2 (fun (y : (List Bool)) => [(1, .v (ssl (eL eI) clauses)), (5, .v (iT count_8)), (6, .v (osl eB true y)), (16, .v (iT (sshl .i64 1 n0))), (17, .v (iT x_10))])) := Lp.of (by unfold lw f9_1; exact go)
instance i9_0 : Lp cx (f9_0 n0 clauses) 41 L9_0 (fun (zs : Int × (List Bool) × Int) => [(1, .v (ssl (eL eI) clauses)), (5, .v (iT zs.1)), (6, .v (osl eB true zs.2.1)), (16, .v (iT (sshl .i64 1 n0))), (17, .v (iT zs.2.2))]) (QX 0 (fun (y : Int) => [(5, .v (iT y))])) := Lp.of (f := (fun
 | (count_8, model_9, x_10) =>
  if x_10 < (sshl .i64 1 n0) then
  (iter (lw (n0, clauses, count_8)  (f9_1 model_9 x_10)) (model_9, 0)).bind fun model_22 =>
  (f13 clauses model_22).bind fun o23 =>
  (jn (QN (fun (y : Int) => [(1, .v (ssl (eL eI) clauses)), (5, .v (iT y)), (6, .v (osl eB true model_22)), (16, .v (iT (sshl .i64 1 n0))), (17, .v (iT x_10))])) ((if o23 = true then
  some (w64 (count_8 + 1))
  else
  some count_8) : Option Int)).bind fun count_28 =>
  some (.inl (count_28, model_22, w64 (x_10 + 1)))
  else
  some (.inr count_8) : Int × (List Bool) × Int -> Option ((Int × (List Bool) × Int) ⊕ Int))) (by exact go)
instance i9 : Rn cx (f9 n0 clauses) 9 [(iT n0), (ssl (eL eI) clauses)] (fun (r : Int) => (iT r)) (fun r => []) := Rn.o (e := (
  (f26 n0 clauses).bind fun o1 =>
  if ¬ (o1 = true) then
  some 0
  else
  (mkl 1 n0 false).bind fun l_4 =>
  sn 4 6 (osl eB true l_4) <| 
  (nn n0).bind fun z_6 =>
  (iter (f9_0 n0 clauses) (0, l_4, 0)).bind fun count_31 =>
  some count_31 : Option Int)) rfl (by exact go)
instance : Io0 cx 9 := ⟨rfl⟩
instance i29_0 : Lp cx (f29_0 a b) 26 L29_0 (fun (zs : Int) => [(0, .v (ssl eI a)), (1, .v (ssl eI b)), (5, .v (iT zs))]) (QO (QX 0 (fun (y : Unit) => [])) (QR (fun (y : Bool) => [(4, .v (.bool y))]))) := Lp.of (by unfold f29_0; exact go)
instance i29 : Rn cx (f29 a b) 29 [(ssl eI a), (ssl eI b)] (fun (r : Bool) => (.bool r)) (fun r => []) := Rn.o rfl (by unfold f29; exact go)
instance : Io0 cx 29 := ⟨rfl⟩
instance i10_0 {a : (List (List Int))} {b : (List (List Int))} : Lp cx (f10_0 a b) 27 L10_0 (fun (zs : Int) => [(0, .v (ssl (eL eI) a)), (1, .v (ssl (eL eI) b)), (5, .v (iT zs))]) (QO (QX 0 (fun (y : Unit) => [])) (QR (fun (y : Bool) => [(4, .v (.bool y))]))) := Lp.of (by unfold f10_0; exact go)
instance i10 {a : (List (List Int))} {b : (List (List Int))} : Rn cx (f10 a b) 10 [(ssl (eL eI) a), (ssl (eL eI) b)] (fun (r : Bool) => (.bool r)) (fun r => []) := Rn.o rfl (by unfold f10; exact go)
instance : Io0 cx 10 := ⟨rfl⟩
instance i14_1 : Lp cx (f14_1 l m i_1) 71 L14_1 (fun (zs : Bool × Int) => [(0, .v (ssl (eL eI) l)), (1, .v (ssl eB m)), (5, .v (iT i_1)), (6, .v (.bool zs.1)), (7, .v (iT zs.2))]) (QX 2 (fun (y : Bool) => [(0, .v (ssl (eL eI) l)), (1, .v (ssl eB m)), (5, .v (iT i_1)), (6, .v (.bool y))])) := Lp.of (f := (fun
 | (is_3, k_4) =>
  (ix l i_1).bind fun v_5 =>
  if k_4 < (v_5.length : Int) then
  (ix v_5 k_4).bind fun v_8 =>
  (jn (QN (fun (y : Bool) => [(0, .v (ssl (eL eI) l)), (1, .v (ssl eB m)), (5, .v (iT i_1)), (6, .v (.bool y)), (7, .v (iT k_4))])) ((if is_3 = true then
  some true
  else
  (jn (QN (fun (y : Bool) => [(0, .v (ssl (eL eI) l)), (1, .v (ssl eB m)), (5, .v (iT i_1)), (6, .v (.bool y)), (7, .v (iT k_4))])) ((if v_8 > 0 then
  (jn (QN (fun (y : Bool) => [(0, .v (ssl (eL eI) l)), (1, .v (ssl eB m)), (5, .v (iT i_1)), (6, .v (.bool y)), (7, .v (iT k_4))])) ((if v_8 <= (m.length : Int) then
  (ix m (w64 (v_8 - 1))).bind fun v_19 =>
  (jn (QN (fun (y : Bool) => [(0, .v (ssl (eL eI) l)), (1, .v (ssl eB m)), (5, .v (iT i_1)), (6, .v (.bool y)), (7, .v (iT k_4))])) ((if v_19 = true then
  some true
  else
  (jn (QN (fun (y : Bool) => [(0, .v (ssl (eL eI) l)), (1, .v (ssl eB m)), (5, .v (iT i_1)), (6, .v (.bool y)), (7, .v (iT k_4))])) ((if v_8 < 0 then
  (jn (QN (fun (y : Bool) => [(0, .v (ssl (eL eI) l)), (1, .v (ssl eB m)), (5, .v (iT i_1)), (6, .v (.bool y)), (7, .v (iT k_4))])) ((if v_8 >= (w64 (-(m.length : Int))) then
  (ix m (w64 ((w64 (-v_8)) - 1))).bind fun v_30 =>
  some (decide (¬ (v_30 = true)))
  else
  some false) : Option (Bool))).bind fun is_27 =>
  some is_27
  else
  some false) : Option (Bool))).bind fun is_24 =>
  some is_24) : Option (Bool))).bind fun is_21 =>
  some is_21
  else
  (jn (QN (fun (y : Bool) => [(0, .v (ssl (eL eI) l)), (1, .v (ssl eB m)), (5, .v (iT i_1)), (6, .v (.bool y)), (7, .v (iT k_4))])) ((if v_8 < 0 then
  (jn (QN (fun (y : Bool) => [(0, .v (ssl (eL eI) l)), (1, .v (ssl eB m)), (5, .v (iT i_1)), (6, .v (.bool y)), (7, .v (iT k_4))])) ((if v_8 >= (w64 (-(m.length : Int))) then
  (ix m (w64 ((w64 (-v_8)) - 1))).bind fun v_38 =>
  some (decide (¬ (v_38 = true)))
  else
  some false) : Option (Bool))).bind fun is_35 =>
  some is_35
  else
  some false) : Option (Bool))).bind fun is_32 =>
  some is_32) : Option (Bool))).bind fun is_16 =>
  some is_16
  else
  (jn (QN (fun (y : Bool) => [(0, .v (ssl (eL eI) l)), (1, .v (ssl eB m)), (5, .v (iT i_1)), (6, .v (.bool y)), (7, .v (iT k_4))])) ((if v_8 < 0 then
  (jn (QN (fun (y : Bool) => [(0, .v (ssl (eL eI) l)), (1, .v (ssl eB m)), (5, .v (iT i_1)), (6, .v (.bool y)), (7, .v (iT k_4))])) ((if v_8 >= (w64 (-(m.length : Int))) then
  (ix m (w64 ((w64 (-v_8)) - 1))).bind fun v_46 =>
  some (decide (¬ (v_46 = true)))
  else
  some false) : Option (Bool))).bind fun is_43 =>
  some is_43
  else
  some false) : Option (Bool))).bind fun is_40 =>
  some is_40) : Option (Bool))).bind fun is_13 =>
  some is_13) : Option (Bool))).bind fun is_10 =>
  some (.inl (is_10, w64 (k_4 + 1)))
  else
  some (.inr is_3) : Bool × Int -> Option ((Bool × Int) ⊕ Bool))) (by exact go)
instance i14_0 : Lp cx (f14_0 l m) 71 L14_0 (fun (zs : Int) => [(0, .v (ssl (eL eI) l)), (1, .v (ssl eB m)), (5, .v (iT zs))]) (QO (QX 0 (fun (y : Unit) => [])) (QR (fun (y : Bool) => [(4, .v (.bool y))]))) := Lp.of (by unfold f14_0; exact go)
instance i14 : Rn cx (f14 l m) 14 [(ssl (eL eI) l), (ssl eB m)] (fun (r : Bool) => (.bool r)) (fun r => []) := Rn.o rfl (by unfold f14; exact go)
instance : Io0 cx 14 := ⟨rfl⟩
instance i11_1 {out_4 : Int} {k_5 : Int} : Lp cx (lw (l, out_4) (f11_1 n0 k_5)) 39 L11_1 (fun (zs : (List Bool) × Int) => [(0, .v (iT n0)), (1, .v (ssl (eL eI) l)), (5, .v (iT out_4)), (6, .v (iT k_5)), (7, .v (osl eB true zs.1)), (8, .v (iT zs.2))]) (QX 2 (fun (y : (List Bool)) => [(0, .v (iT n0)), (1, .v (ssl (eL eI) l)), (5, .v (iT out_4)), (6, .v (iT k_5)), (7, .v (osl eB true y))])) := Lp.of (by unfold lw f11_1; exact go)
instance i11_0 : Lp cx (f11_0 n0 l) 39 L11_0 (fun (zs : Int × Int) => [(0, .v (iT n0)), (1, .v (ssl (eL eI) l)), (5, .v (iT zs.1)), (6, .v (iT zs.2))]) (QX 0 (fun (y : Int) => [(5, .v (iT y))])) := Lp.of (f := (fun
 | (out_4, k_5) =>
  (nn n0).bind fun z_6 =>
  if k_5 < (sshl .i64 1 n0) then
  sn 2 7 (osl eB true ([])) <| 
  (iter (lw (l, out_4)  (f11_1 n0 k_5)) ([], 0)).bind fun m_18 =>
  (f14 l m_18).bind fun o19 =>
  (jn (QN (fun (y : Int) => [(0, .v (iT n0)), (1, .v (ssl (eL eI) l)), (5, .v (iT y)), (6, .v (iT k_5))])) ((if o19 = true then
  some (w64 (out_4 + 1))
  else
  some out_4) : Option Int)).bind fun out_24 =>
  some (.inl (out_24, w64 (k_5 + 1)))
  else
  some (.inr out_4) : Int × Int -> Option ((Int × Int) ⊕ Int))) (by exact go)
instance i11 : Rn cx (f11 n0 l) 11 [(iT n0), (ssl (eL eI) l)] (fun (r : Int) => (iT r)) (fun r => []) := Rn.o rfl (by unfold f11; exact go)
instance : Io0 cx 11 := ⟨rfl⟩
theorem r38 {s0 : (List (List Int))} {r : (List (List Int))} (h : f38 s0 = some r) : VJx cx (.ca 38 [(ssl (eL eI) s0)] (osl (eL eI) false r) []) := by
 unfold f38 at h
 refine ca_clone (X := noExt) (fun _ _ _ _ h => h) (fun _ _ _ _ h => h) rfl (by decide) rfl (cl_eq h) ?_
 refine Wc.start (V1 := [(0, .v (ssl (eL eI) s0))]) (by simp) ?_
 refine Wc.seq ?_
 obtain ⟨l_1, h2, h⟩ := bind_some h
 have gx2 := appT_arr (E := (eL eI)) (b := false) (y := false) h2 (by decide)
 simp [-aI_app1, -aI_app0, -aB_app0, -aS_app0, -aL_app0, -aLt_app1I, -aLf_app1I, -aLt_app10I, -aLf_app10I] at gx2
 refine Wc.evs (by conv => lhs; simp [-aI_app1, -aI_app0, -aB_app0, -aS_app0, -aL_app0, -aI_app10, -aB_app10, -aS_app10, -aLt_app10I, -aLf_app10I, -aLt_app1I, -aLf_app1I, gx2, h2]) ?_
 refine Wo.gh (vle_co (s := 2) (t1 := (osl (eL eI) false l_1)) rfl (by simp) (tle_own rfl) (by conv => lhs; simp)) ?_
 refine Wo.nil ?_
 refine Wc.ret (res_of (.inr rfl) ?_)
 cases h
 exact ⟨_, _, _, by conv => lhs; simp, by (conv => lhs; simp [cx, ioTab, List.range, List.range.loop]) <;> rfl, by first | rfl | simp [-aI_app1, -aI_app0, -aB_app0, -aS_app0, -aL_app0, -aI_app10, -aB_app10, -aS_app10, -aLt_app10I, -aLf_app10I, -aLt_app1I, -aLf_app1I, gx2, h2]⟩
instance i38 {s0 : (List (List Int))} : Rn cx (f38 s0) 38 [(ssl (eL eI) s0)] (fun (r : (List (List Int))) => (osl (eL eI) false r)) (fun r => []) := ⟨fun _ h => r38 h⟩
instance : Io0 cx 38 := ⟨rfl⟩
instance i15_0 : Lp cx (f15_0 proof) 57 L15_0 (fun (zs : (List (List Int)) × Int) => [(2, .v (ssl (eL eI) proof)), (7, .v (osl (eL eI) false zs.1)), (29, .v (ssl (eL eI) proof)), (30, .v (iT (proof.length : Int))), (31, .v (iT zs.2))]) (QO (QX 0 (fun (y : Unit) => [(2, .v (ssl (eL eI) proof))])) (QR (fun (y : Bool) => [(6, .v (.bool y))]))) := Lp.of (f := (fun
 | (known_14, x_15) =>
  if x_15 < (proof.length : Int) then
  (ix proof x_15).bind fun v_17 =>
  (f40 v_17).bind fun o19 =>
  (f39 known_14 o19).bind fun o21 =>
  sn 0 39 (.tup [(osl eI true o21.1), (.bool o21.2)]) <| 
  if ¬ (o21.2 = true) then
  some (.inr (.inr false))
  else
  (app 24 known_14 ([v_17])).bind fun l_24 =>
  some (.inl (l_24, w64 (x_15 + 1)))
  else
  some (.inr (.inl ())) : (List (List Int)) × Int -> Option (((List (List Int)) × Int) ⊕ (Unit ⊕ Bool)))) (by exact go)
instance i15 : Rn cx (f15 n0 clauses proof) 15 [(iT n0), (ssl (eL eI) clauses), (ssl (eL eI) proof)] (fun (r : Bool) => (.bool r)) (fun r => []) := Rn.o (e := (
  (f26 n0 clauses).bind fun o1 =>
  (jn (QN (fun (y : Bool) => [(1, .v (ssl (eL eI) clauses)), (2, .v (ssl (eL eI) proof)), (26, .v (.bool y))])) ((if ¬ (o1 = true) then
  some true
  else
  (jn (QN (fun (y : Bool) => [(1, .v (ssl (eL eI) clauses)), (2, .v (ssl (eL eI) proof)), (26, .v (.bool y))])) ((if (proof.length : Int) = 0 then
  some true
  else
  (f37 n0 proof).bind fun o9 =>
  some (decide (¬ (o9 = true)))) : Option (Bool))).bind fun x_6 =>
  some x_6) : Option (Bool))).bind fun x_3 =>
  if x_3 = true then
  some false
  else
  (f38 clauses).bind fun o12 =>
  (iter (f15_0 proof) (o12, 0)).bind fun o => match o with
  | .inl _ =>
  (ix proof (w64 ((proof.length : Int) - 1))).bind fun v_29 =>
  some (decide ((v_29.length : Int) = 0))
  | .inr x_28 =>
  some x_28 : Option Bool)) rfl (by exact go)
instance : Io0 cx 15 := ⟨rfl⟩
instance i16_0 : Lp cx (f16_0 n0 proof) 65 L16_0 (fun (zs : (List (List Int)) × Int) => [(0, .v (iT n0)), (2, .v (ssl (eL eI) proof)), (7, .v (osl (eL eI) false zs.1)), (8, .v (iT zs.2))]) (QO (QX 0 (fun (y : Unit) => [])) (QR (fun (y : Bool) => [(6, .v (.bool y))]))) := Lp.of (by unfold f16_0; exact go)
instance i16 : Rn cx (f16 n0 l proof) 16 [(iT n0), (ssl (eL eI) l), (ssl (eL eI) proof)] (fun (r : Bool) => (.bool r)) (fun r => []) := Rn.o (e := (
  (f12 n0 l).bind fun o1 =>
  (jn (QN (fun (y : Bool) => [(0, .v (iT n0)), (1, .v (ssl (eL eI) l)), (2, .v (ssl (eL eI) proof)), (29, .v (.bool y))])) ((if ¬ (o1 = true) then
  some true
  else
  (jn (QN (fun (y : Bool) => [(0, .v (iT n0)), (1, .v (ssl (eL eI) l)), (2, .v (ssl (eL eI) proof)), (29, .v (.bool y))])) ((if (proof.length : Int) = 0 then
  some true
  else
  (ix proof (w64 ((proof.length : Int) - 1))).bind fun v_9 =>
  some (decide ((v_9.length : Int) > 0))) : Option (Bool))).bind fun x_6 =>
  some x_6) : Option (Bool))).bind fun x_3 =>
  if x_3 = true then
  some false
  else
  (app 24 ([]) l).bind fun l_12 =>
  sn 4 7 (osl (eL eI) false l_12) <| 
  (iter (f16_0 n0 proof) (l_12, 0)).bind fun o => match o with
  | .inl _ =>
  some true
  | .inr x_31 =>
  some x_31 : Option Bool)) rfl (by exact go)
instance : Io0 cx 16 := ⟨rfl⟩
instance i3 : Rn cx (f3 code) 3 [(ssl eU code)] (fun (r : Bool) => (.bool r)) (fun r => []) := Rn.o (e := (
  (f5 code).bind fun o1 =>
  if o1 = true then
  some true
  else
  (f6 code).bind fun o4 =>
  sn 5 4 (ssl (eL eI) o4.2) <| 
  (f7 o4.1 o4.2).bind fun o6 =>
  (f8 o4.1 o4.2).bind fun o8 =>
  (f9 o4.1 o4.2).bind fun o10 =>
  (jn (QN (fun (y : Bool) => [(3, .v (iT o4.1)), (4, .v (ssl (eL eI) o4.2)), (5, .v (osl eB true o6.1)), (6, .v (osl (eL eI) true o6.2.1)), (7, .v (.bool o6.2.2)), (11, .v (iT o10)), (58, .v (.bool y))])) ((if (o6.2.2 != o8.2.2) = true then
  some true
  else
  (f10 o6.2.1 o8.2.1).bind fun o15 =>
  (jn (QN (fun (y : Bool) => [(3, .v (iT o4.1)), (4, .v (ssl (eL eI) o4.2)), (5, .v (osl eB true o6.1)), (6, .v (osl (eL eI) true o6.2.1)), (7, .v (.bool o6.2.2)), (11, .v (iT o10)), (58, .v (.bool y))])) ((if ¬ (o15 = true) then
  some true
  else
  (jn (QN (fun (y : Bool) => [(3, .v (iT o4.1)), (4, .v (ssl (eL eI) o4.2)), (5, .v (osl eB true o6.1)), (6, .v (osl (eL eI) true o6.2.1)), (7, .v (.bool o6.2.2)), (11, .v (iT o10)), (58, .v (.bool y))])) ((if (o6.1.length : Int) ≠ (o8.1.length : Int) then
  some true
  else
  (f11 o4.1 o4.2).bind fun o23 =>
  some (decide (o10 ≠ o23))) : Option (Bool))).bind fun x_20 =>
  some x_20) : Option (Bool))).bind fun x_17 =>
  some x_17) : Option (Bool))).bind fun x_12 =>
  if x_12 = true then
  some false
  else
  (f12 o4.1 o4.2).bind fun o26 =>
  if ¬ (o26 = true) then
  (jn (QN (fun (y : Bool) => [(2, .v (.bool y))])) ((if ¬ (o6.2.2 = true) then
  (jn (QN (fun (y : Bool) => [(2, .v (.bool y))])) ((if (o6.2.1.length : Int) = 0 then
  some (decide (o10 = 0))
  else
  some false) : Option (Bool))).bind fun x_32 =>
  some x_32
  else
  some false) : Option (Bool))).bind fun x_29 =>
  some x_29
  else
  if o6.2.2 = true then
  (jn (QN (fun (y : Bool) => [(2, .v (.bool y))])) ((if (o6.1.length : Int) = o4.1 then
  (f13 o4.2 o6.1).bind fun o39 =>
  (jn (QN (fun (y : Bool) => [(2, .v (.bool y))])) ((if o39 = true then
  (f14 o4.2 o6.1).bind fun o44 =>
  (jn (QN (fun (y : Bool) => [(2, .v (.bool y))])) ((if o44 = true then
  (jn (QN (fun (y : Bool) => [(2, .v (.bool y))])) ((if (o6.2.1.length : Int) = 0 then
  some (decide (o10 > 0))
  else
  some false) : Option (Bool))).bind fun x_49 =>
  some x_49
  else
  some false) : Option (Bool))).bind fun x_46 =>
  some x_46
  else
  some false) : Option (Bool))).bind fun x_41 =>
  some x_41
  else
  some false) : Option (Bool))).bind fun x_36 =>
  some x_36
  else
  (f15 o4.1 o4.2 o6.2.1).bind fun o52 =>
  (jn (QN (fun (y : Bool) => [(2, .v (.bool y))])) ((if o52 = true then
  (f16 o4.1 o4.2 o6.2.1).bind fun o57 =>
  (jn (QN (fun (y : Bool) => [(2, .v (.bool y))])) ((if o57 = true then
  some (decide (o10 = 0))
  else
  some false) : Option (Bool))).bind fun x_59 =>
  some x_59
  else
  some false) : Option (Bool))).bind fun x_54 =>
  some x_54 : Option Bool)) rfl (by exact go)
instance : Io0 cx 3 := ⟨rfl⟩
end
end Go.Proofs.YtjfeimhiiomgoaaH
