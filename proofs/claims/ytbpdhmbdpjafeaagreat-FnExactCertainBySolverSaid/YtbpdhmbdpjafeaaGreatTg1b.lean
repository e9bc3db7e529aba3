import Derived.Test.YtbpdhmbdpjafeaaGreatTg1a
set_option maxHeartbeats 2000000
set_option linter.unusedVariables false
set_option linter.unusedSimpArgs false
set_option linter.defProp false
set_option linter.unusedSectionVars false
set_option maxRecDepth 100000
namespace Go.Proofs.YtbpdhmbdpjafeaaGreatH
open Go
noncomputable section
variable {clauses o26 o4 o9 slices : (List (List Int))} {m model : (List Bool)} {a b c clause facts from2 indices l literals s0 s1 s2 set1 terms : (List Int)} {relations : (List Relation)} {atom v_19 : Atom} {d db : Database} {f : Fact} {high i i_17 k left low n n0 n1 sign v x y : Int} {q query : Query}
instance i24 : Rn cx (f24 d q) 24 [(.agg [(ssl eRelation d.Relations), (ssl eFact d.Facts)]), (.agg [(iT q.VariableCount), (ssl eAtom q.Atoms), (ssl eI q.Free)])] (fun (r : (List (List Int))) => (osl (eL eI) true r)) (fun r => []) := Rn.o (e := (
  sn 5 5 (osl (eL eI) true ([])) <| 
  (f25 d q).bind fun o1 =>
  if ¬ (o1 = true) then
  some ([])
  else
  (f47 d).bind fun o4 =>
  (iter (lw (d, q)  (f24_0 o4)) ([], 0)).bind fun out_25 =>
  (f48 d q).bind fun o26 =>
  (iter (f24_1 o26) (out_25, 0)).bind fun out_47 =>
  some out_47 : Option (List (List Int)))) rfl (by exact go)
instance : Io0 cx 24 := ⟨rfl⟩
instance i81_1 {i_1 : Int} : Lp cx (lw n0 (f81_1 c i_1)) 68 L81_1 (fun (zs : Int) => [(0, .v (iT n0)), (1, .v (ssl eI c)), (5, .v (iT i_1)), (7, .v (iT zs))]) (QO (QX 2 (fun (y : Unit) => [(0, .v (iT n0)), (1, .v (ssl eI c)), (5, .v (iT i_1))])) (QR (fun (y : Bool) => [(4, .v (.bool y))]))) := Lp.of (f := (fun
 | k_15 =>
  if k_15 < i_1 then
  (ix c k_15).bind fun v_17 =>
  (ix c i_1).bind fun v_19 =>
  (jn (QN (fun (y : Bool) => [(0, .v (iT n0)), (1, .v (ssl eI c)), (5, .v (iT i_1)), (7, .v (iT k_15)), (67, .v (.bool y))])) ((if v_17 = v_19 then
  some true
  else
  some (decide (v_17 = (w64 (-v_19))))) : Option (Bool))).bind fun x_21 =>
  if x_21 = true then
  some (.inr (.inr false))
  else
  some (.inl (w64 (k_15 + 1)))
  else
  some (.inr (.inl ())) : Int -> Option (Int ⊕ (Unit ⊕ Bool)))) (by exact go)
instance i81_0 : Lp cx (f81_0 n0 c) 68 L81_0 (fun (zs : Int) => [(0, .v (iT n0)), (1, .v (ssl eI c)), (5, .v (iT zs))]) (QO (QX 0 (fun (y : Unit) => [])) (QR (fun (y : Bool) => [(4, .v (.bool y))]))) := Lp.of (f := (fun
 | i_1 =>
  if i_1 < (c.length : Int) then
  (ix c i_1).bind fun v_3 =>
  (jn (QN (fun (y : Bool) => [(0, .v (iT n0)), (1, .v (ssl eI c)), (5, .v (iT i_1)), (6, .v (iT (if 0 > v_3 then 0 else v_3))), (32, .v (.bool y))])) ((if v_3 < 0 then
  some (decide (v_3 >= (w64 (-n0))))
  else
  some false) : Option (Bool))).bind fun x_5 =>
  (jn (QN (fun (y : Int) => [(0, .v (iT n0)), (1, .v (ssl eI c)), (5, .v (iT i_1)), (6, .v (iT y))])) ((if x_5 = true then
  some (w64 (-v_3))
  else
  some (if 0 > v_3 then 0 else v_3)) : Option Int)).bind fun v_11 =>
  (f80 v_11 1 n0).bind fun o12 =>
  if ¬ (o12 = true) then
  some (.inr (.inr false))
  else
  (iter (lw n0  (f81_1 c i_1)) 0).bind fun o => match o with
  | .inl _ =>
  some (.inl (w64 (i_1 + 1)))
  | .inr x_27 =>
  some (.inr (.inr x_27))
  else
  some (.inr (.inl ())) : Int -> Option (Int ⊕ (Unit ⊕ Bool)))) (by exact go)
instance i81 : Rn cx (f81 n0 c) 81 [(iT n0), (ssl eI c)] (fun (r : Bool) => (.bool r)) (fun r => []) := Rn.o rfl (by unfold f81; exact go)
instance : Io0 cx 81 := ⟨rfl⟩
instance i51_0 {l : (List (List Int))} : Lp cx (f51_0 n0 l) 26 L51_0 (fun (zs : Int) => [(0, .v (iT n0)), (1, .v (ssl (eL eI) l)), (5, .v (iT zs))]) (QO (QX 0 (fun (y : Unit) => [(0, .v (iT n0)), (1, .v (ssl (eL eI) l))])) (QR (fun (y : Bool) => [(4, .v (.bool y))]))) := Lp.of (by unfold f51_0; exact go)
instance i51 {l : (List (List Int))} : Rn cx (f51 n0 l) 51 [(iT n0), (ssl (eL eI) l)] (fun (r : Bool) => (.bool r)) (fun r => []) := Rn.o (e := (
  (iter (f51_0 n0 l) 0).bind fun o => match o with
  | .inl _ =>
  (f80 n0 0 14).bind fun o11 =>
  (jn (QN (fun (y : Bool) => [(4, .v (.bool y))])) ((if o11 = true then
  some (decide ((l.length : Int) <= 400))
  else
  some false) : Option (Bool))).bind fun x_13 =>
  some x_13
  | .inr x_10 =>
  some x_10 : Option Bool)) rfl (by exact go)
instance : Io0 cx 51 := ⟨rfl⟩
instance i54_0 : Lp cx (f54_0 l x) 18 L54_0 (fun (zs : Int) => [(0, .v (ssl eI l)), (1, .v (iT x)), (5, .v (iT zs))]) (QO (QX 0 (fun (y : Unit) => [])) (QR (fun (y : Bool) => [(4, .v (.bool y))]))) := Lp.of (by unfold f54_0; exact go)
instance i54 : Rn cx (f54 l x) 54 [(ssl eI l), (iT x)] (fun (r : Bool) => (.bool r)) (fun r => []) := Rn.o rfl (by unfold f54; exact go)
instance : Io0 cx 54 := ⟨rfl⟩
instance i108_0 : Lp cx (f108_0 c set1) 38 L108_0 (fun (zs : (List Int) × Int) => [(0, .v (ssl eI c)), (1, .v (ssl eI set1)), (6, .v (osl eI true zs.1)), (7, .v (iT zs.2))]) (QO (QX 0 (fun (y : (List Int)) => [(6, .v (osl eI true y))])) (QR (fun (y : (List Int) × Bool) => [(4, .v (osl eI true y.1)), (5, .v (.bool y.2))]))) := Lp.of (f := (fun
 | (out_1, i_2) =>
  if i_2 < (c.length : Int) then
  (ix c i_2).bind fun v_4 =>
  (f54 set1 v_4).bind fun o6 =>
  if o6 = true then
  some (.inr (.inr (out_1, true)))
  else
  (f54 set1 (w64 (-v_4))).bind fun o9 =>
  (jn (QN (fun (y : (List Int)) => [(0, .v (ssl eI c)), (1, .v (ssl eI set1)), (6, .v (osl eI true y)), (7, .v (iT i_2))])) ((if ¬ (o9 = true) then
  (app 8 out_1 ([v_4])).bind fun l_14 =>
  some l_14
  else
  some out_1) : Option (List Int))).bind fun out_16 =>
  some (.inl (out_16, w64 (i_2 + 1)))
  else
  some (.inr (.inl out_1)) : (List Int) × Int -> Option (((List Int) × Int) ⊕ ((List Int) ⊕ ((List Int) × Bool))))) (by exact go)
instance i108 : Rn cx (f108 c set1) 108 [(ssl eI c), (ssl eI set1)] (fun (r : (List Int) × Bool) => (.tup [(osl eI true r.1), (.bool r.2)])) (fun r => []) := Rn.o (e := (
  sn 4 6 (osl eI true ([])) <| 
  (iter (f108_0 c set1) ([], 0)).bind fun o => match o with
  | .inl out_19 =>
  some (out_19, false)
  | .inr (x_20, x_21) =>
  some (x_20, x_21) : Option ((List Int) × Bool))) rfl (by exact go)
instance : Io0 cx 108 := ⟨rfl⟩
instance i82_1 {l : (List (List Int))} : Lp cx (f82_1 l) 49 L82_1 (fun (zs : (List Int) × Bool × Int) => [(0, .v (ssl (eL eI) l)), (6, .v (osl eI true zs.1)), (7, .v (.bool zs.2.1)), (8, .v (iT zs.2.2))]) (QO (QX 2 (fun (y : (List Int) × Bool) => [(0, .v (ssl (eL eI) l)), (6, .v (osl eI true y.1)), (7, .v (.bool y.2))])) (QR (fun (y : (List Int) × Bool) => [(4, .v (osl eI true y.1)), (5, .v (.bool y.2))]))) := Lp.of (f := (fun
 | (out_6, more_7, i_8) =>
  (jn (QN (fun (y : Bool) => [(0, .v (ssl (eL eI) l)), (6, .v (osl eI true out_6)), (7, .v (.bool more_7)), (8, .v (iT i_8)), (22, .v (.bool y))])) ((if i_8 < (l.length : Int) then
  some (decide (¬ (more_7 = true)))
  else
  some false) : Option (Bool))).bind fun x_9 =>
  if x_9 = true then
  (jb 3 (QO (QN (fun (y : (List Int) × Bool) => [(0, .v (ssl (eL eI) l)), (6, .v (osl eI true y.1)), (7, .v (.bool y.2)), (8, .v (iT i_8))])) (QR (fun (y : (List Int) × Bool) => [(4, .v (osl eI true y.1)), (5, .v (.bool y.2))]))) (((ix l i_8).bind fun v_15 =>
  (f108 v_15 out_6).bind fun o17 =>
  if o17.2 = true then
  some (.inl (out_6, more_7))
  else
  if (o17.1.length : Int) = 0 then
  some (.inr (out_6, true))
  else
  (jn (QN (fun (y : (List Int) × Bool) => [(0, .v (ssl (eL eI) l)), (6, .v (osl eI true y.1)), (7, .v (.bool y.2)), (8, .v (iT i_8))])) ((if (o17.1.length : Int) = 1 then
  (ix o17.1 0).bind fun v_24 =>
  (app 8 out_6 ([v_24])).bind fun l_26 =>
  some (l_26, true)
  else
  some (out_6, more_7)) : Option ((List Int) × Bool))).bind fun (out_28, more_29) =>
  some (.inl (out_28, more_29))) : Option (((List Int) × Bool) ⊕ ((List Int) × Bool)))).bind fun o => match o with
  | .inl (out_30, more_31) =>
  some (.inl (out_30, more_31, w64 (i_8 + 1)))
  | .inr (x_32, x_33) =>
  some (.inr (.inr (x_32, x_33)))
  else
  some (.inr (.inl (out_6, more_7))) : (List Int) × Bool × Int -> Option (((List Int) × Bool × Int) ⊕ (((List Int) × Bool) ⊕ ((List Int) × Bool))))) (by exact go)
instance i82_0 {l : (List (List Int))} : Lp cx (f82_0 l) 49 L82_0 (fun (zs : (List Int) × Bool) => [(0, .v (ssl (eL eI) l)), (6, .v (osl eI true zs.1)), (7, .v (.bool zs.2))]) (QO (QX 0 (fun (y : (List Int)) => [(6, .v (osl eI true y))])) (QR (fun (y : (List Int) × Bool) => [(4, .v (osl eI true y.1)), (5, .v (.bool y.2))]))) := Lp.of (by unfold f82_0; exact go)
instance i82 {l : (List (List Int))} : Rn cx (f82 l set1) 82 [(ssl (eL eI) l), (ssl eI set1)] (fun (r : (List Int) × Bool) => (.tup [(osl eI true r.1), (.bool r.2)])) (fun r => []) := Rn.o (e := (
  (app 8 ([]) set1).bind fun l_1 =>
  sn 6 6 (osl eI true l_1) <| 
  (iter (f82_0 l) (l_1, true)).bind fun o => match o with
  | .inl out_42 =>
  some (out_42, false)
  | .inr (x_43, x_44) =>
  some (x_43, x_44) : Option ((List Int) × Bool))) rfl (by exact go)
instance : Io0 cx 82 := ⟨rfl⟩
instance i109_0 : Lp cx (f109_0 l) 21 L109_0 (fun (zs : (List Int) × Int) => [(0, .v (ssl eI l)), (3, .v (osl eI true zs.1)), (4, .v (iT zs.2))]) (QX 0 (fun (y : (List Int)) => [(3, .v (osl eI true y))])) := Lp.of (by unfold f109_0; exact go)
instance i109 : Rn cx (f109 l) 109 [(ssl eI l)] (fun (r : (List Int)) => (osl eI true r)) (fun r => []) := Rn.o (e := (
  sn 3 3 (osl eI true ([])) <| 
  (iter (f109_0 l) ([], 0)).bind fun out_10 =>
  some out_10 : Option (List Int))) rfl (by exact go)
instance : Io0 cx 109 := ⟨rfl⟩
instance i83 {t : L22State} {signs : (List Int)} : Rn cx (f83 t signs) 83 [(.ptr true [(iT t.n), (osl (eL eI) false t.l), (osl (eL eI) false t.proof), (osl eB true t.model)]), (ssl eI signs)] (fun (r : L22State) => (.tup [])) (fun r => [(.ptr true [(iT r.n), (osl (eL eI) false r.l), (osl (eL eI) false r.proof), (osl eB true r.model)])]) := Rn.o (e := (
  (f109 signs).bind fun o1 =>
  sn 1 4 (ssl eI o1) <| 
  sn 7 13 (osl (eL eI) false ([o1])) <| 
  sn 0 13 (ssl (eL eI) ([o1])) <| 
  (app 24 t.l ([o1])).bind fun l_3 =>
  (app 24 t.proof ([o1])).bind fun l_5 =>
  some ({ n := t.n, l := l_3, proof := l_5, model := t.model } : L22State) : Option L22State)) rfl (by exact go)
instance i52_0 {t : L22State} {signs : (List Int)} {o1 : ((List Int) × Bool)} {rec : L22State -> (List Int) -> Option (Bool × L22State)} [hrec : ∀ t signs, Rn cx (rec t signs) 52 [(.ptr true [(iT t.n), (osl (eL eI) false t.l), (osl (eL eI) false t.proof), (osl eB true t.model)]), (ssl eI signs)] (fun o => (.bool o.1)) (fun o => [(.ptr true [(iT o.2.n), (osl (eL eI) false o.2.l), (osl (eL eI) false o.2.proof), (osl eB true o.2.model)])])] : Lp cx (f52_0 t signs rec o1) 81 L52_0 (fun (zs : Int) => [(0, .v (.ptr true [(iT t.n), (osl (eL eI) false t.l), (osl (eL eI) false t.proof), (osl eB true t.model)])), (1, .v (ssl eI signs)), (5, .v (osl eI true o1.1)), (7, .v (iT zs))]) (QO (QX 0 (fun (y : Unit) => [(0, .v (.ptr true [(iT t.n), (osl (eL eI) false t.l), (osl (eL eI) false t.proof), (osl eB true t.model)])), (5, .v (osl eI true o1.1))])) (QR (fun (y : Int × (List (List Int)) × (List (List Int)) × (List Bool) × Bool) => [(0, .v (.ptr true [(iT y.1), (osl (eL eI) false y.2.1), (osl (eL eI) false y.2.2.1), (osl eB true y.2.2.2.1)])), (4, .v (.bool y.2.2.2.2))]))) := Lp.of (f := (fun
 | v_6 =>
  if v_6 <= t.n then
  (f54 o1.1 v_6).bind fun o8 =>
  (jn (QN (fun (y : Bool) => [(0, .v (.ptr true [(iT t.n), (osl (eL eI) false t.l), (osl (eL eI) false t.proof), (osl eB true t.model)])), (1, .v (ssl eI signs)), (5, .v (osl eI true o1.1)), (7, .v (iT v_6)), (38, .v (.bool y))])) ((if o8 = true then
  some true
  else
  (f54 o1.1 (w64 (-v_6))).bind fun o13 =>
  some o13) : Option (Bool))).bind fun x_10 =>
  if x_10 = true then
  some (.inl (w64 (v_6 + 1)))
  else
  (app 8 ([]) signs).bind fun l_16 =>
  (app 8 l_16 ([v_6])).bind fun l_18 =>
  sn 7 45 (osl eI true l_18) <| 
  sn 0 45 (ssl eI l_18) <| 
  (rec t l_18).bind fun o20 =>
  (jn (QN (fun (y : Int × (List (List Int)) × (List (List Int)) × (List Bool) × Bool) => [(0, .v (.ptr true [(iT y.1), (osl (eL eI) false y.2.1), (osl (eL eI) false y.2.2.1), (osl eB true y.2.2.2.1)])), (1, .v (ssl eI signs)), (57, .v (.bool y.2.2.2.2))])) ((if o20.1 = true then
  some (o20.2.n, o20.2.l, o20.2.proof, o20.2.model, true)
  else
  (app 8 l_16 ([w64 (-v_6)])).bind fun l_29 =>
  sn 0 55 (osl eI true l_29) <| 
  sn 0 55 (ssl eI l_29) <| 
  (rec o20.2 l_29).bind fun o31 =>
  some (o31.2.n, o31.2.l, o31.2.proof, o31.2.model, o31.1)) : Option (Int × (List (List Int)) × (List (List Int)) × (List Bool) × Bool))).bind fun (t_22, t_23, t_24, t_25, x_26) =>
  if x_26 = true then
  some (.inr (.inr (t_22, t_23, t_24, t_25, true)))
  else
  (f83 ({ n := t_22, l := t_23, proof := t_24, model := t_25 } : L22State) signs).bind fun o34 =>
  some (.inr (.inr (o34.n, o34.l, o34.proof, o34.model, false)))
  else
  some (.inr (.inl ())) : Int -> Option (Int ⊕ (Unit ⊕ (Int × (List (List Int)) × (List (List Int)) × (List Bool) × Bool))))) (by exact go)
instance i52_1 {o1 : ((List Int) × Bool)} : Lp cx (f52_1 o1) 81 L52_1 (fun (zs : Int × (List (List Int)) × (List (List Int)) × (List Bool) × Int) => [(0, .v (.ptr true [(iT zs.1), (osl (eL eI) false zs.2.1), (osl (eL eI) false zs.2.2.1), (osl eB true zs.2.2.2.1)])), (5, .v (osl eI true o1.1)), (8, .v (iT zs.2.2.2.2))]) (QX 2 (fun (y : Int × (List (List Int)) × (List (List Int)) × (List Bool)) => [(0, .v (.ptr true [(iT y.1), (osl (eL eI) false y.2.1), (osl (eL eI) false y.2.2.1), (osl eB true y.2.2.2)]))])) := Lp.of (by unfold f52_1; exact go)
instance i52 : ∀ (n : Nat) t signs, Rn cx (f52 n t signs) 52 [(.ptr true [(iT t.n), (osl (eL eI) false t.l), (osl (eL eI) false t.proof), (osl eB true t.model)]), (ssl eI signs)] (fun (r : Bool × L22State) => (.bool r.1)) (fun r => [(.ptr true [(iT r.2.n), (osl (eL eI) false r.2.l), (osl (eL eI) false r.2.proof), (osl eB true r.2.model)])]) := by
 intro n
 induction n with
 | zero => intro t signs; exact ⟨fun r h => by simp [f52] at h⟩
 | succ n ih =>
  intro t signs
  refine Rn.of rfl rfl (by decide) rfl ?_
  simp only [f52]
  exact go
instance i26 {l : (List (List Int))} : Rn cx (f26 n0 l) 26 [(iT n0), (ssl (eL eI) l)] (fun (r : (List Bool) × (List (List Int)) × Bool) => (.tup [(osl eB true r.1), (osl (eL eI) false r.2.1), (.bool r.2.2)])) (fun r => []) := Rn.o (e := (
  (f51 n0 l).bind fun o1 =>
  if ¬ (o1 = true) then
  sn 5 4 (osl eB true ([])) <| 
  sn 0 5 (osl (eL eI) true ([])) <| 
  some ([], [], false)
  else
  (app 24 ([]) l).bind fun l_4 =>
  sn 4 17 (osl (eL eI) false l_4) <| 
  sn 1 18 (.agg [(iT n0), (osl (eL eI) false l_4), (osl (eL eI) true ([])), (osl eB true ([]))]) <| 
  sn 2 7 (.ptr true [(iT n0), (osl (eL eI) false l_4), (osl (eL eI) false ([])), (osl eB true ([]))]) <| 
  sn 2 21 (osl eI true ([])) <| 
  sn 0 21 (ssl eI ([])) <| 
  (f52 64 ({ n := n0, l := l_4, proof := [], model := [] } : L22State) ([])).bind fun o6 =>
  if o6.1 = true then
  sn 8 5 (osl (eL eI) true ([])) <| 
  some (o6.2.model, [], true)
  else
  sn 8 4 (osl eB true ([])) <| 
  some ([], o6.2.proof, false) : Option ((List Bool) × (List (List Int)) × Bool))) rfl (by exact go)
instance : Io0 cx 26 := ⟨rfl⟩
instance i28_0 : Lp cx (f28_0 m) 21 L28_0 (fun (zs : (List Int) × Int) => [(0, .v (ssl eB m)), (3, .v (osl eI true zs.1)), (4, .v (iT zs.2))]) (QX 0 (fun (y : (List Int)) => [(3, .v (osl eI true y))])) := Lp.of (f := (fun
 | (out_1, i_2) =>
  if i_2 < (m.length : Int) then
  (ix m i_2).bind fun v_4 =>
  (jn (QN (fun (y : (List Int)) => [(0, .v (ssl eB m)), (3, .v (osl eI true y)), (4, .v (iT i_2))])) ((if v_4 = true then
  (app 8 out_1 ([i_2])).bind fun l_9 =>
  some l_9
  else
  some out_1) : Option (List Int))).bind fun out_11 =>
  some (.inl (out_11, w64 (i_2 + 1)))
  else
  some (.inr out_1) : (List Int) × Int -> Option (((List Int) × Int) ⊕ (List Int)))) (by exact go)
instance i28 : Rn cx (f28 m) 28 [(ssl eB m)] (fun (r : (List Int)) => (osl eI true r)) (fun r => []) := Rn.o (e := (
  sn 3 3 (osl eI true ([])) <| 
  (iter (f28_0 m) ([], 0)).bind fun out_14 =>
  some out_14 : Option (List Int))) rfl (by exact go)
instance : Io0 cx 28 := ⟨rfl⟩
instance i27_1 {i_12 : Int} : Lp cx (f27_1 s1 o9 i_12) 67 L27_1 (fun (zs : (List Int) × Bool × Int) => [(1, .v (ssl eI s1)), (6, .v (osl eI true zs.1)), (7, .v (osl (eL eI) true o9)), (8, .v (iT i_12)), (9, .v (.bool zs.2.1)), (10, .v (iT zs.2.2))]) (QX 2 (fun (y : (List Int) × Bool) => [(1, .v (ssl eI s1)), (6, .v (osl eI true y.1)), (7, .v (osl (eL eI) true o9)), (8, .v (iT i_12)), (9, .v (.bool y.2))])) := Lp.of (f := (fun
 | (out_14, met_15, k_16) =>
  (ix o9 i_12).bind fun v_17 =>
  (jn (QN (fun (y : Bool) => [(1, .v (ssl eI s1)), (6, .v (osl eI true out_14)), (7, .v (osl (eL eI) true o9)), (8, .v (iT i_12)), (9, .v (.bool met_15)), (10, .v (iT k_16)), (40, .v (.bool y))])) ((if k_16 < (v_17.length : Int) then
  some (decide (¬ (met_15 = true)))
  else
  some false) : Option (Bool))).bind fun x_19 =>
  if x_19 = true then
  (ix v_17 k_16).bind fun v_23 =>
  (f54 s1 v_23).bind fun o25 =>
  (jn (QN (fun (y : (List Int) × Bool) => [(1, .v (ssl eI s1)), (6, .v (osl eI true y.1)), (7, .v (osl (eL eI) true o9)), (8, .v (iT i_12)), (9, .v (.bool y.2)), (10, .v (iT k_16))])) ((if o25 = true then
  (app 8 out_14 ([v_23])).bind fun l_30 =>
  some (l_30, true)
  else
  some (out_14, met_15)) : Option ((List Int) × Bool))).bind fun (out_32, met_33) =>
  some (.inl (out_32, met_33, w64 (k_16 + 1)))
  else
  some (.inr (out_14, met_15)) : (List Int) × Bool × Int -> Option (((List Int) × Bool × Int) ⊕ ((List Int) × Bool)))) (by exact go)
instance i27_0 : Lp cx (f27_0 s1 o9) 67 L27_0 (fun (zs : (List Int) × Int) => [(1, .v (ssl eI s1)), (6, .v (osl eI true zs.1)), (7, .v (osl (eL eI) true o9)), (8, .v (iT zs.2))]) (QO (QX 0 (fun (y : (List Int)) => [(6, .v (osl eI true y))])) (QR (fun (y : (List Int) × Bool) => [(4, .v (osl eI true y.1)), (5, .v (.bool y.2))]))) := Lp.of (f := (fun
 | (out_11, i_12) =>
  if i_12 < (o9.length : Int) then
  (iter (f27_1 s1 o9 i_12) (out_11, false, 0)).bind fun (out_36, met_37) =>
  if ¬ (met_37 = true) then
  sn 3 4 (osl eI true ([])) <| 
  some (.inr (.inr ([], false)))
  else
  some (.inl (out_36, w64 (i_12 + 1)))
  else
  some (.inr (.inl out_11)) : (List Int) × Int -> Option (((List Int) × Int) ⊕ ((List Int) ⊕ ((List Int) × Bool))))) (by exact go)
instance i27 : Rn cx (f27 d s1) 27 [(.agg [(ssl eRelation d.Relations), (ssl eFact d.Facts)]), (ssl eI s1)] (fun (r : (List Int) × Bool) => (.tup [(osl eI true r.1), (.bool r.2)])) (fun r => []) := Rn.o (e := (
  (f49 d).bind fun o1 =>
  (jn (QN (fun (y : Bool) => [(1, .v (ssl eI s1)), (2, .v (.ptr true [(ssl eRelation d.Relations), (ssl eFact d.Facts)])), (19, .v (.bool y))])) ((if ¬ (o1 = true) then
  some true
  else
  (f53 d s1).bind fun o6 =>
  some (decide (¬ (o6 = true)))) : Option (Bool))).bind fun x_3 =>
  if x_3 = true then
  sn 3 4 (osl eI true ([])) <| 
  some ([], false)
  else
  sn 2 6 (osl eI true ([])) <| 
  (f47 d).bind fun o9 =>
  (iter (f27_0 s1 o9) ([], 0)).bind fun o => match o with
  | .inl out_41 =>
  (f55 out_41).bind fun o44 =>
  some (o44, true)
  | .inr (x_42, x_43) =>
  some (x_42, x_43) : Option ((List Int) × Bool))) rfl (by exact go)
instance : Io0 cx 27 := ⟨rfl⟩
instance i6 : Rn cx (f6 d q) 6 [(.agg [(ssl eRelation d.Relations), (ssl eFact d.Facts)]), (.agg [(iT q.VariableCount), (ssl eAtom q.Atoms), (ssl eI q.Free)])] (fun (r : (List Int) × (List (List Int)) × Bool) => (.tup [(osl eI true r.1), (ssl (eL eI) r.2.1), (.bool r.2.2)])) (fun r => []) := Rn.o (e := (
  (f24 d q).bind fun o1 =>
  (f25 d q).bind fun o3 =>
  (jn (QN (fun (y : Bool) => [(2, .v (.ptr true [(ssl eRelation d.Relations), (ssl eFact d.Facts)])), (7, .v (osl (eL eI) true o1)), (24, .v (.bool y))])) ((if ¬ (o3 = true) then
  some true
  else
  some (decide ((o1.length : Int) > 400))) : Option (Bool))).bind fun x_5 =>
  if x_5 = true then
  sn 5 4 (osl eI true ([])) <| 
  sn 0 5 (osl (eL eI) true ([])) <| 
  some ([], [], false)
  else
  sn 4 31 (ssl (eL eI) o1) <| 
  (f26 (d.Facts.length : Int) o1).bind fun o9 =>
  if ¬ (o9.2.2 = true) then
  sn 5 4 (osl eI true ([])) <| 
  some ([], o9.2.1, true)
  else
  (f28 o9.1).bind fun o12 =>
  (f27 d o12).bind fun o14 =>
  sn 10 5 (osl (eL eI) true ([])) <| 
  some (o14.1, [], false) : Option ((List Int) × (List (List Int)) × Bool))) rfl (by exact go)
instance : Io0 cx 6 := ⟨rfl⟩
instance i90 : Rn cx (f90 n0 low high) 90 [(iT n0), (iT low), (iT high)] (fun (r : Bool) => (.bool r)) (fun r => []) := Rn.o (e := (
  (jn (QN (fun (y : Bool) => [(6, .v (.bool y))])) ((if low <= n0 then
  some (decide (n0 <= high))
  else
  some false) : Option (Bool))).bind fun x_1 =>
  some x_1 : Option Bool)) rfl (by exact go)
instance : Io0 cx 90 := ⟨rfl⟩
instance i116 {relation : Relation} : Rn cx (f116 relation) 116 [(.agg [(.str relation.Name), (iT relation.Arity), (iT relation.KeyLength)])] (fun (r : Bool) => (.bool r)) (fun r => []) := Rn.o (e := (
  (jn (QN (fun (y : Bool) => [(2, .v (.bool y))])) ((if (relation.Name.length : Int) = 1 then
  (ix relation.Name 0).bind fun c_4 =>
  (jn (QN (fun (y : Bool) => [(2, .v (.bool y))])) ((if (c_4.toNat : Int) >= 97 then
  (jn (QN (fun (y : Bool) => [(2, .v (.bool y))])) ((if (c_4.toNat : Int) <= 122 then
  (f90 relation.Arity 1 3).bind fun o12 =>
  (jn (QN (fun (y : Bool) => [(2, .v (.bool y))])) ((if o12 = true then
  (f90 relation.KeyLength 0 relation.Arity).bind fun o17 =>
  some o17
  else
  some false) : Option (Bool))).bind fun x_14 =>
  some x_14
  else
  some false) : Option (Bool))).bind fun x_9 =>
  some x_9
  else
  some false) : Option (Bool))).bind fun x_6 =>
  some x_6
  else
  some false) : Option (Bool))).bind fun x_1 =>
  some x_1 : Option Bool)) rfl (by exact go)
instance : Io0 cx 116 := ⟨rfl⟩
instance i87_0 : Lp cx (f87_0 relations) 34 L87_0 (fun (zs : Int) => [(0, .v (ssl eRelation relations)), (5, .v (ssl eRelation relations)), (6, .v (iT (relations.length : Int))), (7, .v (iT zs))]) (QO (QX 0 (fun (y : Unit) => [(0, .v (ssl eRelation relations))])) (QR (fun (y : Bool) => [(2, .v (.bool y))]))) := Lp.of (f := (fun
 | x_1 =>
  if x_1 < (relations.length : Int) then
  (ix relations x_1).bind fun v_3 =>
  (f116 v_3).bind fun o5 =>
  (jn (QN (fun (y : Bool) => [(0, .v (ssl eRelation relations)), (5, .v (ssl eRelation relations)), (6, .v (iT (relations.length : Int))), (7, .v (iT x_1)), (29, .v (.bool y))])) ((if ¬ (o5 = true) then
  some true
  else
  (jn (QN (fun (y : Bool) => [(0, .v (ssl eRelation relations)), (5, .v (ssl eRelation relations)), (6, .v (iT (relations.length : Int))), (7, .v (iT x_1)), (29, .v (.bool y))])) ((if x_1 > 0 then
  (ix relations (w64 (x_1 - 1))).bind fun v_13 =>
  some (!(Op.bytesLess v_13.Name v_3.Name))
  else
  some false) : Option (Bool))).bind fun x_10 =>
  some x_10) : Option (Bool))).bind fun x_7 =>
  if x_7 = true then
  some (.inr (.inr false))
  else
  some (.inl (w64 (x_1 + 1)))
  else
  some (.inr (.inl ())) : Int -> Option (Int ⊕ (Unit ⊕ Bool)))) (by exact go)
instance i87 : Rn cx (f87 relations) 87 [(ssl eRelation relations)] (fun (r : Bool) => (.bool r)) (fun r => []) := Rn.o rfl (by unfold f87; exact go)
instance : Io0 cx 87 := ⟨rfl⟩
instance i67_0 {s0 : (List Int)} {g_f : Nat} {cp_f : List T} {f : Int -> Option Bool} [hp_f : ∀ x0, Rn cx (f x0) g_f ((iT x0) :: cp_f) (fun o => (.bool o)) (fun _ => [])] [Io0 cx g_f] : Lp cx (f67_0 s0 f) 19 L67_0 (fun (zs : Int) => [(0, .v (ssl eI s0)), (1, .v (.fn g_f cp_f)), (7, .v (iT (s0.length : Int))), (8, .v (iT zs))]) (QO (QX 0 (fun (y : Unit) => [])) (QR (fun (y : Int) => [(4, .v (iT y))]))) := Lp.of (by unfold f67_0; exact go)
instance i67 {s0 : (List Int)} {g_f : Nat} {cp_f : List T} {f : Int -> Option Bool} [hp_f : ∀ x0, Rn cx (f x0) g_f ((iT x0) :: cp_f) (fun o => (.bool o)) (fun _ => [])] [Io0 cx g_f] : Rn cx (f67 s0 f) 67 [(ssl eI s0), (.fn g_f cp_f)] (fun (r : Int) => (iT r)) (fun r => []) := Rn.o rfl (by unfold f67; exact go)
instance : Io0 cx 67 := ⟨rfl⟩
instance i126 {s0 : (List Int)} {g_f : Nat} {cp_f : List T} {f : Int -> Option Bool} [hp_f : ∀ x0, Rn cx (f x0) g_f ((iT x0) :: cp_f) (fun o => (.bool o)) (fun _ => [])] [Io0 cx g_f] : Rn cx (f126 s0 f) 126 [(ssl eI s0), (.fn g_f cp_f)] (fun (r : Bool) => (.bool r)) (fun r => []) := Rn.o rfl (by unfold f126; exact go)
instance : Io0 cx 126 := ⟨rfl⟩
instance i147 : Rn cx (f147 v) 147 [(iT v)] (fun (r : Bool) => (.bool r)) (fun r => []) := Rn.o rfl (by unfold f147; exact go)
instance : Io0 cx 147 := ⟨rfl⟩
instance i117 {list : (List Int)} : Rn cx (f117 list) 117 [(ssl eI list)] (fun (r : Bool) => (.bool r)) (fun r => []) := Rn.o rfl (by unfold f117; exact go)
instance : Io0 cx 117 := ⟨rfl⟩
instance i88 {fact : Fact} : Rn cx (f88 relations fact) 88 [(ssl eRelation relations), (.agg [(iT fact.Relation), (ssl eI fact.Values)])] (fun (r : Bool) => (.bool r)) (fun r => []) := Rn.o (e := (
  (f90 fact.Relation 0 (w64 ((relations.length : Int) - 1))).bind fun o1 =>
  (jn (QN (fun (y : Bool) => [(4, .v (.bool y))])) ((if o1 = true then
  (ix relations fact.Relation).bind fun v_6 =>
  (jn (QN (fun (y : Bool) => [(4, .v (.bool y))])) ((if (fact.Values.length : Int) = v_6.Arity then
  (f117 fact.Values).bind fun o11 =>
  some o11
  else
  some false) : Option (Bool))).bind fun x_8 =>
  some x_8
  else
  some false) : Option (Bool))).bind fun x_3 =>
  some x_3 : Option Bool)) rfl (by exact go)
instance : Io0 cx 88 := ⟨rfl⟩
instance i118 {a : Int} {b : Int} : Rn cx (f118 a b) 118 [(iT a), (iT b)] (fun (r : Int) => (iT r)) (fun r => []) := Rn.o rfl (by unfold f118; exact go)
instance : Io0 cx 118 := ⟨rfl⟩
instance i157 : Rn cx (f157 x) 157 [(iT x)] (fun (r : Bool) => (.bool r)) (fun r => []) := Rn.o rfl (by unfold f157; exact go)
instance : Io0 cx 157 := ⟨rfl⟩
instance i148 : Rn cx (f148 x y) 148 [(iT x), (iT y)] (fun (r : Int) => (iT r)) (fun r => []) := Rn.o rfl (by unfold f148; exact go)
instance : Io0 cx 148 := ⟨rfl⟩
instance i119_0 : Lp cx (f119_0 s1 s2) 36 L119_0 (fun (zs : Int) => [(0, .v (ssl eI s1)), (1, .v (ssl eI s2)), (9, .v (ssl eI s1)), (10, .v (iT (s1.length : Int))), (11, .v (iT zs))]) (QO (QX 0 (fun (y : Unit) => [(0, .v (ssl eI s1)), (1, .v (ssl eI s2))])) (QR (fun (y : Int) => [(4, .v (iT y))]))) := Lp.of (by unfold f119_0; exact go)
instance i119 : Rn cx (f119 s1 s2) 119 [(ssl eI s1), (ssl eI s2)] (fun (r : Int) => (iT r)) (fun r => []) := Rn.o rfl (by unfold f119; exact go)
instance : Io0 cx 119 := ⟨rfl⟩
instance i89 {a : Fact} {b : Fact} : Rn cx (f89 a b) 89 [(.agg [(iT a.Relation), (ssl eI a.Values)]), (.agg [(iT b.Relation), (ssl eI b.Values)])] (fun (r : Int) => (iT r)) (fun r => []) := Rn.o rfl (by unfold f89; exact go)
instance : Io0 cx 89 := ⟨rfl⟩
instance i62_0 : Lp cx (f62_0 db) 44 L62_0 (fun (zs : Int) => [(1, .v (.ptr true [(ssl eRelation db.Relations), (ssl eFact db.Facts)])), (16, .v (ssl eFact db.Facts)), (17, .v (iT (db.Facts.length : Int))), (18, .v (iT zs))]) (QO (QX 0 (fun (y : Unit) => [])) (QR (fun (y : Bool) => [(2, .v (.bool y))]))) := Lp.of (f := (fun
 | x_7 =>
  if x_7 < (db.Facts.length : Int) then
  (ix db.Facts x_7).bind fun v_9 =>
  (f88 db.Relations v_9).bind fun o11 =>
  (jn (QN (fun (y : Bool) => [(1, .v (.ptr true [(ssl eRelation db.Relations), (ssl eFact db.Facts)])), (16, .v (ssl eFact db.Facts)), (17, .v (iT (db.Facts.length : Int))), (18, .v (iT x_7)), (42, .v (.bool y))])) ((if ¬ (o11 = true) then
  some true
  else
  (jn (QN (fun (y : Bool) => [(1, .v (.ptr true [(ssl eRelation db.Relations), (ssl eFact db.Facts)])), (16, .v (ssl eFact db.Facts)), (17, .v (iT (db.Facts.length : Int))), (18, .v (iT x_7)), (42, .v (.bool y))])) ((if x_7 > 0 then
  (ix db.Facts (w64 (x_7 - 1))).bind fun v_19 =>
  (f89 v_19 v_9).bind fun o21 =>
  some (decide (o21 >= 0))
  else
  some false) : Option (Bool))).bind fun x_16 =>
  some x_16) : Option (Bool))).bind fun x_13 =>
  if x_13 = true then
  some (.inr (.inr false))
  else
  some (.inl (w64 (x_7 + 1)))
  else
  some (.inr (.inl ())) : Int -> Option (Int ⊕ (Unit ⊕ Bool)))) (by exact go)
instance i62 : Rn cx (f62 db) 62 [(.agg [(ssl eRelation db.Relations), (ssl eFact db.Facts)])] (fun (r : Bool) => (.bool r)) (fun r => []) := Rn.o (e := (
  (f87 db.Relations).bind fun o1 =>
  (jn (QN (fun (y : Bool) => [(1, .v (.ptr true [(ssl eRelation db.Relations), (ssl eFact db.Facts)])), (14, .v (.bool y))])) ((if ¬ (o1 = true) then
  some true
  else
  some (decide ((db.Facts.length : Int) > 14))) : Option (Bool))).bind fun x_3 =>
  if x_3 = true then
  some false
  else
  (iter (f62_0 db) 0).bind fun o => match o with
  | .inl _ =>
  some true
  | .inr x_26 =>
  some x_26 : Option Bool)) rfl (by exact go)
instance : Io0 cx 62 := ⟨rfl⟩
instance i66_0 : Lp cx (f66_0 indices n1) 33 L66_0 (fun (zs : Int) => [(0, .v (ssl eI indices)), (1, .v (iT n1)), (7, .v (ssl eI indices)), (8, .v (iT (indices.length : Int))), (9, .v (iT zs))]) (QO (QX 0 (fun (y : Unit) => [])) (QR (fun (y : Bool) => [(4, .v (.bool y))]))) := Lp.of (f := (fun
 | x_1 =>
  if x_1 < (indices.length : Int) then
  (ix indices x_1).bind fun v_3 =>
  (f90 v_3 0 (w64 (n1 - 1))).bind fun o5 =>
  (jn (QN (fun (y : Bool) => [(0, .v (ssl eI indices)), (1, .v (iT n1)), (7, .v (ssl eI indices)), (8, .v (iT (indices.length : Int))), (9, .v (iT x_1)), (31, .v (.bool y))])) ((if ¬ (o5 = true) then
  some true
  else
  (jn (QN (fun (y : Bool) => [(0, .v (ssl eI indices)), (1, .v (iT n1)), (7, .v (ssl eI indices)), (8, .v (iT (indices.length : Int))), (9, .v (iT x_1)), (31, .v (.bool y))])) ((if x_1 > 0 then
  (ix indices (w64 (x_1 - 1))).bind fun v_13 =>
  some (decide (v_13 >= v_3))
  else
  some false) : Option (Bool))).bind fun x_10 =>
  some x_10) : Option (Bool))).bind fun x_7 =>
  if x_7 = true then
  some (.inr (.inr false))
  else
  some (.inl (w64 (x_1 + 1)))
  else
  some (.inr (.inl ())) : Int -> Option (Int ⊕ (Unit ⊕ Bool)))) (by exact go)
instance i66 : Rn cx (f66 indices n1) 66 [(ssl eI indices), (iT n1)] (fun (r : Bool) => (.bool r)) (fun r => []) := Rn.o rfl (by unfold f66; exact go)
instance : Io0 cx 66 := ⟨rfl⟩
instance i120_0 {s0 : (List Atom)} {g_f : Nat} {cp_f : List T} {f : Atom -> Option Bool} [hp_f : ∀ x0, Rn cx (f x0) g_f ((.agg [(iT x0.Relation), (ssl eI x0.Terms)]) :: cp_f) (fun o => (.bool o)) (fun _ => [])] [Io0 cx g_f] : Lp cx (f120_0 s0 f) 19 L120_0 (fun (zs : Int) => [(0, .v (ssl eAtom s0)), (1, .v (.fn g_f cp_f)), (7, .v (iT (s0.length : Int))), (8, .v (iT zs))]) (QO (QX 0 (fun (y : Unit) => [])) (QR (fun (y : Int) => [(4, .v (iT y))]))) := Lp.of (by unfold f120_0; exact go)
instance i120 {s0 : (List Atom)} {g_f : Nat} {cp_f : List T} {f : Atom -> Option Bool} [hp_f : ∀ x0, Rn cx (f x0) g_f ((.agg [(iT x0.Relation), (ssl eI x0.Terms)]) :: cp_f) (fun o => (.bool o)) (fun _ => [])] [Io0 cx g_f] : Rn cx (f120 s0 f) 120 [(ssl eAtom s0), (.fn g_f cp_f)] (fun (r : Int) => (iT r)) (fun r => []) := Rn.o rfl (by unfold f120; exact go)
instance : Io0 cx 120 := ⟨rfl⟩
instance i91 {s0 : (List Atom)} {g_f : Nat} {cp_f : List T} {f : Atom -> Option Bool} [hp_f : ∀ x0, Rn cx (f x0) g_f ((.agg [(iT x0.Relation), (ssl eI x0.Terms)]) :: cp_f) (fun o => (.bool o)) (fun _ => [])] [Io0 cx g_f] : Rn cx (f91 s0 f) 91 [(ssl eAtom s0), (.fn g_f cp_f)] (fun (r : Bool) => (.bool r)) (fun r => []) := Rn.o rfl (by unfold f91; exact go)
instance : Io0 cx 91 := ⟨rfl⟩
instance i92 {own : Atom} {c : Atom} : Rn cx (f92 own c) 92 [(.agg [(iT own.Relation), (ssl eI own.Terms)]), (.ptr false [(iT c.Relation), (ssl eI c.Terms)])] (fun (r : Bool) => (.bool r)) (fun r => []) := Rn.o rfl (by unfold f92; exact go)
instance : Io0 cx 92 := ⟨rfl⟩
theorem r149 {n : Int} {r : Nat} (h : f149 n = some r) : VJx cx (.ca 149 [.nils, .int .i64 n] (.sl true true 1 r []) []) := by
 exact ca_grow (zs := [.int .i64 (0)]) (zt := [(iT 0)]) rfl rfl rfl rfl (by decide) (by decide) h
instance i149 : Rn cx (f149 n) 149 [.nils, .int .i64 n] (fun r => .sl true true 1 r []) (fun _ => []) := ⟨fun _ h => r149 h⟩
instance i121_0 : Lp cx (f121_0 slices) 36 L121_0 (fun (zs : Int × Int) => [(0, .v (ssl (eL eI) slices)), (3, .v (iT zs.1)), (9, .v (ssl (eL eI) slices)), (10, .v (iT (slices.length : Int))), (11, .v (iT zs.2))]) (QX 0 (fun (y : Int) => [(0, .v (ssl (eL eI) slices)), (3, .v (iT y))])) := Lp.of (f := (fun
 | (size_1, x_2) =>
  if x_2 < (slices.length : Int) then
  (ix slices x_2).bind fun v_4 =>
  (jn (QN (fun (y : Unit) => [(0, .v (ssl (eL eI) slices)), (3, .v (iT (w64 (size_1 + (v_4.length : Int))))), (9, .v (ssl (eL eI) slices)), (10, .v (iT (slices.length : Int))), (11, .v (iT x_2))])) ((if (w64 (size_1 + (v_4.length : Int))) < 0 then
  none
  else
  some ()) : Option Unit)).bind fun _ =>
  some (.inl (w64 (size_1 + (v_4.length : Int)), w64 (x_2 + 1)))
  else
  some (.inr size_1) : Int × Int -> Option ((Int × Int) ⊕ Int))) (by exact go)
instance i121_1 : Lp cx (f121_1 slices) 36 L121_1 (fun (zs : Nat × (List Int) × Int) => [(6, .v (.sl true true 1 zs.1 (arr eI true zs.2.1))), (25, .v (ssl (eL eI) slices)), (26, .v (iT (slices.length : Int))), (27, .v (iT zs.2.2))]) (QX 2 (fun (y : Nat × (List Int)) => [(6, .v (.sl true true 1 y.1 (arr eI true y.2)))])) := Lp.of (by unfold f121_1; exact go)
instance i121 : Rn cx (f121 slices) 121 [(ssl (eL eI) slices)] (fun (r : (List Int)) => (osl eI true r)) (fun r => []) := Rn.o rfl (by unfold f121; exact go)
instance : Io0 cx 121 := ⟨rfl⟩
theorem r86 {l : List Int} {r : List Int} (h : f86 l = some r) : VJx cx (.ca 86 [osl eI true l] (.tup []) [osl eI true r]) := by
 exact ca_sort (X := X0) (fun _ _ _ _ _ h => .inl h) (fun _ _ _ _ h => h) rfl h
instance i86 {l : List Int} : Rn cx (f86 l) 86 [osl eI true l] (fun _ => .tup []) (fun r => [osl eI true r]) := ⟨fun _ h => r86 h⟩
theorem r122 {l : List Int} {r : List Int} (h : f122 l = some r) : VJx cx (.ca 122 [osl eI true l] (osl eI true r) [.und]) := by
 exact ca_comp (X := X0) (fun _ _ _ _ _ h => .inr (h)) (fun _ _ _ _ h => h) rfl h
instance i122 {l : List Int} : Rn cx (f122 l) 122 [osl eI true l] (fun r => osl eI true r) (fun _ => [.und]) := ⟨fun _ h => r122 h⟩
instance i93 : Rn cx (f93 a b) 93 [(ssl eI a), (ssl eI b)] (fun (r : (List Int)) => (osl eI true r)) (fun r => []) := Rn.o (e := (
  sn 4 8 (osl (eL eI) false ([a, b])) <| 
  (f121 ([a, b])).bind fun o1 =>
  (f86 o1).bind fun o3 =>
  (f122 o3).bind fun o5 =>
  some o5 : Option (List Int))) rfl (by exact go)
instance : Io0 cx 93 := ⟨rfl⟩
instance i94_0 : Lp cx (f94_0 atom) 23 L94_0 (fun (zs : (List Int) × Int) => [(1, .v (.ptr true [(iT atom.Relation), (ssl eI atom.Terms)])), (3, .v (osl eI true zs.1)), (8, .v (ssl eI atom.Terms)), (9, .v (iT (atom.Terms.length : Int))), (10, .v (iT zs.2))]) (QX 0 (fun (y : (List Int)) => [(3, .v (osl eI true y))])) := Lp.of (f := (fun
 | (out_1, x_2) =>
  if x_2 < (atom.Terms.length : Int) then
  (ix atom.Terms x_2).bind fun v_4 =>
  (f90 v_4 0 3).bind fun o6 =>
  (jn (QN (fun (y : (List Int)) => [(1, .v (.ptr true [(iT atom.Relation), (ssl eI atom.Terms)])), (3, .v (osl eI true y)), (8, .v (ssl eI atom.Terms)), (9, .v (iT (atom.Terms.length : Int))), (10, .v (iT x_2))])) ((if o6 = true then
  (app 8 out_1 ([v_4])).bind fun l_11 =>
  some l_11
  else
  some out_1) : Option (List Int))).bind fun out_13 =>
  some (.inl (out_13, w64 (x_2 + 1)))
  else
  some (.inr out_1) : (List Int) × Int -> Option (((List Int) × Int) ⊕ (List Int)))) (by exact go)
instance i94 : Rn cx (f94 atom) 94 [(.agg [(iT atom.Relation), (ssl eI atom.Terms)])] (fun (r : (List Int)) => (osl eI true r)) (fun r => []) := Rn.o (e := (
  sn 4 3 (osl eI true ([])) <| 
  (iter (f94_0 atom) ([], 0)).bind fun out_16 =>
  (f93 out_16 ([] : (List Int))).bind fun o17 =>
  some o17 : Option (List Int))) rfl (by exact go)
instance : Io0 cx 94 := ⟨rfl⟩
instance i63_1 {occurring_19 : (List Int)} {x_20 : Int} {v_22 : Atom} : Lp cx (lw (relations, occurring_19, x_20) (f63_1 query v_22)) 94 L63_1 (fun (zs : Int) => [(0, .v (ssl eRelation relations)), (3, .v (.ptr true [(iT query.VariableCount), (ssl eAtom query.Atoms), (ssl eI query.Free)])), (5, .v (osl eI true occurring_19)), (7, .v (.ptr true [(iT v_22.Relation), (ssl eI v_22.Terms)])), (36, .v (ssl eAtom query.Atoms)), (37, .v (iT (query.Atoms.length : Int))), (38, .v (iT x_20)), (71, .v (ssl eI v_22.Terms)), (72, .v (iT (v_22.Terms.length : Int))), (73, .v (iT zs))]) (QO (QX 2 (fun (y : Unit) => [(0, .v (ssl eRelation relations)), (3, .v (.ptr true [(iT query.VariableCount), (ssl eAtom query.Atoms), (ssl eI query.Free)])), (5, .v (osl eI true occurring_19)), (7, .v (.ptr true [(iT v_22.Relation), (ssl eI v_22.Terms)])), (36, .v (ssl eAtom query.Atoms)), (37, .v (iT (query.Atoms.length : Int))), (38, .v (iT x_20))])) (QR (fun (y : Bool) => [(4, .v (.bool y))]))) := Lp.of (by unfold lw f63_1; exact go)
instance i63_0 : Lp cx (f63_0 relations query) 94 L63_0 (fun (zs : (List Int) × Int) => [(0, .v (ssl eRelation relations)), (3, .v (.ptr true [(iT query.VariableCount), (ssl eAtom query.Atoms), (ssl eI query.Free)])), (5, .v (osl eI true zs.1)), (36, .v (ssl eAtom query.Atoms)), (37, .v (iT (query.Atoms.length : Int))), (38, .v (iT zs.2))]) (QO (QX 0 (fun (y : (List Int)) => [(3, .v (.ptr true [(iT query.VariableCount), (ssl eAtom query.Atoms), (ssl eI query.Free)])), (5, .v (osl eI true y))])) (QR (fun (y : Bool) => [(4, .v (.bool y))]))) := Lp.of (f := (fun
 | (occurring_19, x_20) =>
  if x_20 < (query.Atoms.length : Int) then
  (ix query.Atoms x_20).bind fun v_22 =>
  (f90 v_22.Relation 0 (w64 ((relations.length : Int) - 1))).bind fun o24 =>
  (jn (QN (fun (y : Bool) => [(0, .v (ssl eRelation relations)), (3, .v (.ptr true [(iT query.VariableCount), (ssl eAtom query.Atoms), (ssl eI query.Free)])), (5, .v (osl eI true occurring_19)), (7, .v (.ptr true [(iT v_22.Relation), (ssl eI v_22.Terms)])), (36, .v (ssl eAtom query.Atoms)), (37, .v (iT (query.Atoms.length : Int))), (38, .v (iT x_20)), (69, .v (.bool y))])) ((if ¬ (o24 = true) then
  some true
  else
  (ix relations v_22.Relation).bind fun v_29 =>
  (jn (QN (fun (y : Bool) => [(0, .v (ssl eRelation relations)), (3, .v (.ptr true [(iT query.VariableCount), (ssl eAtom query.Atoms), (ssl eI query.Free)])), (5, .v (osl eI true occurring_19)), (7, .v (.ptr true [(iT v_22.Relation), (ssl eI v_22.Terms)])), (36, .v (ssl eAtom query.Atoms)), (37, .v (iT (query.Atoms.length : Int))), (38, .v (iT x_20)), (69, .v (.bool y))])) ((if (v_22.Terms.length : Int) ≠ v_29.Arity then
  some true
  else
  (cutL query.Atoms 0 x_20).bind fun l_34 =>
  (f91 l_34 (fun x0 => f92 x0 v_22)).bind fun o36 =>
  some o36) : Option (Bool))).bind fun x_31 =>
  some x_31) : Option (Bool))).bind fun x_26 =>
  if x_26 = true then
  some (.inr (.inr false))
  else
  (iter (lw (relations, occurring_19, x_20)  (f63_1 query v_22)) 0).bind fun o => match o with
  | .inl _ =>
  (f94 v_22).bind fun o49 =>
  (f93 occurring_19 o49).bind fun o51 =>
  some (.inl (o51, w64 (x_20 + 1)))
  | .inr x_48 =>
  some (.inr (.inr x_48))
  else
  some (.inr (.inl occurring_19)) : (List Int) × Int -> Option (((List Int) × Int) ⊕ ((List Int) ⊕ Bool)))) (by exact go)
instance i63 : Rn cx (f63 relations query) 63 [(ssl eRelation relations), (.agg [(iT query.VariableCount), (ssl eAtom query.Atoms), (ssl eI query.Free)])] (fun (r : Bool) => (.bool r)) (fun r => []) := Rn.o (e := (
  (f87 relations).bind fun o1 =>
  (jn (QN (fun (y : Bool) => [(0, .v (ssl eRelation relations)), (3, .v (.ptr true [(iT query.VariableCount), (ssl eAtom query.Atoms), (ssl eI query.Free)])), (33, .v (.bool y))])) ((if ¬ (o1 = true) then
  some true
  else
  (f90 query.VariableCount 0 4).bind fun o6 =>
  (jn (QN (fun (y : Bool) => [(0, .v (ssl eRelation relations)), (3, .v (.ptr true [(iT query.VariableCount), (ssl eAtom query.Atoms), (ssl eI query.Free)])), (33, .v (.bool y))])) ((if ¬ (o6 = true) then
  some true
  else
  (f90 (query.Atoms.length : Int) 1 3).bind fun o11 =>
  (jn (QN (fun (y : Bool) => [(0, .v (ssl eRelation relations)), (3, .v (.ptr true [(iT query.VariableCount), (ssl eAtom query.Atoms), (ssl eI query.Free)])), (33, .v (.bool y))])) ((if ¬ (o11 = true) then
  some true
  else
  (f66 query.Free query.VariableCount).bind fun o16 =>
  some (decide (¬ (o16 = true)))) : Option (Bool))).bind fun x_13 =>
  some x_13) : Option (Bool))).bind fun x_8 =>
  some x_8) : Option (Bool))).bind fun x_3 =>
  if x_3 = true then
  some false
  else
  sn 2 5 (osl eI true ([])) <| 
  (iter (f63_0 relations query) ([], 0)).bind fun o => match o with
  | .inl occurring_55 =>
  some (decide ((occurring_55.length : Int) = query.VariableCount))
  | .inr x_56 =>
  some x_56 : Option Bool)) rfl (by exact go)
instance : Io0 cx 63 := ⟨rfl⟩
instance i34 : Rn cx (f34 db query) 34 [(.agg [(ssl eRelation db.Relations), (ssl eFact db.Facts)]), (.agg [(iT query.VariableCount), (ssl eAtom query.Atoms), (ssl eI query.Free)])] (fun (r : Bool) => (.bool r)) (fun r => []) := Rn.o (e := (
  (f62 db).bind fun o1 =>
  (jn (QN (fun (y : Bool) => [(4, .v (.bool y))])) ((if o1 = true then
  (f63 db.Relations query).bind fun o6 =>
  some o6
  else
  some false) : Option (Bool))).bind fun x_3 =>
  some x_3 : Option Bool)) rfl (by exact go)
instance : Io0 cx 34 := ⟨rfl⟩
instance i110_0 : Lp cx (f110_0 s1 s2) 26 L110_0 (fun (zs : Int) => [(0, .v (ssl eI s1)), (1, .v (ssl eI s2)), (12, .v (iT (s1.length : Int))), (13, .v (iT zs))]) (QO (QX 0 (fun (y : Unit) => [])) (QR (fun (y : Bool) => [(4, .v (.bool y))]))) := Lp.of (by unfold f110_0; exact go)
instance i110 : Rn cx (f110 s1 s2) 110 [(ssl eI s1), (ssl eI s2)] (fun (r : Bool) => (.bool r)) (fun r => []) := Rn.o rfl (by unfold f110; exact go)
instance : Io0 cx 110 := ⟨rfl⟩
instance i84 {a : Fact} {b : Fact} : Rn cx (f84 relations a b) 84 [(ssl eRelation relations), (.agg [(iT a.Relation), (ssl eI a.Values)]), (.agg [(iT b.Relation), (ssl eI b.Values)])] (fun (r : Bool) => (.bool r)) (fun r => []) := Rn.o rfl (by unfold f84; exact go)
instance : Io0 cx 84 := ⟨rfl⟩
instance i59_0 : Lp cx (f59_0 db) 54 L59_0 (fun (zs : (List (List Int)) × Int) => [(1, .v (.ptr true [(ssl eRelation db.Relations), (ssl eFact db.Facts)])), (3, .v (osl (eL eI) true zs.1)), (9, .v (ssl eFact db.Facts)), (10, .v (iT (db.Facts.length : Int))), (11, .v (iT zs.2))]) (QX 0 (fun (y : (List (List Int))) => [(3, .v (osl (eL eI) true y))])) := Lp.of (f := (fun
 | (out_1, x_2) =>
  if x_2 < (db.Facts.length : Int) then
  (ix db.Facts x_2).bind fun v_4 =>
  (jn (QN (fun (y : Bool) => [(1, .v (.ptr true [(ssl eRelation db.Relations), (ssl eFact db.Facts)])), (3, .v (osl (eL eI) true out_1)), (4, .v (iT x_2)), (6, .v (iT (w64 ((out_1.length : Int) - 1)))), (9, .v (ssl eFact db.Facts)), (10, .v (iT (db.Facts.length : Int))), (11, .v (iT x_2)), (36, .v (.bool y))])) ((if (w64 ((out_1.length : Int) - 1)) >= 0 then
  (ix out_1 (w64 ((out_1.length : Int) - 1))).bind fun v_9 =>
  (ix v_9 0).bind fun v_11 =>
  (ix db.Facts v_11).bind fun v_13 =>
  (f84 db.Relations v_13 v_4).bind fun o15 =>
  some o15
  else
  some false) : Option (Bool))).bind fun x_6 =>
  (jn (QN (fun (y : (List (List Int))) => [(1, .v (.ptr true [(ssl eRelation db.Relations), (ssl eFact db.Facts)])), (3, .v (osl (eL eI) true y)), (9, .v (ssl eFact db.Facts)), (10, .v (iT (db.Facts.length : Int))), (11, .v (iT x_2))])) ((if x_6 = true then
  (ix out_1 (w64 ((out_1.length : Int) - 1))).bind fun v_20 =>
  (app 8 v_20 ([x_2])).bind fun l_22 =>
  some (out_1.set (w64 ((out_1.length : Int) - 1)).toNat l_22)
  else
  sn 3 49 (osl eI true ([x_2])) <| 
  (app 24 out_1 ([[x_2]])).bind fun l_25 =>
  some l_25) : Option (List (List Int)))).bind fun out_27 =>
  some (.inl (out_27, w64 (x_2 + 1)))
  else
  some (.inr out_1) : (List (List Int)) × Int -> Option (((List (List Int)) × Int) ⊕ (List (List Int))))) (by exact go)
instance i59 : Rn cx (f59 db) 59 [(.agg [(ssl eRelation db.Relations), (ssl eFact db.Facts)])] (fun (r : (List (List Int))) => (osl (eL eI) true r)) (fun r => []) := Rn.o (e := (
  sn 4 3 (osl (eL eI) true ([])) <| 
  (iter (f59_0 db) ([], 0)).bind fun out_30 =>
  some out_30 : Option (List (List Int)))) rfl (by exact go)
instance : Io0 cx 59 := ⟨rfl⟩
instance i60_0 : Lp cx (f60_0 facts sign) 24 L60_0 (fun (zs : (List Int) × Int) => [(1, .v (iT sign)), (5, .v (osl eI true zs.1)), (9, .v (ssl eI facts)), (10, .v (iT (facts.length : Int))), (11, .v (iT zs.2))]) (QX 0 (fun (y : (List Int)) => [(5, .v (osl eI true y))])) := Lp.of (by unfold f60_0; exact go)
instance i60 : Rn cx (f60 facts sign) 60 [(ssl eI facts), (iT sign)] (fun (r : (List Int)) => (osl eI true r)) (fun r => []) := Rn.o (e := (
  sn 3 5 (osl eI true ([])) <| 
  (iter (f60_0 facts sign) ([], 0)).bind fun out_10 =>
  some out_10 : Option (List Int))) rfl (by exact go)
instance : Io0 cx 60 := ⟨rfl⟩
instance i159 : Rn cx (f159 x y) 159 [(.int .u64 x), (.int .u64 y)] (fun (r : Int × Int) => (.tup [(.int .u64 r.1), (.int .u64 r.2)])) (fun r => []) := Rn.o rfl (by unfold f159; exact go)
instance : Io0 cx 159 := ⟨rfl⟩
instance i151 : Rn cx (f151 x y) 151 [(.int .u64 x), (.int .u64 y)] (fun (r : Int × Int) => (.tup [(.int .u64 r.1), (.int .u64 r.2)])) (fun r => []) := Rn.o rfl (by unfold f151; exact go)
instance : Io0 cx 151 := ⟨rfl⟩
end
end Go.Proofs.YtbpdhmbdpjafeaaGreatH
