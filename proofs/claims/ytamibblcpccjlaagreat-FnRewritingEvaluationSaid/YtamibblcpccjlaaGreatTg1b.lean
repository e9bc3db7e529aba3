import Derived.Test.YtamibblcpccjlaaGreatTg1a
set_option maxHeartbeats 2000000
set_option linter.unusedVariables false
set_option linter.unusedSimpArgs false
set_option linter.defProp false
set_option linter.unusedSectionVars false
set_option maxRecDepth 100000
namespace Go.Proofs.YtamibblcpccjlaaGreatH
open Go
noncomputable section
instance i144_1 {i_7 : Int} : Lp cx (f144_1 i_7) 76 L144_1 (fun (zs : Int × (List Atom) × (List Int) × (List Int) × Int) => [(2, .v (.ptr true [(iT 0), (osl eAtom true ([])), (osl eI true ([]))])), (3, .v (.ptr true [(iT zs.1), (osl eAtom true zs.2.1), (osl eI true zs.2.2.1)])), (4, .v (osl eI true zs.2.2.2.1)), (5, .v (iT i_7)), (6, .v (iT zs.2.2.2.2))]) (QX 2 (fun (y : Int × (List Atom) × (List Int) × (List Int)) => [(2, .v (.ptr true [(iT 0), (osl eAtom true ([])), (osl eI true ([]))])), (3, .v (.ptr true [(iT y.1), (osl eAtom true y.2.1), (osl eI true y.2.2.1)])), (4, .v (osl eI true y.2.2.2)), (5, .v (iT i_7))])) := Lp.of (f := (fun
 | (x_9, x_10, x_11, name_12, k_13) =>
  (ix x_10 i_7).bind fun v_14 =>
  if k_13 < (v_14.Terms.length : Int) then
  (jb 3 (QN (fun (y : (List Atom) × (List Int)) => [(2, .v (.ptr true [(iT 0), (osl eAtom true ([])), (osl eI true ([]))])), (3, .v (.ptr true [(iT x_9), (osl eAtom true y.1), (osl eI true x_11)])), (4, .v (osl eI true y.2)), (5, .v (iT i_7)), (6, .v (iT k_13))])) (((ix v_14.Terms k_13).bind fun v_19 =>
  if v_19 < 0 then
  some (x_10, name_12)
  else
  (iter (lw (i_7, x_9, x_10, x_11, k_13)  (f144_2 name_12 v_19)) (-1, 0)).bind fun at_33 =>
  (jn (QN (fun (y : (List Int) × Int) => [(2, .v (.ptr true [(iT 0), (osl eAtom true ([])), (osl eI true ([]))])), (3, .v (.ptr true [(iT x_9), (osl eAtom true x_10), (osl eI true x_11)])), (4, .v (osl eI true y.1)), (5, .v (iT i_7)), (6, .v (iT k_13)), (8, .v (iT y.2))])) ((if at_33 < 0 then
  (app 8 name_12 ([v_19])).bind fun l_37 =>
  some (l_37, (name_12.length : Int))
  else
  some (name_12, at_33)) : Option ((List Int) × Int))).bind fun (name_39, at_40) =>
  some ((x_10.set i_7.toNat ({ Relation := v_14.Relation, Terms := (v_14.Terms.set k_13.toNat at_40) } : Atom)), name_39)) : Option ((List Atom) × (List Int)))).bind fun (x_43, name_44) =>
  some (.inl (x_9, x_43, x_11, name_44, w64 (k_13 + 1)))
  else
  some (.inr (x_9, x_10, x_11, name_12)) : Int × (List Atom) × (List Int) × (List Int) × Int → Option ((Int × (List Atom) × (List Int) × (List Int) × Int) ⊕ (Int × (List Atom) × (List Int) × (List Int))))) (by exact go)
instance i144_0 : Lp cx f144_0 76 L144_0 (fun (zs : Int × (List Atom) × (List Int) × (List Int) × Int) => [(2, .v (.ptr true [(iT 0), (osl eAtom true ([])), (osl eI true ([]))])), (3, .v (.ptr true [(iT zs.1), (osl eAtom true zs.2.1), (osl eI true zs.2.2.1)])), (4, .v (osl eI true zs.2.2.2.1)), (5, .v (iT zs.2.2.2.2))]) (QX 0 (fun (y : Int × (List Atom) × (List Int) × (List Int)) => [(2, .v (.ptr true [(iT 0), (osl eAtom true ([])), (osl eI true ([]))])), (3, .v (.ptr true [(iT y.1), (osl eAtom true y.2.1), (osl eI true y.2.2.1)])), (4, .v (osl eI true y.2.2.2))])) := Lp.of (by unfold f144_0; exact go)
instance i144 {q : Query} : Rn cx (f144 q) 144 [(.agg [(iT q.VariableCount), (ssl eAtom q.Atoms), (ssl eI q.Free)])] (fun (r : Query) => (.agg [(iT r.VariableCount), (osl eAtom true r.Atoms), (osl eI true r.Free)])) (fun r => []) := Rn.o (e := (
  sn 2 2 (.ptr true [(iT 0), (osl eAtom true ([])), (osl eI true ([]))]) <| 
  (f105 q).bind fun o1 =>
  sn 4 4 (osl eI true ([])) <| 
  (iter f144_0 (o1.VariableCount, o1.Atoms, o1.Free, [], 0)).bind fun (x_53, x_54, x_55, name_56) =>
  some ({ VariableCount := (name_56.length : Int), Atoms := x_54, Free := x_55 } : Query) : Option Query)) rfl (by exact go)
instance : Io0 cx 144 := ⟨rfl⟩
instance i102_1 {o1 : (Int × L1Cur)} {o3 : (Int × L1Cur)} {o5 : (Int × L1Cur)} {q_10 : Int} {q_11 : (List Atom)} {q_12 : (List Int)} {i_13 : Int} : Lp cx (lw (o1, o5, q_10, q_11, q_12, i_13) (f102_1 o3)) 64 L102_1 (fun (zs : (List Int) × Int × Int × Int × (List Int) × Int) => [(0, .v (.ptr true [(ssl eU zs.1), (iT zs.2.1), (iT zs.2.2.1)])), (2, .v (.ptr true [(iT 0), (osl eAtom true ([])), (osl eI true ([]))])), (3, .v (.ptr true [(iT q_10), (osl eAtom true q_11), (osl eI true q_12)])), (4, .v (iT (w64 (1 + o1.1)))), (5, .v (iT (w64 (1 + o3.1)))), (6, .v (iT o5.1)), (7, .v (iT i_13)), (9, .v (.ptr true [(iT zs.2.2.2.1), (osl eI true zs.2.2.2.2.1)])), (10, .v (iT zs.2.2.2.2.2))]) (QX 2 (fun (y : (List Int) × Int × Int × Int × (List Int)) => [(0, .v (.ptr true [(ssl eU y.1), (iT y.2.1), (iT y.2.2.1)])), (2, .v (.ptr true [(iT 0), (osl eAtom true ([])), (osl eI true ([]))])), (3, .v (.ptr true [(iT q_10), (osl eAtom true q_11), (osl eI true q_12)])), (4, .v (iT (w64 (1 + o1.1)))), (5, .v (iT (w64 (1 + o3.1)))), (6, .v (iT o5.1)), (7, .v (iT i_13)), (9, .v (.ptr true [(iT y.2.2.2.1), (osl eI true y.2.2.2.2)]))])) := Lp.of (f := (fun
 | (c_15, c_16, c_17, a_18, a_19, m_20) =>
  if m_20 > 0 then
  (f21 ({ b := c_15, i := c_16, h := c_17 } : L1Cur) 12).bind fun o22 =>
  (jn (QN (fun (y : (List Int) × Int × Int × (List Int)) => [(0, .v (.ptr true [(ssl eU y.1), (iT y.2.1), (iT y.2.2.1)])), (2, .v (.ptr true [(iT 0), (osl eAtom true ([])), (osl eI true ([]))])), (3, .v (.ptr true [(iT q_10), (osl eAtom true q_11), (osl eI true q_12)])), (4, .v (iT (w64 (1 + o1.1)))), (5, .v (iT (w64 (1 + o3.1)))), (6, .v (iT o5.1)), (7, .v (iT i_13)), (9, .v (.ptr true [(iT a_18), (osl eI true y.2.2.2)])), (10, .v (iT m_20))])) ((if o22.1 = true then
  (f20 o22.2 2).bind fun o27 =>
  (app 8 a_19 ([w64 ((-1) - o27.1)])).bind fun l_29 =>
  some (o27.2.b, o27.2.i, o27.2.h, l_29)
  else
  (f20 o22.2 (w64 (1 + o3.1))).bind fun o31 =>
  (app 8 a_19 ([o31.1])).bind fun l_33 =>
  some (o31.2.b, o31.2.i, o31.2.h, l_33)) : Option ((List Int) × Int × Int × (List Int)))).bind fun (c_35, c_36, c_37, a_38) =>
  some (.inl (c_35, c_36, c_37, a_18, a_38, w64 (m_20 - 1)))
  else
  some (.inr (c_15, c_16, c_17, a_18, a_19)) : (List Int) × Int × Int × Int × (List Int) × Int → Option (((List Int) × Int × Int × Int × (List Int) × Int) ⊕ ((List Int) × Int × Int × Int × (List Int))))) (by exact go)
instance i102_0 {o1 : (Int × L1Cur)} {o3 : (Int × L1Cur)} {o5 : (Int × L1Cur)} : Lp cx (f102_0 o1 o3 o5) 64 L102_0 (fun (zs : (List Int) × Int × Int × Int × (List Atom) × (List Int) × Int) => [(0, .v (.ptr true [(ssl eU zs.1), (iT zs.2.1), (iT zs.2.2.1)])), (2, .v (.ptr true [(iT 0), (osl eAtom true ([])), (osl eI true ([]))])), (3, .v (.ptr true [(iT zs.2.2.2.1), (osl eAtom true zs.2.2.2.2.1), (osl eI true zs.2.2.2.2.2.1)])), (4, .v (iT (w64 (1 + o1.1)))), (5, .v (iT (w64 (1 + o3.1)))), (6, .v (iT o5.1)), (7, .v (iT zs.2.2.2.2.2.2))]) (QX 0 (fun (y : (List Int) × Int × Int × Int × (List Atom) × (List Int)) => [(0, .v (.ptr true [(ssl eU y.1), (iT y.2.1), (iT y.2.2.1)])), (2, .v (.ptr true [(iT 0), (osl eAtom true ([])), (osl eI true ([]))])), (3, .v (.ptr true [(iT y.2.2.2.1), (osl eAtom true y.2.2.2.2.1), (osl eI true y.2.2.2.2.2)]))])) := Lp.of (f := (fun
 | (c_7, c_8, c_9, q_10, q_11, q_12, i_13) =>
  if i_13 < (w64 (1 + o1.1)) then
  sn 8 30 (.agg [(iT ((w64 (o5.1 + i_13)).tmod 4)), (osl eI true ([]))]) <| 
  (iter (lw (o1, o5, q_10, q_11, q_12, i_13)  (f102_1 o3)) (c_7, c_8, c_9, (w64 (o5.1 + i_13)).tmod 4, [], w64 (2 + (w64 (((w64 (o5.1 + i_13)).tmod 4).tdiv 3))))).bind fun (c_41, c_42, c_43, a_44, a_45) =>
  (app 32 q_11 ([({ Relation := a_44, Terms := a_45 } : Atom)])).bind fun l_46 =>
  some (.inl (c_41, c_42, c_43, q_10, l_46, q_12, w64 (i_13 + 1)))
  else
  some (.inr (c_7, c_8, c_9, q_10, q_11, q_12)) : (List Int) × Int × Int × Int × (List Atom) × (List Int) × Int → Option (((List Int) × Int × Int × Int × (List Atom) × (List Int) × Int) ⊕ ((List Int) × Int × Int × Int × (List Atom) × (List Int))))) (by exact go)
instance i102 {c : L1Cur} : Rn cx (f102 c) 102 [(.ptr true [(ssl eU c.b), (iT c.i), (iT c.h)])] (fun (r : Query × L1Cur) => (.agg [(iT r.1.VariableCount), (osl eAtom true r.1.Atoms), (osl eI true r.1.Free)])) (fun r => [(.ptr true [(ssl eU r.2.b), (iT r.2.i), (iT r.2.h)])]) := Rn.o (e := (
  sn 1 2 (.ptr true [(iT 0), (osl eAtom true ([])), (osl eI true ([]))]) <| 
  sn 2 11 (.agg [(iT 0), (osl eAtom true ([])), (osl eI true ([]))]) <| 
  (f20 c 3).bind fun o1 =>
  (f20 o1.2 4).bind fun o3 =>
  (f20 o3.2 4).bind fun o5 =>
  (iter (f102_0 o1 o3 o5) (o5.2.b, o5.2.i, o5.2.h, 0, [], [], 0)).bind fun (c_50, c_51, c_52, q_53, q_54, q_55) =>
  (f144 ({ VariableCount := q_53, Atoms := q_54, Free := q_55 } : Query)).bind fun o56 =>
  some (o56, ({ b := c_50, i := c_51, h := c_52 } : L1Cur)) : Option (Query × L1Cur))) rfl (by exact go)
instance i108_0 {s0 : (List UInt8)} {sign : Int} : Lp cx (f108_0 s0 sign) 35 L108_0 (fun (zs : (List (List UInt8)) × Int × Int) => [(0, .v (.str s0)), (1, .v (.int .u8 sign)), (5, .v (osl eS true zs.1)), (6, .v (iT zs.2.1)), (7, .v (iT zs.2.2))]) (QX 0 (fun (y : (List (List UInt8)) × Int) => [(0, .v (.str s0)), (5, .v (osl eS true y.1)), (6, .v (iT y.2))])) := Lp.of (f := (fun
 | (out_1, from_2, i_3) =>
  if i_3 < (s0.length : Int) then
  (ix s0 i_3).bind fun c_5 =>
  (jn (QN (fun (y : (List (List UInt8)) × Int) => [(0, .v (.str s0)), (1, .v (.int .u8 sign)), (5, .v (osl eS true y.1)), (6, .v (iT y.2)), (7, .v (iT i_3))])) ((if (c_5.toNat : Int) = sign then
  (cutL s0 from_2 i_3).bind fun l_10 =>
  (app 16 out_1 ([l_10])).bind fun l_12 =>
  some (l_12, w64 (i_3 + 1))
  else
  some (out_1, from_2)) : Option ((List (List UInt8)) × Int))).bind fun (out_14, from_15) =>
  some (.inl (out_14, from_15, w64 (i_3 + 1)))
  else
  some (.inr (out_1, from_2)) : (List (List UInt8)) × Int × Int → Option (((List (List UInt8)) × Int × Int) ⊕ ((List (List UInt8)) × Int)))) (by exact go)
instance i108 {s0 : (List UInt8)} {sign : Int} : Rn cx (f108 s0 sign) 108 [(.str s0), (.int .u8 sign)] (fun (r : (List (List UInt8))) => (osl eS true r)) (fun r => []) := Rn.o (e := (
  sn 3 5 (osl eS true ([])) <| 
  (iter (f108_0 s0 sign) ([], 0, 0)).bind fun (out_18, from_19) =>
  (cutL s0 from_19 s0.length).bind fun l_20 =>
  (app 16 out_18 ([l_20])).bind fun l_22 =>
  some l_22 : Option (List (List UInt8)))) rfl (by exact go)
instance : Io0 cx 108 := ⟨rfl⟩
instance i179 {t : Int} : Rn cx (f179 t) 179 [(iT t)] (fun (r : Int × Bool) => (.tup [(iT r.1), (.bool r.2)])) (fun r => []) := Rn.o (e := (
  (jn (QN (fun (y : Bool) => [(0, .v (iT t)), (11, .v (.bool y))])) ((if t ≥ 0 then
  some true
  else
  (f38 (w64 ((-1) - t)) 0 9).bind fun o4 =>
  some (decide (¬ (o4 = true)))) : Option (Bool))).bind fun x_1 =>
  if x_1 = true then
  some (0, false)
  else
  some (w64 ((-1) - t), true) : Option (Int × Bool))) rfl (by exact go)
instance : Io0 cx 179 := ⟨rfl⟩
instance i180_0 {n0 : Int} : Lp cx (lw n0 f180_0) 31 L180_0 (fun (zs : Int × (List UInt8)) => [(0, .v (iT zs.1)), (3, .v (.str zs.2)), (4, .v (.bool (decide (n0 < 0))))]) (QX 0 (fun (y : (List UInt8)) => [(3, .v (.str y)), (4, .v (.bool (decide (n0 < 0))))])) := Lp.of (f := (fun
 | (n_2, out_3) =>
  if n_2 ≠ 0 then
  (jn (QN (fun (y : Int) => [(0, .v (iT n_2)), (3, .v (.str out_3)), (4, .v (.bool (decide (n0 < 0)))), (5, .v (iT y))])) ((if (n_2.tmod 10) < 0 then
  some (w64 (-(n_2.tmod 10)))
  else
  some (n_2.tmod 10)) : Option Int)).bind fun d_8 =>
  (cat ([UInt8.ofNat (w8 (w64 (48 + d_8))).toNat]) out_3).bind fun s_9 =>
  some (.inl (w64 (n_2.tdiv 10), s_9))
  else
  some (.inr out_3) : Int × (List UInt8) → Option ((Int × (List UInt8)) ⊕ (List UInt8)))) (by exact go)
instance i180 {n0 : Int} : Rn cx (f180 n0) 180 [(iT n0)] (fun (r : (List UInt8)) => (.str r)) (fun r => []) := Rn.o (e := (
  if n0 = 0 then
  some ([48])
  else
  (iter (lw n0  f180_0) (n0, [])).bind fun out_13 =>
  if n0 < 0 then
  (cat ([45]) out_13).bind fun s_15 =>
  some s_15
  else
  some out_13 : Option (List UInt8))) rfl (by exact go)
instance : Io0 cx 180 := ⟨rfl⟩
instance i152 {t : Int} : Rn cx (f152 t) 152 [(iT t)] (fun (r : (List UInt8)) => (.str r)) (fun r => []) := Rn.o rfl (by unfold f152; exact go)
instance : Io0 cx 152 := ⟨rfl⟩
instance i109_0 {s0 : (List UInt8)} : Lp cx (f109_0 s0) 14 L109_0 (fun (zs : Int) => [(0, .v (.str s0)), (4, .v (iT zs))]) (QO (QX 0 (fun (y : Unit) => [])) (QR (fun (y : Int × Bool) => [(2, .v (iT y.1)), (3, .v (.bool y.2))]))) := Lp.of (by unfold f109_0; exact go)
instance i109 {s0 : (List UInt8)} : Rn cx (f109 s0) 109 [(.str s0)] (fun (r : Int × Bool) => (.tup [(iT r.1), (.bool r.2)])) (fun r => []) := Rn.o rfl (by unfold f109; exact go)
instance : Io0 cx 109 := ⟨rfl⟩
instance i110_0 {l : (List Relation)} {name : (List UInt8)} : Lp cx (f110_0 l name) 20 L110_0 (fun (zs : Int) => [(0, .v (ssl eRelation l)), (1, .v (.str name)), (5, .v (iT zs))]) (QO (QX 0 (fun (y : Unit) => [])) (QR (fun (y : Int) => [(4, .v (iT y))]))) := Lp.of (by unfold f110_0; exact go)
instance i110 {l : (List Relation)} {name : (List UInt8)} : Rn cx (f110 l name) 110 [(ssl eRelation l), (.str name)] (fun (r : Int) => (iT r)) (fun r => []) := Rn.o rfl (by unfold f110; exact go)
instance : Io0 cx 110 := ⟨rfl⟩
instance i93_3 {l : (List Relation)} {q : Query} {met_16 : (List Bool)} {i_17 : Int} {v_19 : Atom} : Lp cx (lw (l, met_16) (f93_3 q i_17 v_19)) 150 L93_3 (fun (zs : Int) => [(0, .v (ssl eRelation l)), (3, .v (.ptr true [(iT q.VariableCount), (ssl eAtom q.Atoms), (ssl eI q.Free)])), (5, .v (osl eB true met_16)), (6, .v (iT i_17)), (7, .v (.ptr true [(iT v_19.Relation), (ssl eI v_19.Terms)])), (8, .v (iT zs))]) (QO (QX 2 (fun (y : Unit) => [(0, .v (ssl eRelation l)), (3, .v (.ptr true [(iT q.VariableCount), (ssl eAtom q.Atoms), (ssl eI q.Free)])), (5, .v (osl eB true met_16)), (6, .v (iT i_17)), (7, .v (.ptr true [(iT v_19.Relation), (ssl eI v_19.Terms)]))])) (QR (fun (y : Bool) => [(4, .v (.bool y))]))) := Lp.of (by unfold lw f93_3; exact go)
instance i93_4 {l : (List Relation)} {q : Query} {i_17 : Int} {v_19 : Atom} : Lp cx (lw (l, i_17) (f93_4 q v_19)) 150 L93_4 (fun (zs : (List Bool) × Int) => [(0, .v (ssl eRelation l)), (3, .v (.ptr true [(iT q.VariableCount), (ssl eAtom q.Atoms), (ssl eI q.Free)])), (5, .v (osl eB true zs.1)), (6, .v (iT i_17)), (7, .v (.ptr true [(iT v_19.Relation), (ssl eI v_19.Terms)])), (9, .v (iT zs.2))]) (QO (QX 4 (fun (y : (List Bool)) => [(0, .v (ssl eRelation l)), (3, .v (.ptr true [(iT q.VariableCount), (ssl eAtom q.Atoms), (ssl eI q.Free)])), (5, .v (osl eB true y)), (6, .v (iT i_17))])) (QR (fun (y : Bool) => [(4, .v (.bool y))]))) := Lp.of (f := (fun
 | (met_37, k_38) =>
  if k_38 < (v_19.Terms.length : Int) then
  (ix v_19.Terms k_38).bind fun v_40 =>
  (f38 v_40 (-10) (w64 (q.VariableCount - 1))).bind fun o42 =>
  if ¬ (o42 = true) then
  some (.inr (.inr false))
  else
  (jn (QN (fun (y : (List Bool)) => [(0, .v (ssl eRelation l)), (3, .v (.ptr true [(iT q.VariableCount), (ssl eAtom q.Atoms), (ssl eI q.Free)])), (5, .v (osl eB true y)), (6, .v (iT i_17)), (7, .v (.ptr true [(iT v_19.Relation), (ssl eI v_19.Terms)])), (9, .v (iT k_38))])) ((if v_40 ≥ 0 then
  (ix met_37 v_40).bind fun v_48 =>
  some (met_37.set v_40.toNat true)
  else
  some met_37) : Option (List Bool))).bind fun met_51 =>
  some (.inl (met_51, w64 (k_38 + 1)))
  else
  some (.inr (.inl met_37)) : (List Bool) × Int → Option (((List Bool) × Int) ⊕ ((List Bool) ⊕ Bool)))) (by exact go)
instance i93_0 {l : (List Relation)} {q : Query} : Lp cx (f93_0 l q) 150 L93_0 (fun (zs : (List Bool) × Int) => [(0, .v (ssl eRelation l)), (3, .v (.ptr true [(iT q.VariableCount), (ssl eAtom q.Atoms), (ssl eI q.Free)])), (5, .v (osl eB true zs.1)), (6, .v (iT zs.2))]) (QO (QX 0 (fun (y : (List Bool)) => [(3, .v (.ptr true [(iT q.VariableCount), (ssl eAtom q.Atoms), (ssl eI q.Free)])), (5, .v (osl eB true y))])) (QR (fun (y : Bool) => [(4, .v (.bool y))]))) := Lp.of (f := (fun
 | (met_16, i_17) =>
  if i_17 < (q.Atoms.length : Int) then
  (ix q.Atoms i_17).bind fun v_19 =>
  (f38 v_19.Relation 0 (w64 ((l.length : Int) - 1))).bind fun o21 =>
  (jn (QN (fun (y : Bool) => [(0, .v (ssl eRelation l)), (3, .v (.ptr true [(iT q.VariableCount), (ssl eAtom q.Atoms), (ssl eI q.Free)])), (5, .v (osl eB true met_16)), (6, .v (iT i_17)), (7, .v (.ptr true [(iT v_19.Relation), (ssl eI v_19.Terms)])), (59, .v (.bool y))])) ((if ¬ (o21 = true) then
  some true
  else
  (ix l v_19.Relation).bind fun v_26 =>
  some (decide ((v_19.Terms.length : Int) ≠ v_26.Arity))) : Option (Bool))).bind fun x_23 =>
  if x_23 = true then
  some (.inr (.inr false))
  else
  (iter (lw (l, met_16)  (f93_3 q i_17 v_19)) 0).bind fun o => match o with
  | .inl _ =>
  ((iter (lw (l, i_17)  (f93_4 q v_19)) (met_16, 0)).bind fun o => match o with
  | .inl met_54 =>
  some (.inl (met_54, w64 (i_17 + 1)))
  | .inr x_55 =>
  some (.inr (.inr x_55)))
  | .inr x_36 =>
  some (.inr (.inr x_36))
  else
  some (.inr (.inl met_16)) : (List Bool) × Int → Option (((List Bool) × Int) ⊕ ((List Bool) ⊕ Bool)))) (by exact go)
instance i93_1 {q : Query} {met_58 : (List Bool)} : Lp cx (f93_1 q met_58) 150 L93_1 (fun (zs : Int) => [(3, .v (.ptr true [(iT q.VariableCount), (ssl eAtom q.Atoms), (ssl eI q.Free)])), (5, .v (osl eB true met_58)), (10, .v (iT zs))]) (QO (QX 6 (fun (y : Unit) => [(3, .v (.ptr true [(iT q.VariableCount), (ssl eAtom q.Atoms), (ssl eI q.Free)]))])) (QR (fun (y : Bool) => [(4, .v (.bool y))]))) := Lp.of (by unfold f93_1; exact go)
instance i93_2 {q : Query} : Lp cx (f93_2 q) 150 L93_2 (fun (zs : Int) => [(3, .v (.ptr true [(iT q.VariableCount), (ssl eAtom q.Atoms), (ssl eI q.Free)])), (11, .v (iT zs))]) (QO (QX 8 (fun (y : Unit) => [])) (QR (fun (y : Bool) => [(4, .v (.bool y))]))) := Lp.of (f := (fun
 | i_68 =>
  if i_68 < (q.Free.length : Int) then
  (ix q.Free i_68).bind fun v_70 =>
  (f38 v_70 0 (w64 (q.VariableCount - 1))).bind fun o72 =>
  (jn (QN (fun (y : Bool) => [(3, .v (.ptr true [(iT q.VariableCount), (ssl eAtom q.Atoms), (ssl eI q.Free)])), (11, .v (iT i_68)), (149, .v (.bool y))])) ((if ¬ (o72 = true) then
  some true
  else
  (jn (QN (fun (y : Bool) => [(3, .v (.ptr true [(iT q.VariableCount), (ssl eAtom q.Atoms), (ssl eI q.Free)])), (11, .v (iT i_68)), (149, .v (.bool y))])) ((if i_68 > 0 then
  (ix q.Free (w64 (i_68 - 1))).bind fun v_80 =>
  some (decide (v_70 ≤ v_80))
  else
  some false) : Option (Bool))).bind fun x_77 =>
  some x_77) : Option (Bool))).bind fun x_74 =>
  if x_74 = true then
  some (.inr (.inr false))
  else
  some (.inl (w64 (i_68 + 1)))
  else
  some (.inr (.inl ())) : Int → Option (Int ⊕ (Unit ⊕ Bool)))) (by exact go)
instance i93 {l : (List Relation)} {q : Query} : Rn cx (f93 l q) 93 [(ssl eRelation l), (.agg [(iT q.VariableCount), (ssl eAtom q.Atoms), (ssl eI q.Free)])] (fun (r : Bool) => (.bool r)) (fun r => []) := Rn.o (e := (
  (f37 l).bind fun o1 =>
  (jn (QN (fun (y : Bool) => [(0, .v (ssl eRelation l)), (3, .v (.ptr true [(iT q.VariableCount), (ssl eAtom q.Atoms), (ssl eI q.Free)])), (27, .v (.bool y))])) ((if ¬ (o1 = true) then
  some true
  else
  (f38 q.VariableCount 0 4).bind fun o6 =>
  (jn (QN (fun (y : Bool) => [(0, .v (ssl eRelation l)), (3, .v (.ptr true [(iT q.VariableCount), (ssl eAtom q.Atoms), (ssl eI q.Free)])), (27, .v (.bool y))])) ((if ¬ (o6 = true) then
  some true
  else
  (f38 (q.Atoms.length : Int) 1 3).bind fun o11 =>
  some (decide (¬ (o11 = true)))) : Option (Bool))).bind fun x_8 =>
  some x_8) : Option (Bool))).bind fun x_3 =>
  if x_3 = true then
  some false
  else
  (mkl 1 4 false).bind fun l_14 =>
  sn 2 5 (osl eB true l_14) <| 
  (iter (f93_0 l q) (l_14, 0)).bind fun o => match o with
  | .inl met_58 =>
  ((iter (f93_1 q met_58) 0).bind fun o => match o with
  | .inl _ =>
  ((iter (f93_2 q) 0).bind fun o => match o with
  | .inl _ =>
  some true
  | .inr x_85 =>
  some x_85)
  | .inr x_67 =>
  some x_67)
  | .inr x_59 =>
  some x_59 : Option Bool)) rfl (by exact go)
instance : Io0 cx 93 := ⟨rfl⟩
instance i153_0 {l : (List Relation)} {a : Atom} : Lp cx (f153_0 l a) 39 L153_0 (fun (zs : (List UInt8) × Int) => [(0, .v (ssl eRelation l)), (3, .v (.ptr true [(iT a.Relation), (ssl eI a.Terms)])), (5, .v (.str zs.1)), (6, .v (iT zs.2))]) (QX 0 (fun (y : (List UInt8)) => [(5, .v (.str y))])) := Lp.of (f := (fun
 | (s_3, i_4) =>
  if i_4 < (a.Terms.length : Int) then
  (ix l a.Relation).bind fun v_6 =>
  (jn (QN (fun (y : (List UInt8)) => [(0, .v (ssl eRelation l)), (3, .v (.ptr true [(iT a.Relation), (ssl eI a.Terms)])), (5, .v (.str y)), (6, .v (iT i_4))])) ((if i_4 = v_6.KeyLength then
  (cat s_3 ([124])).bind fun s_11 =>
  some s_11
  else
  some s_3) : Option (List UInt8))).bind fun s_13 =>
  (ix a.Terms i_4).bind fun v_14 =>
  (f152 v_14).bind fun o16 =>
  (cat s_13 o16).bind fun s_18 =>
  some (.inl (s_18, w64 (i_4 + 1)))
  else
  some (.inr s_3) : (List UInt8) × Int → Option (((List UInt8) × Int) ⊕ (List UInt8)))) (by exact go)
instance i153 {l : (List Relation)} {a : Atom} : Rn cx (f153 l a) 153 [(ssl eRelation l), (.agg [(iT a.Relation), (ssl eI a.Terms)])] (fun (r : (List UInt8)) => (.str r)) (fun r => []) := Rn.o rfl (by unfold f153; exact go)
instance : Io0 cx 153 := ⟨rfl⟩
instance i111_0 {l : (List Relation)} {q : Query} : Lp cx (lw l (f111_0 q)) 50 L111_0 (fun (zs : (List UInt8) × Int) => [(0, .v (ssl eRelation l)), (3, .v (.ptr true [(iT q.VariableCount), (ssl eAtom q.Atoms), (ssl eI q.Free)])), (5, .v (.str zs.1)), (6, .v (iT zs.2))]) (QX 0 (fun (y : (List UInt8)) => [(0, .v (ssl eRelation l)), (3, .v (.ptr true [(iT q.VariableCount), (ssl eAtom q.Atoms), (ssl eI q.Free)])), (5, .v (.str y))])) := Lp.of (by unfold lw f111_0; exact go)
instance i111_1 {l : (List Relation)} {q : Query} : Lp cx (f111_1 l q) 50 L111_1 (fun (zs : (List UInt8) × Int) => [(0, .v (ssl eRelation l)), (3, .v (.ptr true [(iT q.VariableCount), (ssl eAtom q.Atoms), (ssl eI q.Free)])), (5, .v (.str zs.1)), (7, .v (iT zs.2))]) (QX 2 (fun (y : (List UInt8)) => [(5, .v (.str y))])) := Lp.of (f := (fun
 | (s_18, i_19) =>
  if i_19 < (q.Atoms.length : Int) then
  (jn (QN (fun (y : (List UInt8)) => [(0, .v (ssl eRelation l)), (3, .v (.ptr true [(iT q.VariableCount), (ssl eAtom q.Atoms), (ssl eI q.Free)])), (5, .v (.str y)), (7, .v (iT i_19))])) ((if i_19 > 0 then
  (cat s_18 ([32])).bind fun s_24 =>
  some s_24
  else
  some s_18) : Option (List UInt8))).bind fun s_26 =>
  (ix q.Atoms i_19).bind fun v_27 =>
  (f153 l v_27).bind fun o29 =>
  (cat s_26 o29).bind fun s_31 =>
  some (.inl (s_31, w64 (i_19 + 1)))
  else
  some (.inr s_18) : (List UInt8) × Int → Option (((List UInt8) × Int) ⊕ (List UInt8)))) (by exact go)
instance i111 {l : (List Relation)} {q : Query} : Rn cx (f111 l q) 111 [(ssl eRelation l), (.agg [(iT q.VariableCount), (ssl eAtom q.Atoms), (ssl eI q.Free)])] (fun (r : (List UInt8)) => (.str r)) (fun r => []) := Rn.o (e := (
  (f93 l q).bind fun o1 =>
  if ¬ (o1 = true) then
  some ([])
  else
  (iter (lw l  (f111_0 q)) ([], 0)).bind fun s_15 =>
  (cat s_15 ([63])).bind fun s_16 =>
  (iter (f111_1 l q) (s_16, 0)).bind fun s_35 =>
  some s_35 : Option (List UInt8))) rfl (by exact go)
instance : Io0 cx 111 := ⟨rfl⟩
instance i66_0 {l : (List Relation)} {s1 : (List UInt8)} {o1 : (List (List UInt8))} : Lp cx (lw (l, s1) (f66_0 o1)) 123 L66_0 (fun (zs : Int × (List Atom) × (List Int) × Int) => [(0, .v (ssl eRelation l)), (1, .v (.str s1)), (4, .v (.ptr true [(iT 0), (osl eAtom true ([])), (osl eI true ([]))])), (6, .v (osl eS true o1)), (7, .v (.ptr true [(iT zs.1), (osl eAtom true zs.2.1), (osl eI true zs.2.2.1)])), (8, .v (iT zs.2.2.2))]) (QX 0 (fun (y : Int × (List Atom) × (List Int)) => [(0, .v (ssl eRelation l)), (1, .v (.str s1)), (4, .v (.ptr true [(iT 0), (osl eAtom true ([])), (osl eI true ([]))])), (6, .v (osl eS true o1)), (7, .v (.ptr true [(iT y.1), (osl eAtom true y.2.1), (osl eI true y.2.2)]))])) := Lp.of (by unfold lw f66_0; exact go)
instance i66_2 {l : (List Relation)} {s1 : (List UInt8)} {o24 : (List (List UInt8))} {i_29 : Int} : Lp cx (lw s1 (f66_2 l o24 i_29)) 123 L66_2 (fun (zs : Int × (List Atom) × (List Int) × Int × (List Int) × Int) => [(0, .v (ssl eRelation l)), (1, .v (.str s1)), (4, .v (.ptr true [(iT 0), (osl eAtom true ([])), (osl eI true ([]))])), (7, .v (.ptr true [(iT zs.1), (osl eAtom true zs.2.1), (osl eI true zs.2.2.1)])), (11, .v (osl eS true o24)), (12, .v (iT i_29)), (13, .v (.ptr true [(iT zs.2.2.2.1), (osl eI true zs.2.2.2.2.1)])), (14, .v (iT zs.2.2.2.2.2))]) (QX 4 (fun (y : Int × (List Atom) × (List Int) × Int × (List Int)) => [(0, .v (ssl eRelation l)), (1, .v (.str s1)), (4, .v (.ptr true [(iT 0), (osl eAtom true ([])), (osl eI true ([]))])), (7, .v (.ptr true [(iT y.1), (osl eAtom true y.2.1), (osl eI true y.2.2.1)])), (11, .v (osl eS true o24)), (12, .v (iT i_29)), (13, .v (.ptr true [(iT y.2.2.2.1), (osl eI true y.2.2.2.2)]))])) := Lp.of (f := (fun
 | (q_31, q_32, q_33, a_34, a_35, k_36) =>
  (ix o24 i_29).bind fun v_37 =>
  if k_36 < (v_37.length : Int) then
  (jb 5 (QN (fun (y : Int × Int × (List Int)) => [(0, .v (ssl eRelation l)), (1, .v (.str s1)), (4, .v (.ptr true [(iT 0), (osl eAtom true ([])), (osl eI true ([]))])), (7, .v (.ptr true [(iT y.1), (osl eAtom true q_32), (osl eI true q_33)])), (11, .v (osl eS true o24)), (12, .v (iT i_29)), (13, .v (.ptr true [(iT y.2.1), (osl eI true y.2.2)])), (14, .v (iT k_36))])) ((if k_36 = 0 then
  (cutL v_37 0 1).bind fun l_43 =>
  (f110 l l_43).bind fun o45 =>
  some (q_31, o45, a_35)
  else
  (ix v_37 k_36).bind fun c_47 =>
  if (c_47.toNat : Int) = 124 then
  some (q_31, a_34, a_35)
  else
  (cutL v_37 k_36 (w64 (k_36 + 1))).bind fun l_50 =>
  (f109 l_50).bind fun o52 =>
  (app 8 a_35 ([o52.1])).bind fun l_54 =>
  some (if w64 (o52.1 + 1) > q_31 then w64 (o52.1 + 1) else q_31, a_34, l_54)) : Option (Int × Int × (List Int)))).bind fun (q_56, a_57, a_58) =>
  some (.inl (q_56, q_32, q_33, a_57, a_58, w64 (k_36 + 1)))
  else
  some (.inr (q_31, q_32, q_33, a_34, a_35)) : Int × (List Atom) × (List Int) × Int × (List Int) × Int → Option ((Int × (List Atom) × (List Int) × Int × (List Int) × Int) ⊕ (Int × (List Atom) × (List Int) × Int × (List Int))))) (by exact go)
instance i66_1 {l : (List Relation)} {s1 : (List UInt8)} {o24 : (List (List UInt8))} : Lp cx (lw s1 (f66_1 l o24)) 123 L66_1 (fun (zs : Int × (List Atom) × (List Int) × Int) => [(0, .v (ssl eRelation l)), (1, .v (.str s1)), (4, .v (.ptr true [(iT 0), (osl eAtom true ([])), (osl eI true ([]))])), (7, .v (.ptr true [(iT zs.1), (osl eAtom true zs.2.1), (osl eI true zs.2.2.1)])), (11, .v (osl eS true o24)), (12, .v (iT zs.2.2.2))]) (QX 2 (fun (y : Int × (List Atom) × (List Int)) => [(0, .v (ssl eRelation l)), (1, .v (.str s1)), (4, .v (.ptr true [(iT 0), (osl eAtom true ([])), (osl eI true ([]))])), (7, .v (.ptr true [(iT y.1), (osl eAtom true y.2.1), (osl eI true y.2.2)]))])) := Lp.of (f := (fun
 | (q_26, q_27, q_28, i_29) =>
  if i_29 < (o24.length : Int) then
  sn 2 59 (.agg [(iT 0), (osl eI true ([]))]) <| 
  (iter (lw s1  (f66_2 l o24 i_29)) (q_26, q_27, q_28, 0, [], 0)).bind fun (q_61, q_62, q_63, a_64, a_65) =>
  (app 32 q_62 ([({ Relation := a_64, Terms := a_65 } : Atom)])).bind fun l_66 =>
  some (.inl (q_61, l_66, q_63, w64 (i_29 + 1)))
  else
  some (.inr (q_26, q_27, q_28)) : Int × (List Atom) × (List Int) × Int → Option ((Int × (List Atom) × (List Int) × Int) ⊕ (Int × (List Atom) × (List Int))))) (by exact go)
instance i66 {l : (List Relation)} {s1 : (List UInt8)} : Rn cx (f66 l s1) 66 [(ssl eRelation l), (.str s1)] (fun (r : Query × Bool) => (.tup [(.agg [(iT r.1.VariableCount), (osl eAtom true r.1.Atoms), (osl eI true r.1.Free)]), (.bool r.2)])) (fun r => []) := Rn.o (e := (
  sn 2 4 (.ptr true [(iT 0), (osl eAtom true ([])), (osl eI true ([]))]) <| 
  (f108 s1 63).bind fun o1 =>
  if (o1.length : Int) ≠ 2 then
  sn 1 22 (.agg [(iT 0), (osl eAtom true ([])), (osl eI true ([]))]) <| 
  some (({ VariableCount := 0, Atoms := [], Free := [] } : Query), false)
  else
  sn 2 23 (.agg [(iT 0), (osl eAtom true ([])), (osl eI true ([]))]) <| 
  (iter (lw (l, s1)  (f66_0 o1)) (0, [], [], 0)).bind fun (q_19, q_20, q_21) =>
  (ix o1 1).bind fun v_22 =>
  (f108 v_22 32).bind fun o24 =>
  (iter (lw s1  (f66_1 l o24)) (q_19, q_20, q_21, 0)).bind fun (q_70, q_71, q_72) =>
  (f111 l ({ VariableCount := q_70, Atoms := q_71, Free := q_72 } : Query)).bind fun o73 =>
  if o73 ≠ s1 then
  sn 1 121 (.agg [(iT 0), (osl eAtom true ([])), (osl eI true ([]))]) <| 
  some (({ VariableCount := 0, Atoms := [], Free := [] } : Query), false)
  else
  some (({ VariableCount := q_70, Atoms := q_71, Free := q_72 } : Query), true) : Option (Query × Bool))) rfl (by exact go)
instance : Io0 cx 66 := ⟨rfl⟩
instance i103 {c : L1Cur} {l : (List Relation)} : Rn cx (f103 c l) 103 [(.ptr true [(ssl eU c.b), (iT c.i), (iT c.h)]), (ssl eRelation l)] (fun (r : Query × L1Cur) => (.agg [(iT r.1.VariableCount), (osl eAtom true r.1.Atoms), (osl eI true r.1.Free)])) (fun r => [(.ptr true [(ssl eU r.2.b), (iT r.2.i), (iT r.2.h)])]) := Rn.o (e := (
  sn 1 4 (.ptr true [(iT 0), (osl eAtom true ([])), (osl eI true ([]))]) <| 
  sn 3 10 (osl eS true ([[63, 114, 120, 124, 121, 32, 115, 121, 124, 122], [63, 114, 120, 124, 121, 32, 115, 121, 124, 120], [63, 114, 120, 124, 121, 32, 115, 122, 124, 121], [63, 114, 120, 124, 121, 32, 115, 120, 124, 122], [63, 114, 120, 124, 49], [63, 114, 120, 124, 120], [63, 114, 120, 124, 121, 32, 115, 121, 124, 49], [63, 114, 120, 124, 121, 32, 115, 121, 124, 122, 32, 114], [63, 114, 120, 124, 121], [63, 114, 120, 124, 122, 32, 115, 121, 124, 122]])) <| 
  sn 0 10 (ssl eS ([[63, 114, 120, 124, 121, 32, 115, 121, 124, 122], [63, 114, 120, 124, 121, 32, 115, 121, 124, 120], [63, 114, 120, 124, 121, 32, 115, 122, 124, 121], [63, 114, 120, 124, 121, 32, 115, 120, 124, 122], [63, 114, 120, 124, 49], [63, 114, 120, 124, 120], [63, 114, 120, 124, 121, 32, 115, 121, 124, 49], [63, 114, 120, 124, 121, 32, 115, 121, 124, 122, 32, 114], [63, 114, 120, 124, 121], [63, 114, 120, 124, 122, 32, 115, 121, 124, 122]])) <| 
  (f101 c ([[63, 114, 120, 124, 121, 32, 115, 121, 124, 122], [63, 114, 120, 124, 121, 32, 115, 121, 124, 120], [63, 114, 120, 124, 121, 32, 115, 122, 124, 121], [63, 114, 120, 124, 121, 32, 115, 120, 124, 122], [63, 114, 120, 124, 49], [63, 114, 120, 124, 120], [63, 114, 120, 124, 121, 32, 115, 121, 124, 49], [63, 114, 120, 124, 121, 32, 115, 121, 124, 122, 32, 114], [63, 114, 120, 124, 121], [63, 114, 120, 124, 122, 32, 115, 121, 124, 122]])).bind fun o1 =>
  (f66 l o1.1).bind fun o3 =>
  (jn (QN (fun (y : Int × (List Atom) × (List Int)) => [(0, .v (.ptr true [(ssl eU o1.2.b), (iT o1.2.i), (iT o1.2.h)])), (4, .v (.ptr true [(iT 0), (osl eAtom true ([])), (osl eI true ([]))])), (5, .v (.ptr true [(iT y.1), (osl eAtom true y.2.1), (osl eI true y.2.2)]))])) ((if ¬ (o3.2 = true) then
  (f66 l ([63, 114, 120, 124, 121, 32, 115, 121, 124, 122])).bind fun o8 =>
  some (o8.1.VariableCount, o8.1.Atoms, o8.1.Free)
  else
  some (o3.1.VariableCount, o3.1.Atoms, o3.1.Free)) : Option (Int × (List Atom) × (List Int)))).bind fun (q_10, q_11, q_12) =>
  some (({ VariableCount := q_10, Atoms := q_11, Free := q_12 } : Query), o1.2) : Option (Query × L1Cur))) rfl (by exact go)
instance i64_0 : Lp cx f64_0 31 L64_0 (fun (zs : (List Int) × Int × Int × Int × (List Atom) × (List Int) × Int) => [(0, .v (.ptr true [(ssl eU zs.1), (iT zs.2.1), (iT zs.2.2.1)])), (4, .v (.ptr true [(iT 0), (osl eAtom true ([])), (osl eI true ([]))])), (5, .v (.ptr true [(iT zs.2.2.2.1), (osl eAtom true zs.2.2.2.2.1), (osl eI true zs.2.2.2.2.2.1)])), (6, .v (iT zs.2.2.2.2.2.2))]) (QX 0 (fun (y : (List Int) × Int × Int × Int × (List Atom) × (List Int)) => [(0, .v (.ptr true [(ssl eU y.1), (iT y.2.1), (iT y.2.2.1)])), (4, .v (.ptr true [(iT 0), (osl eAtom true ([])), (osl eI true ([]))])), (5, .v (.ptr true [(iT y.2.2.2.1), (osl eAtom true y.2.2.2.2.1), (osl eI true y.2.2.2.2.2)]))])) := Lp.of (f := (fun
 | (c_21, c_22, c_23, q_24, q_25, q_26, v_27) =>
  if v_27 < q_24 then
  (f21 ({ b := c_21, i := c_22, h := c_23 } : L1Cur) 3).bind fun o29 =>
  (jn (QN (fun (y : (List Int)) => [(0, .v (.ptr true [(ssl eU o29.2.b), (iT o29.2.i), (iT o29.2.h)])), (4, .v (.ptr true [(iT 0), (osl eAtom true ([])), (osl eI true ([]))])), (5, .v (.ptr true [(iT q_24), (osl eAtom true q_25), (osl eI true y)])), (6, .v (iT v_27))])) ((if o29.1 = true then
  (app 8 q_26 ([v_27])).bind fun l_34 =>
  some l_34
  else
  some q_26) : Option (List Int))).bind fun q_36 =>
  some (.inl (o29.2.b, o29.2.i, o29.2.h, q_24, q_25, q_36, w64 (v_27 + 1)))
  else
  some (.inr (c_21, c_22, c_23, q_24, q_25, q_26)) : (List Int) × Int × Int × Int × (List Atom) × (List Int) × Int → Option (((List Int) × Int × Int × Int × (List Atom) × (List Int) × Int) ⊕ ((List Int) × Int × Int × Int × (List Atom) × (List Int))))) (by exact go)
instance i64 {c : L1Cur} {l : (List Relation)} : Rn cx (f64 c l) 64 [(.ptr true [(ssl eU c.b), (iT c.i), (iT c.h)]), (ssl eRelation l)] (fun (r : Query × L1Cur) => (.agg [(iT r.1.VariableCount), (osl eAtom true r.1.Atoms), (osl eI true r.1.Free)])) (fun r => [(.ptr true [(ssl eU r.2.b), (iT r.2.i), (iT r.2.h)])]) := Rn.o (e := (
  sn 1 4 (.ptr true [(iT 0), (osl eAtom true ([])), (osl eI true ([]))]) <| 
  (f102 c).bind fun o1 =>
  (f21 o1.2 3).bind fun o3 =>
  (jn (QN (fun (y : (List Int) × Int × Int × Int × (List Atom) × (List Int)) => [(0, .v (.ptr true [(ssl eU y.1), (iT y.2.1), (iT y.2.2.1)])), (4, .v (.ptr true [(iT 0), (osl eAtom true ([])), (osl eI true ([]))])), (5, .v (.ptr true [(iT y.2.2.2.1), (osl eAtom true y.2.2.2.2.1), (osl eI true y.2.2.2.2.2)]))])) ((if o3.1 = true then
  (f103 o3.2 l).bind fun o8 =>
  some (o8.2.b, o8.2.i, o8.2.h, o8.1.VariableCount, o8.1.Atoms, o8.1.Free)
  else
  some (o3.2.b, o3.2.i, o3.2.h, o1.1.VariableCount, o1.1.Atoms, o1.1.Free)) : Option ((List Int) × Int × Int × Int × (List Atom) × (List Int)))).bind fun (c_10, c_11, c_12, q_13, q_14, q_15) =>
  (f21 ({ b := c_10, i := c_11, h := c_12 } : L1Cur) 4).bind fun o16 =>
  (jn (QN (fun (y : (List Int) × Int × Int × Int × (List Atom) × (List Int)) => [(0, .v (.ptr true [(ssl eU y.1), (iT y.2.1), (iT y.2.2.1)])), (4, .v (.ptr true [(iT 0), (osl eAtom true ([])), (osl eI true ([]))])), (5, .v (.ptr true [(iT y.2.2.2.1), (osl eAtom true y.2.2.2.2.1), (osl eI true y.2.2.2.2.2)]))])) ((if o16.1 = true then
  (iter f64_0 (o16.2.b, o16.2.i, o16.2.h, q_13, q_14, q_15, 0)).bind fun (c_39, c_40, c_41, q_42, q_43, q_44) =>
  some (c_39, c_40, c_41, q_42, q_43, q_44)
  else
  some (o16.2.b, o16.2.i, o16.2.h, q_13, q_14, q_15)) : Option ((List Int) × Int × Int × Int × (List Atom) × (List Int)))).bind fun (c_45, c_46, c_47, q_48, q_49, q_50) =>
  some (({ VariableCount := q_48, Atoms := q_49, Free := q_50 } : Query), ({ b := c_45, i := c_46, h := c_47 } : L1Cur)) : Option (Query × L1Cur))) rfl (by exact go)
instance i80_0 {l : (List Int)} {x : Int} : Lp cx (f80_0 l x) 18 L80_0 (fun (zs : Int) => [(0, .v (ssl eI l)), (1, .v (iT x)), (5, .v (iT zs))]) (QO (QX 0 (fun (y : Unit) => [])) (QR (fun (y : Bool) => [(4, .v (.bool y))]))) := Lp.of (by unfold f80_0; exact go)
instance i80 {l : (List Int)} {x : Int} : Rn cx (f80 l x) 80 [(ssl eI l), (iT x)] (fun (r : Bool) => (.bool r)) (fun r => []) := Rn.o rfl (by unfold f80; exact go)
instance : Io0 cx 80 := ⟨rfl⟩
instance i41_0 {a : Atom} : Lp cx (f41_0 a) 19 L41_0 (fun (zs : (List Int) × Int) => [(1, .v (.ptr true [(iT a.Relation), (ssl eI a.Terms)])), (3, .v (osl eI true zs.1)), (4, .v (iT zs.2))]) (QX 0 (fun (y : (List Int)) => [(3, .v (osl eI true y))])) := Lp.of (f := (fun
 | (out_1, v_2) =>
  if v_2 < 4 then
  (f80 a.Terms v_2).bind fun o4 =>
  (jn (QN (fun (y : (List Int)) => [(1, .v (.ptr true [(iT a.Relation), (ssl eI a.Terms)])), (3, .v (osl eI true y)), (4, .v (iT v_2))])) ((if o4 = true then
  (app 8 out_1 ([v_2])).bind fun l_9 =>
  some l_9
  else
  some out_1) : Option (List Int))).bind fun out_11 =>
  some (.inl (out_11, w64 (v_2 + 1)))
  else
  some (.inr out_1) : (List Int) × Int → Option (((List Int) × Int) ⊕ (List Int)))) (by exact go)
instance i41 {a : Atom} : Rn cx (f41 a) 41 [(.agg [(iT a.Relation), (ssl eI a.Terms)])] (fun (r : (List Int)) => (osl eI true r)) (fun r => []) := Rn.o (e := (
  sn 4 3 (osl eI true ([])) <| 
  (iter (f41_0 a) ([], 0)).bind fun out_14 =>
  some out_14 : Option (List Int))) rfl (by exact go)
instance : Io0 cx 41 := ⟨rfl⟩
instance i40 {l : (List Relation)} {a : Atom} : Rn cx (f40 l a) 40 [(ssl eRelation l), (.agg [(iT a.Relation), (ssl eI a.Terms)])] (fun (r : (List Int)) => (osl eI true r)) (fun r => []) := Rn.o (e := (
  (f38 a.Relation 0 (w64 ((l.length : Int) - 1))).bind fun o1 =>
  (jn (QN (fun (y : Bool) => [(0, .v (ssl eRelation l)), (3, .v (.ptr true [(iT a.Relation), (ssl eI a.Terms)])), (24, .v (.bool y))])) ((if ¬ (o1 = true) then
  some true
  else
  (ix l a.Relation).bind fun v_6 =>
  (f38 v_6.KeyLength 0 (a.Terms.length : Int)).bind fun o8 =>
  some (decide (¬ (o8 = true)))) : Option (Bool))).bind fun x_3 =>
  if x_3 = true then
  sn 2 4 (osl eI true ([])) <| 
  some ([])
  else
  (ix l a.Relation).bind fun v_11 =>
  (cutL a.Terms 0 v_11.KeyLength).bind fun l_13 =>
  (f41 ({ Relation := 0, Terms := l_13 } : Atom)).bind fun o15 =>
  some o15 : Option (List Int))) rfl (by exact go)
instance : Io0 cx 40 := ⟨rfl⟩
instance i151_0 {a : (List Int)} {b : (List Int)} : Lp cx (f151_0 a b) 25 L151_0 (fun (zs : (List Int) × Int) => [(0, .v (ssl eI a)), (1, .v (ssl eI b)), (5, .v (osl eI true zs.1)), (6, .v (iT zs.2))]) (QX 0 (fun (y : (List Int)) => [(5, .v (osl eI true y))])) := Lp.of (f := (fun
 | (out_1, v_2) =>
  if v_2 < 4 then
  (f80 a v_2).bind fun o4 =>
  (jn (QN (fun (y : Bool) => [(0, .v (ssl eI a)), (1, .v (ssl eI b)), (5, .v (osl eI true out_1)), (6, .v (iT v_2)), (19, .v (.bool y))])) ((if o4 = true then
  some true
  else
  (f80 b v_2).bind fun o9 =>
  some o9) : Option (Bool))).bind fun x_6 =>
  (jn (QN (fun (y : (List Int)) => [(0, .v (ssl eI a)), (1, .v (ssl eI b)), (5, .v (osl eI true y)), (6, .v (iT v_2))])) ((if x_6 = true then
  (app 8 out_1 ([v_2])).bind fun l_14 =>
  some l_14
  else
  some out_1) : Option (List Int))).bind fun out_16 =>
  some (.inl (out_16, w64 (v_2 + 1)))
  else
  some (.inr out_1) : (List Int) × Int → Option (((List Int) × Int) ⊕ (List Int)))) (by exact go)
instance i151 {a : (List Int)} {b : (List Int)} : Rn cx (f151 a b) 151 [(ssl eI a), (ssl eI b)] (fun (r : (List Int)) => (osl eI true r)) (fun r => []) := Rn.o (e := (
  sn 3 5 (osl eI true ([])) <| 
  (iter (f151_0 a b) ([], 0)).bind fun out_19 =>
  some out_19 : Option (List Int))) rfl (by exact go)
instance : Io0 cx 151 := ⟨rfl⟩
instance i39_0 {l : (List Int)} {want : (List Int)} : Lp cx (f39_0 l want) 19 L39_0 (fun (zs : Int) => [(0, .v (ssl eI l)), (1, .v (ssl eI want)), (5, .v (iT zs))]) (QO (QX 0 (fun (y : Unit) => [])) (QR (fun (y : Bool) => [(4, .v (.bool y))]))) := Lp.of (by unfold f39_0; exact go)
instance i39 {l : (List Int)} {want : (List Int)} : Rn cx (f39 l want) 39 [(ssl eI l), (ssl eI want)] (fun (r : Bool) => (.bool r)) (fun r => []) := Rn.o rfl (by unfold f39; exact go)
instance : Io0 cx 39 := ⟨rfl⟩
instance i188_1 {l : (List Relation)} {q : Query} {skip : Int} {n_7 : Int} : Lp cx (lw n_7 (f188_1 l q skip)) 58 L188_1 (fun (zs : (List Int) × Int) => [(0, .v (ssl eRelation l)), (2, .v (iT skip)), (5, .v (.ptr true [(iT q.VariableCount), (ssl eAtom q.Atoms), (ssl eI q.Free)])), (9, .v (osl eI true zs.1)), (10, .v (iT n_7)), (11, .v (iT zs.2))]) (QX 2 (fun (y : (List Int)) => [(0, .v (ssl eRelation l)), (2, .v (iT skip)), (5, .v (.ptr true [(iT q.VariableCount), (ssl eAtom q.Atoms), (ssl eI q.Free)])), (9, .v (osl eI true y)), (10, .v (iT n_7))])) := Lp.of (f := (fun
 | (out_9, i_10) =>
  if i_10 < (q.Atoms.length : Int) then
  (jn (QN (fun (y : Bool) => [(0, .v (ssl eRelation l)), (2, .v (iT skip)), (5, .v (.ptr true [(iT q.VariableCount), (ssl eAtom q.Atoms), (ssl eI q.Free)])), (9, .v (osl eI true out_9)), (10, .v (iT n_7)), (11, .v (iT i_10)), (48, .v (.bool y))])) ((if i_10 ≠ skip then
  (ix q.Atoms i_10).bind fun v_15 =>
  (f40 l v_15).bind fun o17 =>
  (f39 out_9 o17).bind fun o19 =>
  some o19
  else
  some false) : Option (Bool))).bind fun x_12 =>
  (jn (QN (fun (y : (List Int)) => [(0, .v (ssl eRelation l)), (2, .v (iT skip)), (5, .v (.ptr true [(iT q.VariableCount), (ssl eAtom q.Atoms), (ssl eI q.Free)])), (9, .v (osl eI true y)), (10, .v (iT n_7)), (11, .v (iT i_10))])) ((if x_12 = true then
  (ix q.Atoms i_10).bind fun v_24 =>
  (f41 v_24).bind fun o26 =>
  (f151 out_9 o26).bind fun o28 =>
  some o28
  else
  some out_9) : Option (List Int))).bind fun out_30 =>
  some (.inl (out_30, w64 (i_10 + 1)))
  else
  some (.inr out_9) : (List Int) × Int → Option (((List Int) × Int) ⊕ (List Int)))) (by exact go)
instance i188_0 {l : (List Relation)} {q : Query} {skip : Int} : Lp cx (f188_0 l q skip) 58 L188_0 (fun (zs : (List Int) × Int) => [(0, .v (ssl eRelation l)), (2, .v (iT skip)), (5, .v (.ptr true [(iT q.VariableCount), (ssl eAtom q.Atoms), (ssl eI q.Free)])), (9, .v (osl eI true zs.1)), (10, .v (iT zs.2))]) (QX 0 (fun (y : (List Int)) => [(9, .v (osl eI true y))])) := Lp.of (f := (fun
 | (out_6, n_7) =>
  if n_7 < (q.Atoms.length : Int) then
  (iter (lw n_7  (f188_1 l q skip)) (out_6, 0)).bind fun out_33 =>
  some (.inl (out_33, w64 (n_7 + 1)))
  else
  some (.inr out_6) : (List Int) × Int → Option (((List Int) × Int) ⊕ (List Int)))) (by exact go)
instance i188 {l : (List Relation)} {q : Query} {skip : Int} {vars : (List Int)} : Rn cx (f188 l q skip vars) 188 [(ssl eRelation l), (.agg [(iT q.VariableCount), (ssl eAtom q.Atoms), (ssl eI q.Free)]), (iT skip), (ssl eI vars)] (fun (r : (List Int)) => (osl eI true r)) (fun r => []) := Rn.o (e := (
  (f93 l q).bind fun o1 =>
  if ¬ (o1 = true) then
  sn 2 8 (osl eI true ([])) <| 
  some ([])
  else
  (f151 vars q.Free).bind fun o4 =>
  (iter (f188_0 l q skip) (o4, 0)).bind fun out_36 =>
  some out_36 : Option (List Int))) rfl (by exact go)
instance : Io0 cx 188 := ⟨rfl⟩
instance i187 {l : (List Relation)} {q : Query} {k : Int} : Rn cx (f187 l q k) 187 [(ssl eRelation l), (.agg [(iT q.VariableCount), (ssl eAtom q.Atoms), (ssl eI q.Free)]), (iT k)] (fun (r : (List Int)) => (osl eI true r)) (fun r => []) := Rn.o (e := (
  (f93 l q).bind fun o1 =>
  (jn (QN (fun (y : Bool) => [(0, .v (ssl eRelation l)), (2, .v (iT k)), (4, .v (.ptr true [(iT q.VariableCount), (ssl eAtom q.Atoms), (ssl eI q.Free)])), (19, .v (.bool y))])) ((if ¬ (o1 = true) then
  some true
  else
  (f38 k 0 (w64 ((q.Atoms.length : Int) - 1))).bind fun o6 =>
  some (decide (¬ (o6 = true)))) : Option (Bool))).bind fun x_3 =>
  if x_3 = true then
  sn 2 6 (osl eI true ([])) <| 
  some ([])
  else
  (ix q.Atoms k).bind fun v_9 =>
  (f40 l v_9).bind fun o11 =>
  (f188 l q k o11).bind fun o13 =>
  some o13 : Option (List Int))) rfl (by exact go)
instance : Io0 cx 187 := ⟨rfl⟩
instance i176_2 {q : Query} {k : Int} {o9 : (List Int)} {n_12 : Int} {out_14 : (List Int)} {i_15 : Int} {o19 : (List Int)} : Lp cx (lw (q, k, o9, n_12, i_15) (f176_2 out_14 o19)) 96 L176_2 (fun (zs : Bool × Int) => [(2, .v (iT k)), (4, .v (.ptr true [(iT q.VariableCount), (ssl eAtom q.Atoms), (ssl eI q.Free)])), (7, .v (osl eI true out_14)), (8, .v (osl eI true o9)), (9, .v (iT n_12)), (10, .v (iT i_15)), (11, .v (osl eI true o19)), (12, .v (.bool zs.1)), (13, .v (iT zs.2))]) (QX 4 (fun (y : Bool) => [(2, .v (iT k)), (4, .v (.ptr true [(iT q.VariableCount), (ssl eAtom q.Atoms), (ssl eI q.Free)])), (7, .v (osl eI true out_14)), (8, .v (osl eI true o9)), (9, .v (iT n_12)), (10, .v (iT i_15)), (11, .v (osl eI true o19)), (12, .v (.bool y))])) := Lp.of (f := (fun
 | (met_21, j_22) =>
  if j_22 < (o19.length : Int) then
  (jn (QN (fun (y : Bool) => [(2, .v (iT k)), (4, .v (.ptr true [(iT q.VariableCount), (ssl eAtom q.Atoms), (ssl eI q.Free)])), (7, .v (osl eI true out_14)), (8, .v (osl eI true o9)), (9, .v (iT n_12)), (10, .v (iT i_15)), (11, .v (osl eI true o19)), (12, .v (.bool y)), (13, .v (iT j_22))])) ((if met_21 = true then
  some true
  else
  (ix o19 j_22).bind fun v_27 =>
  (f80 out_14 v_27).bind fun o29 =>
  some o29) : Option (Bool))).bind fun met_24 =>
  some (.inl (met_24, w64 (j_22 + 1)))
  else
  some (.inr met_21) : Bool × Int → Option ((Bool × Int) ⊕ Bool))) (by exact go)
end
end Go.Proofs.YtamibblcpccjlaaGreatH
