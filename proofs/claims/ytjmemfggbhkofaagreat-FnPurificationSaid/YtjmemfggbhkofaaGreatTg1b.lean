import Derived.Test.YtjmemfggbhkofaaGreatTg1a
set_option maxHeartbeats 2000000
set_option linter.unusedVariables false
set_option linter.unusedSimpArgs false
set_option linter.defProp false
set_option linter.unusedSectionVars false
set_option maxRecDepth 100000
namespace Go.Proofs.YtjmemfggbhkofaaGreatH
open Go
noncomputable section
instance i50 {l : (List Relation)} {q : Query} : Rn cx (f50 l q) 50 [(ssl eRelation l), (.agg [(iT q.VariableCount), (ssl eAtom q.Atoms), (ssl eI q.Free)])] (fun (r : Bool) => (.bool r)) (fun r => []) := Rn.o (e := (
  (f95 l).bind fun o1 =>
  (jn (QN (fun (y : Bool) => [(0, .v (ssl eRelation l)), (3, .v (.ptr true [(iT q.VariableCount), (ssl eAtom q.Atoms), (ssl eI q.Free)])), (27, .v (.bool y))])) ((if ¬ (o1 = true) then
  some true
  else
  (f87 q.VariableCount 0 4).bind fun o6 =>
  (jn (QN (fun (y : Bool) => [(0, .v (ssl eRelation l)), (3, .v (.ptr true [(iT q.VariableCount), (ssl eAtom q.Atoms), (ssl eI q.Free)])), (27, .v (.bool y))])) ((if ¬ (o6 = true) then
  some true
  else
  (f87 (q.Atoms.length : Int) 1 3).bind fun o11 =>
  some (decide (¬ (o11 = true)))) : Option (Bool))).bind fun x_8 =>
  some x_8) : Option (Bool))).bind fun x_3 =>
  if x_3 = true then
  some false
  else
  (mkl 1 4 false).bind fun l_14 =>
  sn 2 5 (osl eB true l_14) <| 
  (iter (f50_0 l q) (l_14, 0)).bind fun o => match o with
  | .inl met_58 =>
  ((iter (f50_1 q met_58) 0).bind fun o => match o with
  | .inl _ =>
  ((iter (f50_2 q) 0).bind fun o => match o with
  | .inl _ =>
  some true
  | .inr x_85 =>
  some x_85)
  | .inr x_67 =>
  some x_67)
  | .inr x_59 =>
  some x_59 : Option Bool)) rfl (by exact go)
instance : Io0 cx 50 := ⟨rfl⟩
instance i221_0 {l : (List Relation)} {a : Atom} : Lp cx (f221_0 l a) 39 L221_0 (fun (zs : (List UInt8) × Int) => [(0, .v (ssl eRelation l)), (3, .v (.ptr true [(iT a.Relation), (ssl eI a.Terms)])), (5, .v (.str zs.1)), (6, .v (iT zs.2))]) (QX 0 (fun (y : (List UInt8)) => [(5, .v (.str y))])) := Lp.of (f := (fun
 | (s_3, i_4) =>
  if i_4 < (a.Terms.length : Int) then
  (ix l a.Relation).bind fun v_6 =>
  (jn (QN (fun (y : (List UInt8)) => [(0, .v (ssl eRelation l)), (3, .v (.ptr true [(iT a.Relation), (ssl eI a.Terms)])), (5, .v (.str y)), (6, .v (iT i_4))])) ((if i_4 = v_6.KeyLength then
  (cat s_3 ([124])).bind fun s_11 =>
  some s_11
  else
  some s_3) : Option (List UInt8))).bind fun s_13 =>
  (ix a.Terms i_4).bind fun v_14 =>
  (f220 v_14).bind fun o16 =>
  (cat s_13 o16).bind fun s_18 =>
  some (.inl (s_18, w64 (i_4 + 1)))
  else
  some (.inr s_3) : (List UInt8) × Int → Option (((List UInt8) × Int) ⊕ (List UInt8)))) (by exact go)
instance i221 {l : (List Relation)} {a : Atom} : Rn cx (f221 l a) 221 [(ssl eRelation l), (.agg [(iT a.Relation), (ssl eI a.Terms)])] (fun (r : (List UInt8)) => (.str r)) (fun r => []) := Rn.o rfl (by unfold f221; exact go)
instance : Io0 cx 221 := ⟨rfl⟩
instance i216_0 {l : (List Relation)} {q : Query} : Lp cx (lw l (f216_0 q)) 50 L216_0 (fun (zs : (List UInt8) × Int) => [(0, .v (ssl eRelation l)), (3, .v (.ptr true [(iT q.VariableCount), (ssl eAtom q.Atoms), (ssl eI q.Free)])), (5, .v (.str zs.1)), (6, .v (iT zs.2))]) (QX 0 (fun (y : (List UInt8)) => [(0, .v (ssl eRelation l)), (3, .v (.ptr true [(iT q.VariableCount), (ssl eAtom q.Atoms), (ssl eI q.Free)])), (5, .v (.str y))])) := Lp.of (by unfold lw f216_0; exact go)
instance i216_1 {l : (List Relation)} {q : Query} : Lp cx (f216_1 l q) 50 L216_1 (fun (zs : (List UInt8) × Int) => [(0, .v (ssl eRelation l)), (3, .v (.ptr true [(iT q.VariableCount), (ssl eAtom q.Atoms), (ssl eI q.Free)])), (5, .v (.str zs.1)), (7, .v (iT zs.2))]) (QX 2 (fun (y : (List UInt8)) => [(5, .v (.str y))])) := Lp.of (f := (fun
 | (s_18, i_19) =>
  if i_19 < (q.Atoms.length : Int) then
  (jn (QN (fun (y : (List UInt8)) => [(0, .v (ssl eRelation l)), (3, .v (.ptr true [(iT q.VariableCount), (ssl eAtom q.Atoms), (ssl eI q.Free)])), (5, .v (.str y)), (7, .v (iT i_19))])) ((if i_19 > 0 then
  (cat s_18 ([32])).bind fun s_24 =>
  some s_24
  else
  some s_18) : Option (List UInt8))).bind fun s_26 =>
  (ix q.Atoms i_19).bind fun v_27 =>
  (f221 l v_27).bind fun o29 =>
  (cat s_26 o29).bind fun s_31 =>
  some (.inl (s_31, w64 (i_19 + 1)))
  else
  some (.inr s_18) : (List UInt8) × Int → Option (((List UInt8) × Int) ⊕ (List UInt8)))) (by exact go)
instance i216 {l : (List Relation)} {q : Query} : Rn cx (f216 l q) 216 [(ssl eRelation l), (.agg [(iT q.VariableCount), (ssl eAtom q.Atoms), (ssl eI q.Free)])] (fun (r : (List UInt8)) => (.str r)) (fun r => []) := Rn.o (e := (
  (f50 l q).bind fun o1 =>
  if ¬ (o1 = true) then
  some ([])
  else
  (iter (lw l  (f216_0 q)) ([], 0)).bind fun s_15 =>
  (cat s_15 ([63])).bind fun s_16 =>
  (iter (f216_1 l q) (s_16, 0)).bind fun s_35 =>
  some s_35 : Option (List UInt8))) rfl (by exact go)
instance : Io0 cx 216 := ⟨rfl⟩
instance i200_0 {l : (List Relation)} {s1 : (List UInt8)} {o1 : (List (List UInt8))} : Lp cx (lw (l, s1) (f200_0 o1)) 123 L200_0 (fun (zs : Int × (List Atom) × (List Int) × Int) => [(0, .v (ssl eRelation l)), (1, .v (.str s1)), (4, .v (.ptr true [(iT 0), (osl eAtom true ([])), (osl eI true ([]))])), (6, .v (osl eS true o1)), (7, .v (.ptr true [(iT zs.1), (osl eAtom true zs.2.1), (osl eI true zs.2.2.1)])), (8, .v (iT zs.2.2.2))]) (QX 0 (fun (y : Int × (List Atom) × (List Int)) => [(0, .v (ssl eRelation l)), (1, .v (.str s1)), (4, .v (.ptr true [(iT 0), (osl eAtom true ([])), (osl eI true ([]))])), (6, .v (osl eS true o1)), (7, .v (.ptr true [(iT y.1), (osl eAtom true y.2.1), (osl eI true y.2.2)]))])) := Lp.of (by unfold lw f200_0; exact go)
instance i200_2 {l : (List Relation)} {s1 : (List UInt8)} {o24 : (List (List UInt8))} {i_29 : Int} : Lp cx (lw s1 (f200_2 l o24 i_29)) 123 L200_2 (fun (zs : Int × (List Atom) × (List Int) × Int × (List Int) × Int) => [(0, .v (ssl eRelation l)), (1, .v (.str s1)), (4, .v (.ptr true [(iT 0), (osl eAtom true ([])), (osl eI true ([]))])), (7, .v (.ptr true [(iT zs.1), (osl eAtom true zs.2.1), (osl eI true zs.2.2.1)])), (11, .v (osl eS true o24)), (12, .v (iT i_29)), (13, .v (.ptr true [(iT zs.2.2.2.1), (osl eI true zs.2.2.2.2.1)])), (14, .v (iT zs.2.2.2.2.2))]) (QX 4 (fun (y : Int × (List Atom) × (List Int) × Int × (List Int)) => [(0, .v (ssl eRelation l)), (1, .v (.str s1)), (4, .v (.ptr true [(iT 0), (osl eAtom true ([])), (osl eI true ([]))])), (7, .v (.ptr true [(iT y.1), (osl eAtom true y.2.1), (osl eI true y.2.2.1)])), (11, .v (osl eS true o24)), (12, .v (iT i_29)), (13, .v (.ptr true [(iT y.2.2.2.1), (osl eI true y.2.2.2.2)]))])) := Lp.of (f := (fun
 | (q_31, q_32, q_33, a_34, a_35, k_36) =>
  (ix o24 i_29).bind fun v_37 =>
  if k_36 < (v_37.length : Int) then
  (jb 5 (QN (fun (y : Int × Int × (List Int)) => [(0, .v (ssl eRelation l)), (1, .v (.str s1)), (4, .v (.ptr true [(iT 0), (osl eAtom true ([])), (osl eI true ([]))])), (7, .v (.ptr true [(iT y.1), (osl eAtom true q_32), (osl eI true q_33)])), (11, .v (osl eS true o24)), (12, .v (iT i_29)), (13, .v (.ptr true [(iT y.2.1), (osl eI true y.2.2)])), (14, .v (iT k_36))])) ((if k_36 = 0 then
  (cutL v_37 0 1).bind fun l_43 =>
  (f215 l l_43).bind fun o45 =>
  some (q_31, o45, a_35)
  else
  (ix v_37 k_36).bind fun c_47 =>
  if (c_47.toNat : Int) = 124 then
  some (q_31, a_34, a_35)
  else
  (cutL v_37 k_36 (w64 (k_36 + 1))).bind fun l_50 =>
  (f214 l_50).bind fun o52 =>
  (app 8 a_35 ([o52.1])).bind fun l_54 =>
  some (if w64 (o52.1 + 1) > q_31 then w64 (o52.1 + 1) else q_31, a_34, l_54)) : Option (Int × Int × (List Int)))).bind fun (q_56, a_57, a_58) =>
  some (.inl (q_56, q_32, q_33, a_57, a_58, w64 (k_36 + 1)))
  else
  some (.inr (q_31, q_32, q_33, a_34, a_35)) : Int × (List Atom) × (List Int) × Int × (List Int) × Int → Option ((Int × (List Atom) × (List Int) × Int × (List Int) × Int) ⊕ (Int × (List Atom) × (List Int) × Int × (List Int))))) (by exact go)
instance i200_1 {l : (List Relation)} {s1 : (List UInt8)} {o24 : (List (List UInt8))} : Lp cx (lw s1 (f200_1 l o24)) 123 L200_1 (fun (zs : Int × (List Atom) × (List Int) × Int) => [(0, .v (ssl eRelation l)), (1, .v (.str s1)), (4, .v (.ptr true [(iT 0), (osl eAtom true ([])), (osl eI true ([]))])), (7, .v (.ptr true [(iT zs.1), (osl eAtom true zs.2.1), (osl eI true zs.2.2.1)])), (11, .v (osl eS true o24)), (12, .v (iT zs.2.2.2))]) (QX 2 (fun (y : Int × (List Atom) × (List Int)) => [(0, .v (ssl eRelation l)), (1, .v (.str s1)), (4, .v (.ptr true [(iT 0), (osl eAtom true ([])), (osl eI true ([]))])), (7, .v (.ptr true [(iT y.1), (osl eAtom true y.2.1), (osl eI true y.2.2)]))])) := Lp.of (f := (fun
 | (q_26, q_27, q_28, i_29) =>
  if i_29 < (o24.length : Int) then
  sn 2 59 (.agg [(iT 0), (osl eI true ([]))]) <| 
  (iter (lw s1  (f200_2 l o24 i_29)) (q_26, q_27, q_28, 0, [], 0)).bind fun (q_61, q_62, q_63, a_64, a_65) =>
  (app 32 q_62 ([({ Relation := a_64, Terms := a_65 } : Atom)])).bind fun l_66 =>
  some (.inl (q_61, l_66, q_63, w64 (i_29 + 1)))
  else
  some (.inr (q_26, q_27, q_28)) : Int × (List Atom) × (List Int) × Int → Option ((Int × (List Atom) × (List Int) × Int) ⊕ (Int × (List Atom) × (List Int))))) (by exact go)
instance i200 {l : (List Relation)} {s1 : (List UInt8)} : Rn cx (f200 l s1) 200 [(ssl eRelation l), (.str s1)] (fun (r : Query × Bool) => (.tup [(.agg [(iT r.1.VariableCount), (osl eAtom true r.1.Atoms), (osl eI true r.1.Free)]), (.bool r.2)])) (fun r => []) := Rn.o (e := (
  sn 2 4 (.ptr true [(iT 0), (osl eAtom true ([])), (osl eI true ([]))]) <| 
  (f213 s1 63).bind fun o1 =>
  if (o1.length : Int) ≠ 2 then
  sn 1 22 (.agg [(iT 0), (osl eAtom true ([])), (osl eI true ([]))]) <| 
  some (({ VariableCount := 0, Atoms := [], Free := [] } : Query), false)
  else
  sn 2 23 (.agg [(iT 0), (osl eAtom true ([])), (osl eI true ([]))]) <| 
  (iter (lw (l, s1)  (f200_0 o1)) (0, [], [], 0)).bind fun (q_19, q_20, q_21) =>
  (ix o1 1).bind fun v_22 =>
  (f213 v_22 32).bind fun o24 =>
  (iter (lw s1  (f200_1 l o24)) (q_19, q_20, q_21, 0)).bind fun (q_70, q_71, q_72) =>
  (f216 l ({ VariableCount := q_70, Atoms := q_71, Free := q_72 } : Query)).bind fun o73 =>
  if o73 ≠ s1 then
  sn 1 121 (.agg [(iT 0), (osl eAtom true ([])), (osl eI true ([]))]) <| 
  some (({ VariableCount := 0, Atoms := [], Free := [] } : Query), false)
  else
  some (({ VariableCount := q_70, Atoms := q_71, Free := q_72 } : Query), true) : Option (Query × Bool))) rfl (by exact go)
instance : Io0 cx 200 := ⟨rfl⟩
instance i170 {c : L1Cur} {l : (List Relation)} : Rn cx (f170 c l) 170 [(.ptr true [(ssl eU c.b), (iT c.i), (iT c.h)]), (ssl eRelation l)] (fun (r : Query × L1Cur) => (.agg [(iT r.1.VariableCount), (osl eAtom true r.1.Atoms), (osl eI true r.1.Free)])) (fun r => [(.ptr true [(ssl eU r.2.b), (iT r.2.i), (iT r.2.h)])]) := Rn.o (e := (
  sn 1 4 (.ptr true [(iT 0), (osl eAtom true ([])), (osl eI true ([]))]) <| 
  sn 3 10 (osl eS true ([[63, 114, 120, 124, 121, 32, 115, 121, 124, 122], [63, 114, 120, 124, 121, 32, 115, 121, 124, 120], [63, 114, 120, 124, 121, 32, 115, 122, 124, 121], [63, 114, 120, 124, 121, 32, 115, 120, 124, 122], [63, 114, 120, 124, 49], [63, 114, 120, 124, 120], [63, 114, 120, 124, 121, 32, 115, 121, 124, 49], [63, 114, 120, 124, 121, 32, 115, 121, 124, 122, 32, 114], [63, 114, 120, 124, 121], [63, 114, 120, 124, 122, 32, 115, 121, 124, 122]])) <| 
  sn 0 10 (ssl eS ([[63, 114, 120, 124, 121, 32, 115, 121, 124, 122], [63, 114, 120, 124, 121, 32, 115, 121, 124, 120], [63, 114, 120, 124, 121, 32, 115, 122, 124, 121], [63, 114, 120, 124, 121, 32, 115, 120, 124, 122], [63, 114, 120, 124, 49], [63, 114, 120, 124, 120], [63, 114, 120, 124, 121, 32, 115, 121, 124, 49], [63, 114, 120, 124, 121, 32, 115, 121, 124, 122, 32, 114], [63, 114, 120, 124, 121], [63, 114, 120, 124, 122, 32, 115, 121, 124, 122]])) <| 
  (f201 c ([[63, 114, 120, 124, 121, 32, 115, 121, 124, 122], [63, 114, 120, 124, 121, 32, 115, 121, 124, 120], [63, 114, 120, 124, 121, 32, 115, 122, 124, 121], [63, 114, 120, 124, 121, 32, 115, 120, 124, 122], [63, 114, 120, 124, 49], [63, 114, 120, 124, 120], [63, 114, 120, 124, 121, 32, 115, 121, 124, 49], [63, 114, 120, 124, 121, 32, 115, 121, 124, 122, 32, 114], [63, 114, 120, 124, 121], [63, 114, 120, 124, 122, 32, 115, 121, 124, 122]])).bind fun o1 =>
  (f200 l o1.1).bind fun o3 =>
  (jn (QN (fun (y : Int × (List Atom) × (List Int)) => [(0, .v (.ptr true [(ssl eU o1.2.b), (iT o1.2.i), (iT o1.2.h)])), (4, .v (.ptr true [(iT 0), (osl eAtom true ([])), (osl eI true ([]))])), (5, .v (.ptr true [(iT y.1), (osl eAtom true y.2.1), (osl eI true y.2.2)]))])) ((if ¬ (o3.2 = true) then
  (f200 l ([63, 114, 120, 124, 121, 32, 115, 121, 124, 122])).bind fun o8 =>
  some (o8.1.VariableCount, o8.1.Atoms, o8.1.Free)
  else
  some (o3.1.VariableCount, o3.1.Atoms, o3.1.Free)) : Option (Int × (List Atom) × (List Int)))).bind fun (q_10, q_11, q_12) =>
  some (({ VariableCount := q_10, Atoms := q_11, Free := q_12 } : Query), o1.2) : Option (Query × L1Cur))) rfl (by exact go)
instance i129_0 : Lp cx f129_0 31 L129_0 (fun (zs : (List Int) × Int × Int × Int × (List Atom) × (List Int) × Int) => [(0, .v (.ptr true [(ssl eU zs.1), (iT zs.2.1), (iT zs.2.2.1)])), (4, .v (.ptr true [(iT 0), (osl eAtom true ([])), (osl eI true ([]))])), (5, .v (.ptr true [(iT zs.2.2.2.1), (osl eAtom true zs.2.2.2.2.1), (osl eI true zs.2.2.2.2.2.1)])), (6, .v (iT zs.2.2.2.2.2.2))]) (QX 0 (fun (y : (List Int) × Int × Int × Int × (List Atom) × (List Int)) => [(0, .v (.ptr true [(ssl eU y.1), (iT y.2.1), (iT y.2.2.1)])), (4, .v (.ptr true [(iT 0), (osl eAtom true ([])), (osl eI true ([]))])), (5, .v (.ptr true [(iT y.2.2.2.1), (osl eAtom true y.2.2.2.2.1), (osl eI true y.2.2.2.2.2)]))])) := Lp.of (f := (fun
 | (c_21, c_22, c_23, q_24, q_25, q_26, v_27) =>
  if v_27 < q_24 then
  (f149 ({ b := c_21, i := c_22, h := c_23 } : L1Cur) 3).bind fun o29 =>
  (jn (QN (fun (y : (List Int)) => [(0, .v (.ptr true [(ssl eU o29.2.b), (iT o29.2.i), (iT o29.2.h)])), (4, .v (.ptr true [(iT 0), (osl eAtom true ([])), (osl eI true ([]))])), (5, .v (.ptr true [(iT q_24), (osl eAtom true q_25), (osl eI true y)])), (6, .v (iT v_27))])) ((if o29.1 = true then
  (app 8 q_26 ([v_27])).bind fun l_34 =>
  some l_34
  else
  some q_26) : Option (List Int))).bind fun q_36 =>
  some (.inl (o29.2.b, o29.2.i, o29.2.h, q_24, q_25, q_36, w64 (v_27 + 1)))
  else
  some (.inr (c_21, c_22, c_23, q_24, q_25, q_26)) : (List Int) × Int × Int × Int × (List Atom) × (List Int) × Int → Option (((List Int) × Int × Int × Int × (List Atom) × (List Int) × Int) ⊕ ((List Int) × Int × Int × Int × (List Atom) × (List Int))))) (by exact go)
instance i129 {c : L1Cur} {l : (List Relation)} : Rn cx (f129 c l) 129 [(.ptr true [(ssl eU c.b), (iT c.i), (iT c.h)]), (ssl eRelation l)] (fun (r : Query × L1Cur) => (.agg [(iT r.1.VariableCount), (osl eAtom true r.1.Atoms), (osl eI true r.1.Free)])) (fun r => [(.ptr true [(ssl eU r.2.b), (iT r.2.i), (iT r.2.h)])]) := Rn.o (e := (
  sn 1 4 (.ptr true [(iT 0), (osl eAtom true ([])), (osl eI true ([]))]) <| 
  (f169 c).bind fun o1 =>
  (f149 o1.2 3).bind fun o3 =>
  (jn (QN (fun (y : (List Int) × Int × Int × Int × (List Atom) × (List Int)) => [(0, .v (.ptr true [(ssl eU y.1), (iT y.2.1), (iT y.2.2.1)])), (4, .v (.ptr true [(iT 0), (osl eAtom true ([])), (osl eI true ([]))])), (5, .v (.ptr true [(iT y.2.2.2.1), (osl eAtom true y.2.2.2.2.1), (osl eI true y.2.2.2.2.2)]))])) ((if o3.1 = true then
  (f170 o3.2 l).bind fun o8 =>
  some (o8.2.b, o8.2.i, o8.2.h, o8.1.VariableCount, o8.1.Atoms, o8.1.Free)
  else
  some (o3.2.b, o3.2.i, o3.2.h, o1.1.VariableCount, o1.1.Atoms, o1.1.Free)) : Option ((List Int) × Int × Int × Int × (List Atom) × (List Int)))).bind fun (c_10, c_11, c_12, q_13, q_14, q_15) =>
  (f149 ({ b := c_10, i := c_11, h := c_12 } : L1Cur) 4).bind fun o16 =>
  (jn (QN (fun (y : (List Int) × Int × Int × Int × (List Atom) × (List Int)) => [(0, .v (.ptr true [(ssl eU y.1), (iT y.2.1), (iT y.2.2.1)])), (4, .v (.ptr true [(iT 0), (osl eAtom true ([])), (osl eI true ([]))])), (5, .v (.ptr true [(iT y.2.2.2.1), (osl eAtom true y.2.2.2.2.1), (osl eI true y.2.2.2.2.2)]))])) ((if o16.1 = true then
  (iter f129_0 (o16.2.b, o16.2.i, o16.2.h, q_13, q_14, q_15, 0)).bind fun (c_39, c_40, c_41, q_42, q_43, q_44) =>
  some (c_39, c_40, c_41, q_42, q_43, q_44)
  else
  some (o16.2.b, o16.2.i, o16.2.h, q_13, q_14, q_15)) : Option ((List Int) × Int × Int × Int × (List Atom) × (List Int)))).bind fun (c_45, c_46, c_47, q_48, q_49, q_50) =>
  some (({ VariableCount := q_48, Atoms := q_49, Free := q_50 } : Query), ({ b := c_45, i := c_46, h := c_47 } : L1Cur)) : Option (Query × L1Cur))) rfl (by exact go)
instance i171 {c : L1Cur} {l : (List Relation)} : Rn cx (f171 c l) 171 [(.ptr true [(ssl eU c.b), (iT c.i), (iT c.h)]), (ssl eRelation l)] (fun (r : Fact × L1Cur) => (.agg [(iT r.1.Relation), (osl eI true r.1.Values)])) (fun r => [(.ptr true [(ssl eU r.2.b), (iT r.2.i), (iT r.2.h)])]) := Rn.o (e := (
  sn 1 4 (.ptr true [(iT 0), (osl eI true ([]))]) <| 
  (f168 c l 4).bind fun o1 =>
  (f105 o1.2 10).bind fun o3 =>
  (jn (QN (fun (y : (List Int) × Int × Int × Int × (List Int)) => [(0, .v (.ptr true [(ssl eU y.1), (iT y.2.1), (iT y.2.2.1)])), (4, .v (.ptr true [(iT 0), (osl eI true ([]))])), (5, .v (.ptr true [(iT y.2.2.2.1), (osl eI true y.2.2.2.2)]))])) ((if o3.1 = 0 then
  (f105 o3.2 6).bind fun o8 =>
  some (o8.2.b, o8.2.i, o8.2.h, w64 (o8.1 - 1), o1.1.Values)
  else
  (jn (QN (fun (y : (List Int) × Int × Int × (List Int)) => [(0, .v (.ptr true [(ssl eU y.1), (iT y.2.1), (iT y.2.2.1)])), (4, .v (.ptr true [(iT 0), (osl eI true ([]))])), (5, .v (.ptr true [(iT o1.1.Relation), (osl eI true y.2.2.2)]))])) ((if o3.1 = 1 then
  (app 8 o1.1.Values ([1])).bind fun l_13 =>
  some (o3.2.b, o3.2.i, o3.2.h, l_13)
  else
  (jn (QN (fun (y : (List Int) × Int × Int × (List Int)) => [(0, .v (.ptr true [(ssl eU y.1), (iT y.2.1), (iT y.2.2.1)])), (4, .v (.ptr true [(iT 0), (osl eI true ([]))])), (5, .v (.ptr true [(iT o1.1.Relation), (osl eI true y.2.2.2)]))])) ((if o3.1 = 2 then
  sn 4 29 (osl eI true ([-1, 10, 9])) <| 
  sn 0 29 (ssl eI ([-1, 10, 9])) <| 
  (f166 o3.2 ([-1, 10, 9])).bind fun o18 =>
  (ix o1.1.Values 0).bind fun v_20 =>
  some (o18.2.b, o18.2.i, o18.2.h, (o1.1.Values.set (0 : Int).toNat o18.1))
  else
  some (o3.2.b, o3.2.i, o3.2.h, o1.1.Values)) : Option ((List Int) × Int × Int × (List Int)))).bind fun (c_23, c_24, c_25, f_26) =>
  some (c_23, c_24, c_25, f_26)) : Option ((List Int) × Int × Int × (List Int)))).bind fun (c_27, c_28, c_29, f_30) =>
  some (c_27, c_28, c_29, o1.1.Relation, f_30)) : Option ((List Int) × Int × Int × Int × (List Int)))).bind fun (c_31, c_32, c_33, f_34, f_35) =>
  some (({ Relation := f_34, Values := f_35 } : Fact), ({ b := c_31, i := c_32, h := c_33 } : L1Cur)) : Option (Fact × L1Cur))) rfl (by exact go)
instance i172 {c : L1Cur} : Rn cx (f172 c) 172 [(.ptr true [(ssl eU c.b), (iT c.i), (iT c.h)])] (fun (r : Relation × L1Cur) => (.agg [(.str r.1.Name), (iT r.1.Arity), (iT r.1.KeyLength)])) (fun r => [(.ptr true [(ssl eU r.2.b), (iT r.2.i), (iT r.2.h)])]) := Rn.o (e := (
  sn 3 4 (osl eS true ([[114], [122], [97], [], [82], [97, 98]])) <| 
  sn 0 4 (ssl eS ([[114], [122], [97], [], [82], [97, 98]])) <| 
  (f201 c ([[114], [122], [97], [], [82], [97, 98]])).bind fun o1 =>
  (f105 o1.2 6).bind fun o3 =>
  (f105 o3.2 5).bind fun o5 =>
  some (({ Name := o1.1, Arity := w64 (o3.1 - 1), KeyLength := w64 (o5.1 - 1) } : Relation), o5.2) : Option (Relation × L1Cur))) rfl (by exact go)
theorem r130 {c : L1Cur} {r : Database × L1Cur} (h : f130 c = some r) : VJx cx (.ca 130 [(.ptr true [(ssl eU c.b), (iT c.i), (iT c.h)])] (.agg [(ssl eRelation r.1.Relations), (osl eFact false r.1.Facts)]) [(.ptr true [(ssl eU r.2.b), (iT r.2.i), (iT r.2.h)])]) := by
 unfold f130 at h
 refine ca_of rfl rfl (by decide) rfl ?_
 refine Wc.postG ?_
 refine Wc.start (V1 := [(0, .v (.ptr true [(ssl eU c.b), (iT c.i), (iT c.h)]))]) (by simp) ?_
 refine Wc.seq ?_
 refine Wc.evs (by conv => lhs; simp [-aI_app0, -aB_app0, -aS_app0, -aL_app0, -aI_app10, -aB_app10, -aS_app10, -aLt_app10I, -aLf_app10I, -aLt_app1I, -aLf_app1I]) ?_
 refine Wo.gh (vle_co (s := 2) (t1 := (.ptr true [(osl eRelation true ([])), (osl eFact true ([]))])) rfl (by simp) (TLe.ptr (TLes.cons (TLe.nil rfl (by decide)) (TLes.cons (TLe.nil rfl (by decide)) (TLes.refl _)))) (by conv => lhs; simp)) ?_
 refine Wo.nil ?_
 refine Wc.seq ?_
 refine Wc.evs (by conv => lhs; simp [-aI_app0, -aB_app0, -aS_app0, -aL_app0, -aI_app10, -aB_app10, -aS_app10, -aLt_app10I, -aLf_app10I, -aLt_app1I, -aLf_app1I]) ?_
 obtain ⟨o1, h2, h⟩ := bind_some h
 refine Wo.call rfl rfl (by (conv => lhs; simp [-aI_app0, -aB_app0, -aS_app0, -aL_app0, -aI_app10, -aB_app10, -aS_app10, -aLt_app10I, -aLf_app10I, -aLt_app1I, -aLf_app1I, cx, ioTab]) <;> rfl) (run_ h2) (by simp) (by simp) (by (conv => lhs; simp [-aI_app0, -aB_app0, -aS_app0, -aL_app0, -aI_app10, -aB_app10, -aS_app10, -aLt_app10I, -aLf_app10I, -aLt_app1I, -aLf_app1I, cx, ioTab]) <;> rfl) (by (conv => lhs; simp [-aI_app0, -aB_app0, -aS_app0, -aL_app0, -aI_app10, -aB_app10, -aS_app10, -aLt_app10I, -aLf_app10I, -aLt_app1I, -aLf_app1I]) <;> rfl) ?_
 refine Wo.evs (by conv => lhs; simp [-aI_app0, -aB_app0, -aS_app0, -aL_app0, -aI_app10, -aB_app10, -aS_app10, -aLt_app10I, -aLf_app10I, -aLt_app1I, -aLf_app1I]) ?_
 refine Wo.nil ?_
 refine Wc.seq ?_
 refine Wc.seq ?_
 refine Wc.evs (by conv => lhs; simp [-aI_app0, -aB_app0, -aS_app0, -aL_app0, -aI_app10, -aB_app10, -aS_app10, -aLt_app10I, -aLf_app10I, -aLt_app1I, -aLf_app1I]) ?_
 obtain ⟨o3, h4, h⟩ := bind_some h
 refine Wo.call rfl rfl (by (conv => lhs; simp [-aI_app0, -aB_app0, -aS_app0, -aL_app0, -aI_app10, -aB_app10, -aS_app10, -aLt_app10I, -aLf_app10I, -aLt_app1I, -aLf_app1I, cx, ioTab]) <;> rfl) (run_ h4) (by simp) (by simp) (by (conv => lhs; simp [-aI_app0, -aB_app0, -aS_app0, -aL_app0, -aI_app10, -aB_app10, -aS_app10, -aLt_app10I, -aLf_app10I, -aLt_app1I, -aLf_app1I, cx, ioTab]) <;> rfl) (by (conv => lhs; simp [-aI_app0, -aB_app0, -aS_app0, -aL_app0, -aI_app10, -aB_app10, -aS_app10, -aLt_app10I, -aLf_app10I, -aLt_app1I, -aLf_app1I]) <;> rfl) ?_
 refine Wo.nil ?_
 refine Wc.block ?_
 refine Wc.seq ?_
 refine Wc.evs (by conv => lhs; simp [-aI_app0, -aB_app0, -aS_app0, -aL_app0, -aI_app10, -aB_app10, -aS_app10, -aLt_app10I, -aLf_app10I, -aLt_app1I, -aLf_app1I]) ?_
 refine Wo.nil ?_
 obtain ⟨w5, h6, h⟩ := bind_some h
 refine Wc.monoG (Q := (QN (fun (y : (List Int) × Int × Int × (List Relation) × (List Fact)) => [(0, .v (.ptr true [(ssl eU y.1), (iT y.2.1), (iT y.2.2.1)])), (2, .v (.ptr true [(osl eRelation true ([])), (osl eFact true ([]))])), (3, .v (.ptr true [(ssl eRelation y.2.2.2.1), (osl eFact false y.2.2.2.2)]))])) w5) ?_ ?_
 ·skip
  by_cases kc7 : o3.1 = 0
  ·rw [if_pos kc7] at h6
   refine Wc.condT' (t := _) (by conv => lhs; simp) (by simpa using kc7) ?_
   refine Wc.seq ?_
   refine Wc.kil (by conv => lhs; simp) ?_
   refine Wc.reg ?_
   refine Wo.gh (vle_pf (s := 3) (t1 := (.ptr true [(ssl eRelation o1.1.Relations), (osl eFact false o1.1.Facts)])) rfl (by simp) (PF.ptr (PFs.cons (PF.frze (by simp)) (PFs.cons (PF.refl _) PFs.nil))) (by conv => lhs; simp)) ?_
   refine Wo.evs (by conv => lhs; simp [-aI_app0, -aB_app0, -aS_app0, -aL_app0, -aI_app10, -aB_app10, -aS_app10, -aLt_app10I, -aLf_app10I, -aLt_app1I, -aLf_app1I]) ?_
   obtain ⟨o8, h9, h6⟩ := bind_some h6
   refine Wo.call (by simp) rfl (by (conv => lhs; simp [-aI_app0, -aB_app0, -aS_app0, -aL_app0, -aI_app10, -aB_app10, -aS_app10, -aLt_app10I, -aLf_app10I, -aLt_app1I, -aLf_app1I, cx, ioTab]) <;> rfl) (run_ h9) (by simp) (by simp) (by (conv => lhs; simp [-aI_app0, -aB_app0, -aS_app0, -aL_app0, -aI_app10, -aB_app10, -aS_app10, -aLt_app10I, -aLf_app10I, -aLt_app1I, -aLf_app1I, cx, ioTab]) <;> rfl) (by (conv => lhs; simp [-aI_app0, -aB_app0, -aS_app0, -aL_app0, -aI_app10, -aB_app10, -aS_app10, -aLt_app10I, -aLf_app10I, -aLt_app1I, -aLf_app1I]) <;> rfl) ?_
   refine Wo.evk 1 (by conv => lhs; simp [-aI_app0, -aB_app0, -aS_app0, -aL_app0, -aI_app10, -aB_app10, -aS_app10, -aLt_app10I, -aLf_app10I, -aLt_app1I, -aLf_app1I]) ?_
   refine Wo.gh (vle_co (s := 16) (t1 := (osl eFact true ([o8.1]))) rfl (by simp) (TLe.own (show TLes _ [(iT o8.1.Relation), (osl eI true o8.1.Values)] from (TLes.cons (TLe.refl _) (TLes.cons (TLe.refl _) (TLes.refl _)))) rfl) (by conv => lhs; simp)) ?_
   refine Wo.gh (vle_fz (s := 16) rfl (by simp) (by conv => lhs; simp)) ?_
   obtain ⟨l_10, h11, h6⟩ := bind_some h6
   have gx11 := appT_arr (E := eFact) (b := false) (y := true) h11 (by decide)
   simp [-aI_app0, -aB_app0, -aS_app0, -aL_app0, -aLt_app1I, -aLf_app1I, -aLt_app10I, -aLf_app10I] at gx11
   refine Wo.evs (by conv => lhs; simp [-aI_app0, -aB_app0, -aS_app0, -aL_app0, -aI_app10, -aB_app10, -aS_app10, -aLt_app10I, -aLf_app10I, -aLt_app1I, -aLf_app1I, gx11, h11]) ?_
   refine Wo.nil ?_
   cases h6
   exact ⟨_, (VLe.refl _), rfl, by first | rfl | simp [-aI_app0, -aB_app0, -aS_app0, -aL_app0, -aI_app10, -aB_app10, -aS_app10, -aLt_app10I, -aLf_app10I, -aLt_app1I, -aLf_app1I, gx11, h11]⟩
  ·rw [if_neg kc7] at h6
   refine Wc.condF' (t := _) (by conv => lhs; simp) (by simpa using kc7) ?_
   refine Wc.seq ?_
   refine Wc.kil (by conv => lhs; simp) ?_
   refine Wc.seq ?_
   refine Wc.evs (by conv => lhs; simp [-aI_app0, -aB_app0, -aS_app0, -aL_app0, -aI_app10, -aB_app10, -aS_app10, -aLt_app10I, -aLf_app10I, -aLt_app1I, -aLf_app1I]) ?_
   refine Wo.nil ?_
   obtain ⟨w12, h13, h6⟩ := bind_some h6
   refine Wc.monoG (Q := (QN (fun (y : (List Int) × Int × Int × (List Relation) × (List Fact)) => [(0, .v (.ptr true [(ssl eU y.1), (iT y.2.1), (iT y.2.2.1)])), (2, .v (.ptr true [(osl eRelation true ([])), (osl eFact true ([]))])), (3, .v (.ptr true [(ssl eRelation y.2.2.2.1), (osl eFact false y.2.2.2.2)]))])) w12) ?_ ?_
   ·skip
    by_cases kc14 : o3.1 = 1
    ·rw [if_pos kc14] at h13
     refine Wc.condT' (t := _) (by conv => lhs; simp) (by simpa using kc14) ?_
     refine Wc.seq ?_
     refine Wc.kil (by conv => lhs; simp) ?_
     refine Wc.reg ?_
     refine Wo.gh (vle_pf (s := 3) (t1 := (.ptr true [(ssl eRelation o1.1.Relations), (osl eFact false o1.1.Facts)])) rfl (by simp) (PF.ptr (PFs.cons (PF.frze (by simp)) (PFs.cons (PF.refl _) PFs.nil))) (by conv => lhs; simp)) ?_
     refine Wo.evs (by conv => lhs; simp [-aI_app0, -aB_app0, -aS_app0, -aL_app0, -aI_app10, -aB_app10, -aS_app10, -aLt_app10I, -aLf_app10I, -aLt_app1I, -aLf_app1I]) ?_
     obtain ⟨o15, h16, h13⟩ := bind_some h13
     refine Wo.call (by simp) rfl (by (conv => lhs; simp [-aI_app0, -aB_app0, -aS_app0, -aL_app0, -aI_app10, -aB_app10, -aS_app10, -aLt_app10I, -aLf_app10I, -aLt_app1I, -aLf_app1I, cx, ioTab]) <;> rfl) (run_ h16) (by simp) (by simp) (by (conv => lhs; simp [-aI_app0, -aB_app0, -aS_app0, -aL_app0, -aI_app10, -aB_app10, -aS_app10, -aLt_app10I, -aLf_app10I, -aLt_app1I, -aLf_app1I, cx, ioTab]) <;> rfl) (by (conv => lhs; simp [-aI_app0, -aB_app0, -aS_app0, -aL_app0, -aI_app10, -aB_app10, -aS_app10, -aLt_app10I, -aLf_app10I, -aLt_app1I, -aLf_app1I]) <;> rfl) ?_
     obtain ⟨l_17, h18, h13⟩ := bind_some h13
     obtain ⟨ga18, gb18, gc18, ge18⟩ := cut_some h18
     simp at ge18
     have gz18 := cut_arr (E := eRelation) (b := false) h18
     simp [-aI_app0, -aB_app0, -aS_app0, -aL_app0, -aLt_app1I, -aLf_app1I, -aLt_app10I, -aLf_app10I] at gz18
     refine Wo.evs (by conv => lhs; simp [-aI_app0, -aB_app0, -aS_app0, -aL_app0, -aI_app10, -aB_app10, -aS_app10, -aLt_app10I, -aLf_app10I, -aLt_app1I, -aLf_app1I, ga18, gb18, gc18, ge18, gz18]) ?_
     refine Wo.nil ?_
     cases h13
     exact ⟨_, (VLe.refl _), rfl, by first | rfl | simp [-aI_app0, -aB_app0, -aS_app0, -aL_app0, -aI_app10, -aB_app10, -aS_app10, -aLt_app10I, -aLf_app10I, -aLt_app1I, -aLf_app1I, ga18, gb18, gc18, ge18, gz18]⟩
    ·rw [if_neg kc14] at h13
     refine Wc.condF' (t := _) (by conv => lhs; simp) (by simpa using kc14) ?_
     refine Wc.seq ?_
     refine Wc.kil (by conv => lhs; simp) ?_
     refine Wc.seq ?_
     refine Wc.evs (by conv => lhs; simp [-aI_app0, -aB_app0, -aS_app0, -aL_app0, -aI_app10, -aB_app10, -aS_app10, -aLt_app10I, -aLf_app10I, -aLt_app1I, -aLf_app1I]) ?_
     refine Wo.nil ?_
     obtain ⟨w19, h20, h13⟩ := bind_some h13
     refine Wc.monoG (Q := (QN (fun (y : (List Int) × Int × Int × (List Relation)) => [(0, .v (.ptr true [(ssl eU y.1), (iT y.2.1), (iT y.2.2.1)])), (2, .v (.ptr true [(osl eRelation true ([])), (osl eFact true ([]))])), (3, .v (.ptr true [(osl eRelation true y.2.2.2), (osl eFact false o1.1.Facts)]))])) w19) ?_ ?_
     ·skip
      by_cases kc21 : o3.1 = 2
      ·rw [if_pos kc21] at h20
       refine Wc.condT' (t := _) (by conv => lhs; simp) (by simpa using kc21) ?_
       refine Wc.seq ?_
       refine Wc.kil (by conv => lhs; simp) ?_
       refine Wc.evs (by conv => lhs; simp [-aI_app0, -aB_app0, -aS_app0, -aL_app0, -aI_app10, -aB_app10, -aS_app10, -aLt_app10I, -aLf_app10I, -aLt_app1I, -aLf_app1I]) ?_
       obtain ⟨o22, h23, h20⟩ := bind_some h20
       refine Wo.ra (q := 33) (r := 0) (by conv => lhs; simp) (by rfl) (by decide) ?_
       refine Wo.call (by simp) rfl (by (conv => lhs; simp [-aI_app0, -aB_app0, -aS_app0, -aL_app0, -aI_app10, -aB_app10, -aS_app10, -aLt_app10I, -aLf_app10I, -aLt_app1I, -aLf_app1I, cx, ioTab]) <;> rfl) (run_ h23) (by simp) (by simp) (by (conv => lhs; simp [-aI_app0, -aB_app0, -aS_app0, -aL_app0, -aI_app10, -aB_app10, -aS_app10, -aLt_app10I, -aLf_app10I, -aLt_app1I, -aLf_app1I, cx, ioTab]) <;> rfl) (by (conv => lhs; simp [-aI_app0, -aB_app0, -aS_app0, -aL_app0, -aI_app10, -aB_app10, -aS_app10, -aLt_app10I, -aLf_app10I, -aLt_app1I, -aLf_app1I]) <;> rfl) ?_
       refine Wo.nil ⟨_, by conv => lhs; simp [-aI_app0, -aB_app0, -aS_app0, -aL_app0, -aI_app10, -aB_app10, -aS_app10, -aLt_app10I, -aLf_app10I, -aLt_app1I, -aLf_app1I], ?_⟩
       refine Wo.st (by conv => lhs; simp [-aI_app0, -aB_app0, -aS_app0, -aL_app0, -aI_app10, -aB_app10, -aS_app10, -aLt_app10I, -aLf_app10I, -aLt_app1I, -aLf_app1I]) ?_
       obtain ⟨o24, h25, h20⟩ := bind_some h20
       refine Wo.call (by simp) rfl (by (conv => lhs; simp [-aI_app0, -aB_app0, -aS_app0, -aL_app0, -aI_app10, -aB_app10, -aS_app10, -aLt_app10I, -aLf_app10I, -aLt_app1I, -aLf_app1I, cx, ioTab]) <;> rfl) (run_ h25) (by simp) (by simp) (by (conv => lhs; simp [-aI_app0, -aB_app0, -aS_app0, -aL_app0, -aI_app10, -aB_app10, -aS_app10, -aLt_app10I, -aLf_app10I, -aLt_app1I, -aLf_app1I, cx, ioTab]) <;> rfl) (by (conv => lhs; simp [-aI_app0, -aB_app0, -aS_app0, -aL_app0, -aI_app10, -aB_app10, -aS_app10, -aLt_app10I, -aLf_app10I, -aLt_app1I, -aLf_app1I]) <;> rfl) ?_
       obtain ⟨v_26, h27, h20⟩ := bind_some h20
       obtain ⟨ga27, gb27, gc27⟩ := ix_some h27
       have gn27 := ix_ne h27
       have gf27 := arr_fit (E := eRelation) (b := true) (i := o22.1.toNat) (l := o1.1.Relations) (by omega)
       have gg27_0 := arr_get (E := eRelation) (b := true) (o := 0) gc27 (by decide)
       have gg27_1 := arr_get (E := eRelation) (b := true) (o := 1) gc27 (by decide)
       have gg27_2 := arr_get (E := eRelation) (b := true) (o := 2) gc27 (by decide)
       have gd27 := arr_at (E := eRelation) (b := true) gc27
       simp at gf27 gg27_0 gg27_1 gg27_2 gd27
       have gl27 : o22.1.toNat < o1.1.Relations.length := by omega
       have gy28 := lay_set (E := eRelation) (b := true) (i := o22.1.toNat) (l := o1.1.Relations) o24.1 (by omega)
       simp at gy28
       refine Wo.evs (by conv => lhs; simp [-aI_app0, -aB_app0, -aS_app0, -aL_app0, -aI_app10, -aB_app10, -aS_app10, -aLt_app10I, -aLf_app10I, -aLt_app1I, -aLf_app1I, -getElem?_pos, List.getElem?_cons_zero, List.getElem?_cons_succ, ga27, gb27, gn27, gf27, gg27_0, gg27_1, gg27_2, gd27, gl27, gy28]) ?_
       refine Wo.nil ?_
       cases h20
       exact ⟨_, (VLe.refl _), rfl, by first | rfl | simp [-aI_app0, -aB_app0, -aS_app0, -aL_app0, -aI_app10, -aB_app10, -aS_app10, -aLt_app10I, -aLf_app10I, -aLt_app1I, -aLf_app1I, -getElem?_pos, List.getElem?_cons_zero, List.getElem?_cons_succ, ga27, gb27, gn27, gf27, gg27_0, gg27_1, gg27_2, gd27, gl27, gy28]⟩
      ·rw [if_neg kc21] at h20
       refine Wc.condF' (t := _) (by conv => lhs; simp) (by simpa using kc21) ?_
       refine Wc.seq ?_
       refine Wc.kil (by conv => lhs; simp) ?_
       refine Wc.skip ?_
       cases h20
       exact ⟨_, (VLe.refl _), rfl, by first | rfl | simp [-aI_app0, -aB_app0, -aS_app0, -aL_app0, -aI_app10, -aB_app10, -aS_app10, -aLt_app10I, -aLf_app10I, -aLt_app1I, -aLf_app1I]⟩
     ·skip
      obtain ⟨c_29, c_30, c_31, d_32⟩ := w19
      rintro ex V ⟨rfl, rfl⟩
      dsimp only at h13 ⊢
      cases h13
      exact ⟨_, (vle_of (vle_pf (s := 3) (t1 := (.ptr true [(ssl eRelation d_32), (osl eFact false o1.1.Facts)])) rfl (by simp) (PF.ptr (PFs.cons (PF.frze (by simp)) (PFs.cons (PF.refl _) PFs.nil))) (by conv => lhs; simp)) (VLe.refl _)), rfl, by first | rfl | simp [-aI_app0, -aB_app0, -aS_app0, -aL_app0, -aI_app10, -aB_app10, -aS_app10, -aLt_app10I, -aLf_app10I, -aLt_app1I, -aLf_app1I]⟩
   ·skip
    obtain ⟨c_33, c_34, c_35, d_36, d_37⟩ := w12
    rintro ex V ⟨rfl, rfl⟩
    dsimp only at h6 ⊢
    cases h6
    exact ⟨_, (VLe.refl _), rfl, by first | rfl | simp [-aI_app0, -aB_app0, -aS_app0, -aL_app0, -aI_app10, -aB_app10, -aS_app10, -aLt_app10I, -aLf_app10I, -aLt_app1I, -aLf_app1I]⟩
 ·skip
  obtain ⟨c_38, c_39, c_40, d_41, d_42⟩ := w5
  rintro ex V ⟨rfl, rfl⟩
  dsimp only at h ⊢
  refine Wc.seq ?_
  refine Wc.evs (by conv => lhs; simp [-aI_app0, -aB_app0, -aS_app0, -aL_app0, -aI_app10, -aB_app10, -aS_app10, -aLt_app10I, -aLf_app10I, -aLt_app1I, -aLf_app1I]) ?_
  refine Wo.nil ?_
  refine Wc.ret ⟨_, (VLe.refl _), res_of (.inr rfl) ?_⟩
  cases h
  exact ⟨_, _, _, by conv => lhs; simp, by (conv => lhs; simp [cx, ioTab, List.range, List.range.loop]) <;> rfl, by first | rfl | simp [-aI_app0, -aB_app0, -aS_app0, -aL_app0, -aI_app10, -aB_app10, -aS_app10, -aLt_app10I, -aLf_app10I, -aLt_app1I, -aLf_app1I]⟩
instance i130 {c : L1Cur} : Rn cx (f130 c) 130 [(.ptr true [(ssl eU c.b), (iT c.i), (iT c.h)])] (fun (r : Database × L1Cur) => (.agg [(ssl eRelation r.1.Relations), (osl eFact false r.1.Facts)])) (fun r => [(.ptr true [(ssl eU r.2.b), (iT r.2.i), (iT r.2.h)])]) := ⟨fun _ h => r130 h⟩
instance i131 {c : L1Cur} {l : (List Relation)} : Rn cx (f131 c l) 131 [(.ptr true [(ssl eU c.b), (iT c.i), (iT c.h)]), (ssl eRelation l)] (fun (r : Query × L1Cur) => (.agg [(iT r.1.VariableCount), (osl eAtom true r.1.Atoms), (osl eI true r.1.Free)])) (fun r => [(.ptr true [(ssl eU r.2.b), (iT r.2.i), (iT r.2.h)])]) := Rn.o (e := (
  sn 1 4 (.ptr true [(iT 0), (osl eAtom true ([])), (osl eI true ([]))]) <| 
  (f129 c l).bind fun o1 =>
  (f105 o1.2 14).bind fun o3 =>
  (jn (QN (fun (y : (List Int) × Int × Int × Int × (List Atom) × (List Int)) => [(0, .v (.ptr true [(ssl eU y.1), (iT y.2.1), (iT y.2.2.1)])), (4, .v (.ptr true [(iT 0), (osl eAtom true ([])), (osl eI true ([]))])), (5, .v (.ptr true [(iT y.2.2.2.1), (osl eAtom true y.2.2.2.2.1), (osl eI true y.2.2.2.2.2)]))])) ((if o3.1 = 0 then
  sn 5 17 (osl eI true ([-1, w64 (o1.1.VariableCount + 1), 5])) <| 
  sn 0 17 (ssl eI ([-1, w64 (o1.1.VariableCount + 1), 5])) <| 
  (f166 o3.2 ([-1, w64 (o1.1.VariableCount + 1), 5])).bind fun o8 =>
  some (o8.2.b, o8.2.i, o8.2.h, o8.1, o1.1.Atoms, o1.1.Free)
  else
  (jn (QN (fun (y : (List Int) × Int × Int × (List Atom) × (List Int)) => [(0, .v (.ptr true [(ssl eU y.1), (iT y.2.1), (iT y.2.2.1)])), (4, .v (.ptr true [(iT 0), (osl eAtom true ([])), (osl eI true ([]))])), (5, .v (.ptr true [(iT o1.1.VariableCount), (osl eAtom true y.2.2.2.1), (osl eI true y.2.2.2.2)]))])) ((if o3.1 = 1 then
  sn 4 27 (osl eI true ([0, 0])) <| 
  (f105 o3.2 6).bind fun o13 =>
  (app 32 o1.1.Atoms ([({ Relation := w64 (o13.1 - 1), Terms := [0, 0] } : Atom)])).bind fun l_15 =>
  some (o13.2.b, o13.2.i, o13.2.h, l_15, o1.1.Free)
  else
  (jn (QN (fun (y : (List Int) × Int × Int × (List Atom) × (List Int)) => [(0, .v (.ptr true [(ssl eU y.1), (iT y.2.1), (iT y.2.2.1)])), (4, .v (.ptr true [(iT 0), (osl eAtom true ([])), (osl eI true ([]))])), (5, .v (.ptr true [(iT o1.1.VariableCount), (osl eAtom true y.2.2.2.1), (osl eI true y.2.2.2.2)]))])) ((if o3.1 = 2 then
  (ix o1.1.Atoms 0).bind fun v_20 =>
  sn 7 40 (osl eI true ([-11, 4, 3])) <| 
  sn 0 40 (ssl eI ([-11, 4, 3])) <| 
  (f166 o3.2 ([-11, 4, 3])).bind fun o22 =>
  (ix v_20.Terms 0).bind fun v_24 =>
  some (o22.2.b, o22.2.i, o22.2.h, (o1.1.Atoms.set (0 : Int).toNat ({ Relation := v_20.Relation, Terms := (v_20.Terms.set (0 : Int).toNat o22.1) } : Atom)), o1.1.Free)
  else
  (jn (QN (fun (y : (List Int) × Int × Int × (List Int)) => [(0, .v (.ptr true [(ssl eU y.1), (iT y.2.1), (iT y.2.2.1)])), (4, .v (.ptr true [(iT 0), (osl eAtom true ([])), (osl eI true ([]))])), (5, .v (.ptr true [(iT o1.1.VariableCount), (osl eAtom true o1.1.Atoms), (osl eI true y.2.2.2)]))])) ((if o3.1 = 3 then
  (f105 o3.2 5).bind fun o31 =>
  (app 8 o1.1.Free ([o31.1])).bind fun l_33 =>
  some (o31.2.b, o31.2.i, o31.2.h, l_33)
  else
  some (o3.2.b, o3.2.i, o3.2.h, o1.1.Free)) : Option ((List Int) × Int × Int × (List Int)))).bind fun (c_35, c_36, c_37, q_38) =>
  some (c_35, c_36, c_37, o1.1.Atoms, q_38)) : Option ((List Int) × Int × Int × (List Atom) × (List Int)))).bind fun (c_39, c_40, c_41, q_42, q_43) =>
  some (c_39, c_40, c_41, q_42, q_43)) : Option ((List Int) × Int × Int × (List Atom) × (List Int)))).bind fun (c_44, c_45, c_46, q_47, q_48) =>
  some (c_44, c_45, c_46, o1.1.VariableCount, q_47, q_48)) : Option ((List Int) × Int × Int × Int × (List Atom) × (List Int)))).bind fun (c_49, c_50, c_51, q_52, q_53, q_54) =>
  some (({ VariableCount := q_52, Atoms := q_53, Free := q_54 } : Query), ({ b := c_49, i := c_50, h := c_51 } : L1Cur)) : Option (Query × L1Cur))) rfl (by exact go)
instance i83 {code : (List Int)} : Rn cx (f83 code) 83 [(ssl eU code)] (fun (r : L1Cur × Database × Query) => (.tup [(.ptr true [(ssl eU r.1.b), (iT r.1.i), (iT r.1.h)]), (.agg [(ssl eRelation r.2.1.Relations), (osl eFact false r.2.1.Facts)]), (.agg [(iT r.2.2.VariableCount), (osl eAtom true r.2.2.Atoms), (osl eI true r.2.2.Free)])])) (fun r => []) := Rn.o (e := (
  sn 3 3 (.ptr true [(osl eRelation true ([])), (osl eFact true ([]))]) <| 
  sn 0 4 (.ptr true [(iT 0), (osl eAtom true ([])), (osl eI true ([]))]) <| 
  (f127 code).bind fun o1 =>
  (f128 o1).bind fun o3 =>
  sn 3 6 (.ptr true [(ssl eRelation o3.1.Relations), (osl eFact false o3.1.Facts)]) <| 
  (f129 o3.2 o3.1.Relations).bind fun o5 =>
  (f105 o5.2 20).bind fun o7 =>
  (jn (QN (fun (y : (List Int) × Int × Int × (List Relation) × (List Fact) × Int × (List Atom) × (List Int)) => [(3, .v (.ptr true [(osl eRelation true ([])), (osl eFact true ([]))])), (4, .v (.ptr true [(iT 0), (osl eAtom true ([])), (osl eI true ([]))])), (5, .v (.ptr true [(ssl eU y.1), (iT y.2.1), (iT y.2.2.1)])), (6, .v (.ptr true [(ssl eRelation y.2.2.2.1), (osl eFact false y.2.2.2.2.1)])), (7, .v (.ptr true [(iT y.2.2.2.2.2.1), (osl eAtom true y.2.2.2.2.2.2.1), (osl eI true y.2.2.2.2.2.2.2)]))])) ((if o7.1 = 0 then
  (f130 o7.2).bind fun o12 =>
  some (o12.2.b, o12.2.i, o12.2.h, o12.1.Relations, o12.1.Facts, o5.1.VariableCount, o5.1.Atoms, o5.1.Free)
  else
  (jn (QN (fun (y : (List Int) × Int × Int × Int × (List Atom) × (List Int)) => [(3, .v (.ptr true [(osl eRelation true ([])), (osl eFact true ([]))])), (4, .v (.ptr true [(iT 0), (osl eAtom true ([])), (osl eI true ([]))])), (5, .v (.ptr true [(ssl eU y.1), (iT y.2.1), (iT y.2.2.1)])), (6, .v (.ptr true [(ssl eRelation o3.1.Relations), (osl eFact false o3.1.Facts)])), (7, .v (.ptr true [(iT y.2.2.2.1), (osl eAtom true y.2.2.2.2.1), (osl eI true y.2.2.2.2.2)]))])) ((if o7.1 = 1 then
  (f131 o7.2 o3.1.Relations).bind fun o17 =>
  some (o17.2.b, o17.2.i, o17.2.h, o17.1.VariableCount, o17.1.Atoms, o17.1.Free)
  else
  some (o7.2.b, o7.2.i, o7.2.h, o5.1.VariableCount, o5.1.Atoms, o5.1.Free)) : Option ((List Int) × Int × Int × Int × (List Atom) × (List Int)))).bind fun (c_19, c_20, c_21, q_22, q_23, q_24) =>
  some (c_19, c_20, c_21, o3.1.Relations, o3.1.Facts, q_22, q_23, q_24)) : Option ((List Int) × Int × Int × (List Relation) × (List Fact) × Int × (List Atom) × (List Int)))).bind fun (c_25, c_26, c_27, d_28, d_29, q_30, q_31, q_32) =>
  some (({ b := c_25, i := c_26, h := c_27 } : L1Cur), ({ Relations := d_28, Facts := d_29 } : Database), ({ VariableCount := q_30, Atoms := q_31, Free := q_32 } : Query)) : Option (L1Cur × Database × Query))) rfl (by exact go)
instance : Io0 cx 83 := ⟨rfl⟩
instance i35 {code : (List Int)} : Rn cx (f35 code) 35 [(ssl eU code)] (fun (r : Database × Query) => (.tup [(.agg [(ssl eRelation r.1.Relations), (ssl eFact r.1.Facts)]), (.agg [(iT r.2.VariableCount), (osl eAtom true r.2.Atoms), (osl eI true r.2.Free)])])) (fun r => []) := Rn.o (e := (
  sn 2 2 (.ptr true [(osl eRelation true ([])), (osl eFact true ([]))]) <| 
  sn 0 3 (.ptr true [(iT 0), (osl eAtom true ([])), (osl eI true ([]))]) <| 
  (f83 code).bind fun o1 =>
  some (o1.2.1, o1.2.2) : Option (Database × Query))) rfl (by exact go)
instance : Io0 cx 35 := ⟨rfl⟩
instance i8 {code : (List Int)} : Rn cx (f8 code) 8 [(ssl eU code)] (fun (r : Database × Query) => (.tup [(.agg [(ssl eRelation r.1.Relations), (ssl eFact r.1.Facts)]), (.agg [(iT r.2.VariableCount), (osl eAtom true r.2.Atoms), (osl eI true r.2.Free)])])) (fun r => []) := Rn.o (e := (
  sn 2 2 (.ptr true [(osl eRelation true ([])), (osl eFact true ([]))]) <| 
  sn 0 3 (.ptr true [(iT 0), (osl eAtom true ([])), (osl eI true ([]))]) <| 
  (f35 code).bind fun o1 =>
  some (o1.1, o1.2) : Option (Database × Query))) rfl (by exact go)
instance : Io0 cx 8 := ⟨rfl⟩
instance i9 {q : Query} : Rn cx (f9 q) 9 [(.agg [(iT q.VariableCount), (ssl eAtom q.Atoms), (ssl eI q.Free)])] (fun (r : Query) => (.agg [(iT r.VariableCount), (ssl eAtom r.Atoms), (ssl eI r.Free)])) (fun r => []) := Rn.o (e := (
  sn 2 2 (.ptr true [(iT 0), (osl eAtom true ([])), (osl eI true ([]))]) <| 
  sn 3 4 (.agg [(iT q.VariableCount), (ssl eAtom q.Atoms), (osl eI true ([]))]) <| 
  some ({ VariableCount := q.VariableCount, Atoms := q.Atoms, Free := [] } : Query) : Option Query)) rfl (by exact go)
instance : Io0 cx 9 := ⟨rfl⟩
instance i59 {n0 : Int} {low : Int} {high : Int} : Rn cx (f59 n0 low high) 59 [(iT n0), (iT low), (iT high)] (fun (r : Bool) => (.bool r)) (fun r => []) := Rn.o (e := (
  (jn (QN (fun (y : Bool) => [(6, .v (.bool y))])) ((if low ≤ n0 then
  some (decide (n0 ≤ high))
  else
  some false) : Option (Bool))).bind fun x_1 =>
  some x_1 : Option Bool)) rfl (by exact go)
instance : Io0 cx 59 := ⟨rfl⟩
instance i173 {relation : Relation} : Rn cx (f173 relation) 173 [(.agg [(.str relation.Name), (iT relation.Arity), (iT relation.KeyLength)])] (fun (r : Bool) => (.bool r)) (fun r => []) := Rn.o (e := (
  (jn (QN (fun (y : Bool) => [(2, .v (.bool y))])) ((if (relation.Name.length : Int) = 1 then
  (ix relation.Name 0).bind fun c_4 =>
  (jn (QN (fun (y : Bool) => [(2, .v (.bool y))])) ((if (c_4.toNat : Int) ≥ 97 then
  (jn (QN (fun (y : Bool) => [(2, .v (.bool y))])) ((if (c_4.toNat : Int) ≤ 122 then
  (f59 relation.Arity 1 3).bind fun o12 =>
  (jn (QN (fun (y : Bool) => [(2, .v (.bool y))])) ((if o12 = true then
  (f59 relation.KeyLength 0 relation.Arity).bind fun o17 =>
  some o17
  else
  some false) : Option (Bool))).bind fun x_14 =>
  some x_14
  else
  some false) : Option (Bool))).bind fun x_9 =>
  some x_9
  else
  some false) : Option (Bool))).bind fun x_6 =>
  some x_6
  else
  some false) : Option (Bool))).bind fun x_1 =>
  some x_1 : Option Bool)) rfl (by exact go)
instance : Io0 cx 173 := ⟨rfl⟩
instance i132_0 {relations : (List Relation)} : Lp cx (f132_0 relations) 34 L132_0 (fun (zs : Int) => [(0, .v (ssl eRelation relations)), (5, .v (ssl eRelation relations)), (6, .v (iT (relations.length : Int))), (7, .v (iT zs))]) (QO (QX 0 (fun (y : Unit) => [(0, .v (ssl eRelation relations))])) (QR (fun (y : Bool) => [(2, .v (.bool y))]))) := Lp.of (f := (fun
 | x_1 =>
  if x_1 < (relations.length : Int) then
  (ix relations x_1).bind fun v_3 =>
  (f173 v_3).bind fun o5 =>
  (jn (QN (fun (y : Bool) => [(0, .v (ssl eRelation relations)), (5, .v (ssl eRelation relations)), (6, .v (iT (relations.length : Int))), (7, .v (iT x_1)), (29, .v (.bool y))])) ((if ¬ (o5 = true) then
  some true
  else
  (jn (QN (fun (y : Bool) => [(0, .v (ssl eRelation relations)), (5, .v (ssl eRelation relations)), (6, .v (iT (relations.length : Int))), (7, .v (iT x_1)), (29, .v (.bool y))])) ((if x_1 > 0 then
  (ix relations (w64 (x_1 - 1))).bind fun v_13 =>
  some (!(Op.bytesLess v_13.Name v_3.Name))
  else
  some false) : Option (Bool))).bind fun x_10 =>
  some x_10) : Option (Bool))).bind fun x_7 =>
  if x_7 = true then
  some (.inr (.inr false))
  else
  some (.inl (w64 (x_1 + 1)))
  else
  some (.inr (.inl ())) : Int → Option (Int ⊕ (Unit ⊕ Bool)))) (by exact go)
instance i132 {relations : (List Relation)} : Rn cx (f132 relations) 132 [(ssl eRelation relations)] (fun (r : Bool) => (.bool r)) (fun r => []) := Rn.o rfl (by unfold f132; exact go)
instance : Io0 cx 132 := ⟨rfl⟩
end
end Go.Proofs.YtjmemfggbhkofaaGreatH
