import Derived.Test.YtjmemfggbhkofaaGreatTg1a
set_option maxHeartbeats 2000000
set_option linter.unusedVariables false
set_option linter.unusedSimpArgs false
set_option linter.defProp false
set_option linter.unusedSectionVars false
set_option maxRecDepth 100000
namespace Go.Proofs.YtjmemfggbhkofaaGreatH
open Go
noncomputable section
instance i50_2 {q : Query} : Lp cx (f50_2 q) 150 L50_2 (fun (zs : Int) => [(3, .v (.ptr true [(iT q.VariableCount), (ssl eAtom q.Atoms), (ssl eI q.Free)])), (11, .v (iT zs))]) (QO (QX 8 (fun (y : Unit) => [])) (QR (fun (y : Bool) => [(4, .v (.bool y))]))) := Lp.of (f := (fun
 | i_68 =>
  if i_68 < (q.Free.length : Int) then
  (ix q.Free i_68).bind fun v_70 =>
  (f87 v_70 0 (w64 (q.VariableCount - 1))).bind fun o72 =>
  (jn (QN (fun (y : Bool) => [(3, .v (.ptr true [(iT q.VariableCount), (ssl eAtom q.Atoms), (ssl eI q.Free)])), (11, .v (iT i_68)), (149, .v (.bool y))])) ((if ¬ (o72 = true) then
  some true
  else
  (jn (QN (fun (y : Bool) => [(3, .v (.ptr true [(iT q.VariableCount), (ssl eAtom q.Atoms), (ssl eI q.Free)])), (11, .v (iT i_68)), (149, .v (.bool y))])) ((if i_68 > 0 then
  (ix q.Free (w64 (i_68 - 1))).bind fun v_80 =>
  some (decide (v_70 <= v_80))
  else
  some false) : Option (Bool))).bind fun x_77 =>
  some x_77) : Option (Bool))).bind fun x_74 =>
  if x_74 = true then
  some (.inr (.inr false))
  else
  some (.inl (w64 (i_68 + 1)))
  else
  some (.inr (.inl ())) : Int -> Option (Int ⊕ (Unit ⊕ Bool)))) (by exact go)
instance i50 {l : (List Relation)} {q : Query} : Rn cx (f50 l q) 50 [(ssl eRelation l), (.agg [(iT q.VariableCount), (ssl eAtom q.Atoms), (ssl eI q.Free)])] (fun (r : Bool) => (.bool r)) (fun r => []) := Rn.o (e := (
  (f95 l).bind fun o1 =>
  (jn (QN (fun (y : Bool) => [(0, .v (ssl eRelation l)), (3, .v (.ptr true [(iT q.VariableCount), (ssl eAtom q.Atoms), (ssl eI q.Free)])), (27, .v (.bool y))])) ((if ¬ (o1 = true) then
  some true
  else
  (f87 q.VariableCount 0 4).bind fun o6 =>
  (jn (QN (fun (y : Bool) => [(0, .v (ssl eRelation l)), (3, .v (.ptr true [(iT q.VariableCount), (ssl eAtom q.Atoms), (ssl eI q.Free)])), (27, .v (.bool y))])) ((if ¬ (o6 = true) then
  some true
  else
  (f87 (q.Atoms.length : Int) 1 3).bind fun o11 =>
  some (decide (¬ (o11 = true)))) : Option (Bool))).bind fun x_8 =>
  some x_8) : Option (Bool))).bind fun x_3 =>
  if x_3 = true then
  some false
  else
  (mkl 1 4 false).bind fun l_14 =>
  sn 2 5 (osl eB true l_14) <| 
  (iter (f50_0 l q) (l_14, 0)).bind fun o => match o with
  | .inl met_58 =>
  ((iter (f50_1 q met_58) 0).bind fun o => match o with
  | .inl _ =>
  ((iter (f50_2 q) 0).bind fun o => match o with
  | .inl _ =>
  some true
  | .inr x_85 =>
  some x_85)
  | .inr x_67 =>
  some x_67)
  | .inr x_59 =>
  some x_59 : Option Bool)) rfl (by exact go)
instance : Io0 cx 50 := ⟨rfl⟩
instance i221_0 {l : (List Relation)} {a : Atom} : Lp cx (f221_0 l a) 39 L221_0 (fun (zs : (List UInt8) × Int) => [(0, .v (ssl eRelation l)), (3, .v (.ptr true [(iT a.Relation), (ssl eI a.Terms)])), (5, .v (.str zs.1)), (6, .v (iT zs.2))]) (QX 0 (fun (y : (List UInt8)) => [(5, .v (.str y))])) := Lp.of (f := (fun
 | (s_3, i_4) =>
  if i_4 < (a.Terms.length : Int) then
  (ix l a.Relation).bind fun v_6 =>
  (jn (QN (fun (y : (List UInt8)) => [(0, .v (ssl eRelation l)), (3, .v (.ptr true [(iT a.Relation), (ssl eI a.Terms)])), (5, .v (.str y)), (6, .v (iT i_4))])) ((if i_4 = v_6.KeyLength then
  (cat s_3 ([124])).bind fun s_11 =>
  some s_11
  else
  some s_3) : Option (List UInt8))).bind fun s_13 =>
  (ix a.Terms i_4).bind fun v_14 =>
  (f220 v_14).bind fun o16 =>
  (cat s_13 o16).bind fun s_18 =>
  some (.inl (s_18, w64 (i_4 + 1)))
  else
  some (.inr s_3) : (List UInt8) × Int -> Option (((List UInt8) × Int) ⊕ (List UInt8)))) (by exact go)
instance i221 {l : (List Relation)} {a : Atom} : Rn cx (f221 l a) 221 [(ssl eRelation l), (.agg [(iT a.Relation), (ssl eI a.Terms)])] (fun (r : (List UInt8)) => (.str r)) (fun r => []) := Rn.o rfl (by unfold f221; exact go)
instance : Io0 cx 221 := ⟨rfl⟩
instance i216_0 {l : (List Relation)} {q : Query} : Lp cx (lw l (f216_0 q)) 50 L216_0 (fun (zs : (List UInt8) × Int) => [(0, .v (ssl eRelation l)), (3, .v (.ptr true [(iT q.VariableCount), (ssl eAtom q.Atoms), (ssl eI q.Free)])), (5, .v (.str zs.1)), (6, .v (iT zs.2))]) (QX 0 (fun (y : (List UInt8)) => [(0, .v (ssl eRelation l)), (3, .v (.ptr true [(iT q.VariableCount), (ssl eAtom q.Atoms), (ssl eI q.Free)])), (5, .v (.str y))])) := Lp.of (by unfold lw f216_0; exact go)
instance i216_1 {l : (List Relation)} {q : Query} : Lp cx (f216_1 l q) 50 L216_1 (fun (zs : (List UInt8) × Int) => [(0, .v (ssl eRelation l)), (3, .v (.ptr true [(iT q.VariableCount), (ssl eAtom q.Atoms), (ssl eI q.Free)])), (5, .v (.str zs.1)), (7, .v (iT zs.2))]) (QX 2 (fun (y : (List UInt8)) => [(5, .v (.str y))])) := Lp.of (f := (fun
 | (s_18, i_19) =>
  if i_19 < (q.Atoms.length : Int) then
  (jn (QN (fun (y : (List UInt8)) => [(0, .v (ssl eRelation l)), (3, .v (.ptr true [(iT q.VariableCount), (ssl eAtom q.Atoms), (ssl eI q.Free)])), (5, .v (.str y)), (7, .v (iT i_19))])) ((if i_19 > 0 then
  (cat s_18 ([32])).bind fun s_24 =>
  some s_24
  else
  some s_18) : Option (List UInt8))).bind fun s_26 =>
  (ix q.Atoms i_19).bind fun v_27 =>
  (f221 l v_27).bind fun o29 =>
  (cat s_26 o29).bind fun s_31 =>
  some (.inl (s_31, w64 (i_19 + 1)))
  else
  some (.inr s_18) : (List UInt8) × Int -> Option (((List UInt8) × Int) ⊕ (List UInt8)))) (by exact go)
instance i216 {l : (List Relation)} {q : Query} : Rn cx (f216 l q) 216 [(ssl eRelation l), (.agg [(iT q.VariableCount), (ssl eAtom q.Atoms), (ssl eI q.Free)])] (fun (r : (List UInt8)) => (.str r)) (fun r => []) := Rn.o (e := (
  (f50 l q).bind fun o1 =>
  if ¬ (o1 = true) then
  some ([])
  else
  (iter (lw l  (f216_0 q)) ([], 0)).bind fun s_15 =>
  (cat s_15 ([63])).bind fun s_16 =>
  (iter (f216_1 l q) (s_16, 0)).bind fun s_35 =>
  some s_35 : Option (List UInt8))) rfl (by exact go)
instance : Io0 cx 216 := ⟨rfl⟩
instance i200_0 {l : (List Relation)} {s1 : (List UInt8)} {o1 : (List (List UInt8))} : Lp cx (lw (l, s1) (f200_0 o1)) 123 L200_0 (fun (zs : Int × (List Atom) × (List Int) × Int) => [(0, .v (ssl eRelation l)), (1, .v (.str s1)), (4, .v (.ptr true [(iT 0), (osl eAtom true ([])), (osl eI true ([]))])), (6, .v (osl eS true o1)), (7, .v (.ptr true [(iT zs.1), (osl eAtom true zs.2.1), (osl eI true zs.2.2.1)])), (8, .v (iT zs.2.2.2))]) (QX 0 (fun (y : Int × (List Atom) × (List Int)) => [(0, .v (ssl eRelation l)), (1, .v (.str s1)), (4, .v (.ptr true [(iT 0), (osl eAtom true ([])), (osl eI true ([]))])), (6, .v (osl eS true o1)), (7, .v (.ptr true [(iT y.1), (osl eAtom true y.2.1), (osl eI true y.2.2)]))])) := Lp.of (by unfold lw f200_0; exact go)
instance i200_2 {l : (List Relation)} {s1 : (List UInt8)} {o24 : (List (List UInt8))} {i_29 : Int} : Lp cx (lw s1 (f200_2 l o24 i_29)) 123 L200_2 (fun (zs : Int × (List Atom) × (List Int) × Int × (List Int) × Int) => [(0, .v (ssl eRelation l)), (1, .v (.str s1)), (4, .v (.ptr true [(iT 0), (osl eAtom true ([])), (osl eI true ([]))])), (7, .v (.ptr true [(iT zs.1), (osl eAtom true zs.2.1), (osl eI true zs.2.2.1)])), (11, .v (osl eS true o24)), (12, .v (iT i_29)), (13, .v (.ptr true [(iT zs.2.2.2.1), (osl eI true zs.2.2.2.2.1)])), (14, .v (iT zs.2.2.2.2.2))]) (QX 4 (fun (y : Int × (List Atom) × (List Int) × Int × (List Int)) => [(0, .v (ssl eRelation l)), (1, .v (.str s1)), (4, .v (.ptr true [(iT 0), (osl eAtom true ([])), (osl eI true ([]))])), (7, .v (.ptr true [(iT y.1), (osl eAtom true y.2.1), (osl eI true y.2.2.1)])), (11, .v (osl eS true o24)), (12, .v (iT i_29)), (13, .v (.ptr true [(iT y.2.2.2.1), (osl eI true y.2.2.2.2)]))])) := Lp.of (f := (fun
 | (q_31, q_32, q_33, a_34, a_35, k_36) =>
  (ix o24 i_29).bind fun v_37 =>
  if k_36 < (v_37.length : Int) then
  (jb 5 (QN (fun (y : Int × Int × (List Int)) => [(0, .v (ssl eRelation l)), (1, .v (.str s1)), (4, .v (.ptr true [(iT 0), (osl eAtom true ([])), (osl eI true ([]))])), (7, .v (.ptr true [(iT y.1), (osl eAtom true q_32), (osl eI true q_33)])), (11, .v (osl eS true o24)), (12, .v (iT i_29)), (13, .v (.ptr true [(iT y.2.1), (osl eI true y.2.2)])), (14, .v (iT k_36))])) ((if k_36 = 0 then
  (cutL v_37 0 1).bind fun l_43 =>
  (f215 l l_43).bind fun o45 =>
  some (q_31, o45, a_35)
  else
  (ix v_37 k_36).bind fun c_47 =>
  if (c_47.toNat : Int) = 124 then
  some (q_31, a_34, a_35)
  else
  (cutL v_37 k_36 (w64 (k_36 + 1))).bind fun l_50 =>
  (f214 l_50).bind fun o52 =>
  (app 8 a_35 ([o52.1])).bind fun l_54 =>
  some (if w64 (o52.1 + 1) > q_31 then w64 (o52.1 + 1) else q_31, a_34, l_54)) : Option (Int × Int × (List Int)))).bind fun (q_56, a_57, a_58) =>
  some (.inl (q_56, q_32, q_33, a_57, a_58, w64 (k_36 + 1)))
  else
  some (.inr (q_31, q_32, q_33, a_34, a_35)) : Int × (List Atom) × (List Int) × Int × (List Int) × Int -> Option ((Int × (List Atom) × (List Int) × Int × (List Int) × Int) ⊕ (Int × (List Atom) × (List Int) × Int × (List Int))))) (by exact go)
instance i200_1 {l : (List Relation)} {s1 : (List UInt8)} {o24 : (List (List UInt8))} : Lp cx (lw s1 (f200_1 l o24)) 123 L200_1 (fun (zs : Int × (List Atom) × (List Int) × Int) => [(0, .v (ssl eRelation l)), (1, .v (.str s1)), (4, .v (.ptr true [(iT 0), (osl eAtom true ([])), (osl eI true ([]))])), (7, .v (.ptr true [(iT zs.1), (osl eAtom true zs.2.1), (osl eI true zs.2.2.1)])), (11, .v (osl eS true o24)), (12, .v (iT zs.2.2.2))]) (QX 2 (fun (y : Int × (List Atom) × (List Int)) => [(0, .v (ssl eRelation l)), (1, .v (.str s1)), (4, .v (.ptr true [(iT 0), (osl eAtom true ([])), (osl eI true ([]))])), (7, .v (.ptr true [(iT y.1), (osl eAtom true y.2.1), (osl eI true y.2.2)]))])) := Lp.of (f := (fun
 | (q_26, q_27, q_28, i_29) =>
  if i_29 < (o24.length : Int) then
  sn 2 59 (.agg [(iT 0), (osl eI true ([]))]) <| 
  (iter (lw s1  (f200_2 l o24 i_29)) (q_26, q_27, q_28, 0, [], 0)).bind fun (q_61, q_62, q_63, a_64, a_65) =>
  (app 32 q_62 ([({ Relation := a_64, Terms := a_65 } : Atom)])).bind fun l_66 =>
  some (.inl (q_61, l_66, q_63, w64 (i_29 + 1)))
  else
  some (.inr (q_26, q_27, q_28)) : Int × (List Atom) × (List Int) × Int -> Option ((Int × (List Atom) × (List Int) × Int) ⊕ (Int × (List Atom) × (List Int))))) (by exact go)
instance i200 {l : (List Relation)} {s1 : (List UInt8)} : Rn cx (f200 l s1) 200 [(ssl eRelation l), (.str s1)] (fun (r : Query × Bool) => (.tup [(.agg [(iT r.1.VariableCount), (osl eAtom true r.1.Atoms), (osl eI true r.1.Free)]), (.bool r.2)])) (fun r => []) := Rn.o (e := (
  sn 2 4 (.ptr true [(iT 0), (osl eAtom true ([])), (osl eI true ([]))]) <| 
  (f213 s1 63).bind fun o1 =>
  if (o1.length : Int) ≠ 2 then
  sn 1 22 (.agg [(iT 0), (osl eAtom true ([])), (osl eI true ([]))]) <| 
  some (({ VariableCount := 0, Atoms := [], Free := [] } : Query), false)
  else
  sn 2 23 (.agg [(iT 0), (osl eAtom true ([])), (osl eI true ([]))]) <| 
  (iter (lw (l, s1)  (f200_0 o1)) (0, [], [], 0)).bind fun (q_19, q_20, q_21) =>
  (ix o1 1).bind fun v_22 =>
  (f213 v_22 32).bind fun o24 =>
  (iter (lw s1  (f200_1 l o24)) (q_19, q_20, q_21, 0)).bind fun (q_70, q_71, q_72) =>
  (f216 l ({ VariableCount := q_70, Atoms := q_71, Free := q_72 } : Query)).bind fun o73 =>
  if o73 ≠ s1 then
  sn 1 121 (.agg [(iT 0), (osl eAtom true ([])), (osl eI true ([]))]) <| 
  some (({ VariableCount := 0, Atoms := [], Free := [] } : Query), false)
  else
  some (({ VariableCount := q_70, Atoms := q_71, Free := q_72 } : Query), true) : Option (Query × Bool))) rfl (by exact go)
instance : Io0 cx 200 := ⟨rfl⟩
instance i170 {c : L1Cur} {l : (List Relation)} : Rn cx (f170 c l) 170 [(.ptr true [(ssl eU c.b), (iT c.i), (iT c.h)]), (ssl eRelation l)] (fun (r : Query × L1Cur) => (.agg [(iT r.1.VariableCount), (osl eAtom true r.1.Atoms), (osl eI true r.1.Free)])) (fun r => [(.ptr true [(ssl eU r.2.b), (iT r.2.i), (iT r.2.h)])]) := Rn.o (e := (
  sn 1 4 (.ptr true [(iT 0), (osl eAtom true ([])), (osl eI true ([]))]) <| 
  sn 3 10 (osl eS true ([[63, 114, 120, 124, 121, 32, 115, 121, 124, 122], [63, 114, 120, 124, 121, 32, 115, 121, 124, 120], [63, 114, 120, 124, 121, 32, 115, 122, 124, 121], [63, 114, 120, 124, 121, 32, 115, 120, 124, 122], [63, 114, 120, 124, 49], [63, 114, 120, 124, 120], [63, 114, 120, 124, 121, 32, 115, 121, 124, 49], [63, 114, 120, 124, 121, 32, 115, 121, 124, 122, 32, 114], [63, 114, 120, 124, 121], [63, 114, 120, 124, 122, 32, 115, 121, 124, 122]])) <| 
  sn 0 10 (ssl eS ([[63, 114, 120, 124, 121, 32, 115, 121, 124, 122], [63, 114, 120, 124, 121, 32, 115, 121, 124, 120], [63, 114, 120, 124, 121, 32, 115, 122, 124, 121], [63, 114, 120, 124, 121, 32, 115, 120, 124, 122], [63, 114, 120, 124, 49], [63, 114, 120, 124, 120], [63, 114, 120, 124, 121, 32, 115, 121, 124, 49], [63, 114, 120, 124, 121, 32, 115, 121, 124, 122, 32, 114], [63, 114, 120, 124, 121], [63, 114, 120, 124, 122, 32, 115, 121, 124, 122]])) <| 
  (f201 c ([[63, 114, 120, 124, 121, 32, 115, 121, 124, 122], [63, 114, 120, 124, 121, 32, 115, 121, 124, 120], [63, 114, 120, 124, 121, 32, 115, 122, 124, 121], [63, 114, 120, 124, 121, 32, 115, 120, 124, 122], [63, 114, 120, 124, 49], [63, 114, 120, 124, 120], [63, 114, 120, 124, 121, 32, 115, 121, 124, 49], [63, 114, 120, 124, 121, 32, 115, 121, 124, 122, 32, 114], [63, 114, 120, 124, 121], [63, 114, 120, 124, 122, 32, 115, 121, 124, 122]])).bind fun o1 =>
  (f200 l o1.1).bind fun o3 =>
  (jn (QN (fun (y : Int × (List Atom) × (List Int)) => [(0, .v (.ptr true [(ssl eU o1.2.b), (iT o1.2.i), (iT o1.2.h)])), (4, .v (.ptr true [(iT 0), (osl eAtom true ([])), (osl eI true ([]))])), (5, .v (.ptr true [(iT y.1), (osl eAtom true y.2.1), (osl eI true y.2.2)]))])) ((if ¬ (o3.2 = true) then
  (f200 l ([63, 114, 120, 124, 121, 32, 115, 121, 124, 122])).bind fun o8 =>
  some (o8.1.VariableCount, o8.1.Atoms, o8.1.Free)
  else
  some (o3.1.VariableCount, o3.1.Atoms, o3.1.Free)) : Option (Int × (List Atom) × (List Int)))).bind fun (q_10, q_11, q_12) =>
  some (({ VariableCount := q_10, Atoms := q_11, Free := q_12 } : Query), o1.2) : Option (Query × L1Cur))) rfl (by exact go)
instance i129_0 : Lp cx f129_0 31 L129_0 (fun (zs : (List Int) × Int × Int × Int × (List Atom) × (List Int) × Int) => [(0, .v (.ptr true [(ssl eU zs.1), (iT zs.2.1), (iT zs.2.2.1)])), (4, .v (.ptr true [(iT 0), (osl eAtom true ([])), (osl eI true ([]))])), (5, .v (.ptr true [(iT zs.2.2.2.1), (osl eAtom true zs.2.2.2.2.1), (osl eI true zs.2.2.2.2.2.1)])), (6, .v (iT zs.2.2.2.2.2.2))]) (QX 0 (fun (y : (List Int) × Int × Int × Int × (List Atom) × (List Int)) => [(0, .v (.ptr true [(ssl eU y.1), (iT y.2.1), (iT y.2.2.1)])), (4, .v (.ptr true [(iT 0), (osl eAtom true ([])), (osl eI true ([]))])), (5, .v (.ptr true [(iT y.2.2.2.1), (osl eAtom true y.2.2.2.2.1), (osl eI true y.2.2.2.2.2)]))])) := Lp.of (f := (fun
 | (c_21, c_22, c_23, q_24, q_25, q_26, v_27) =>
  if v_27 < q_24 then
  (f149 ({ b := c_21, i := c_22, h := c_23 } : L1Cur) 3).bind fun o29 =>
  (jn (QN (fun (y : (List Int)) => [(0, .v (.ptr true [(ssl eU o29.2.b), (iT o29.2.i), (iT o29.2.h)])), (4, .v (.ptr true [(iT 0), (osl eAtom true ([])), (osl eI true ([]))])), (5, .v (.ptr true [(iT q_24), (osl eAtom true q_25), (osl eI true y)])), (6, .v (iT v_27))])) ((if o29.1 = true then
  (app 8 q_26 ([v_27])).bind fun l_34 =>
  some l_34
  else
  some q_26) : Option (List Int))).bind fun q_36 =>
  some (.inl (o29.2.b, o29.2.i, o29.2.h, q_24, q_25, q_36, w64 (v_27 + 1)))
  else
  some (.inr (c_21, c_22, c_23, q_24, q_25, q_26)) : (List Int) × Int × Int × Int × (List Atom) × (List Int) × Int -> Option (((List Int) × Int × Int × Int × (List Atom) × (List Int) × Int) ⊕ ((List Int) × Int × Int × Int × (List Atom) × (List Int))))) (by exact go)
instance i129 {c : L1Cur} {l : (List Relation)} : Rn cx (f129 c l) 129 [(.ptr true [(ssl eU c.b), (iT c.i), (iT c.h)]), (ssl eRelation l)] (fun (r : Query × L1Cur) => (.agg [(iT r.1.VariableCount), (osl eAtom true r.1.Atoms), (osl eI true r.1.Free)])) (fun r => [(.ptr true [(ssl eU r.2.b), (iT r.2.i), (iT r.2.h)])]) := Rn.o (e := (
  sn 1 4 (.ptr true [(iT 0), (osl eAtom true ([])), (osl eI true ([]))]) <| 
  (f169 c).bind fun o1 =>
  (f149 o1.2 3).bind fun o3 =>
  (jn (QN (fun (y : (List Int) × Int × Int × Int × (List Atom) × (List Int)) => [(0, .v (.ptr true [(ssl eU y.1), (iT y.2.1), (iT y.2.2.1)])), (4, .v (.ptr true [(iT 0), (osl eAtom true ([])), (osl eI true ([]))])), (5, .v (.ptr true [(iT y.2.2.2.1), (osl eAtom true y.2.2.2.2.1), (osl eI true y.2.2.2.2.2)]))])) ((if o3.1 = true then
  (f170 o3.2 l).bind fun o8 =>
  some (o8.2.b, o8.2.i, o8.2.h, o8.1.VariableCount, o8.1.Atoms, o8.1.Free)
  else
  some (o3.2.b, o3.2.i, o3.2.h, o1.1.VariableCount, o1.1.Atoms, o1.1.Free)) : Option ((List Int) × Int × Int × Int × (List Atom) × (List Int)))).bind fun (c_10, c_11, c_12, q_13, q_14, q_15) =>
  (f149 ({ b := c_10, i := c_11, h := c_12 } : L1Cur) 4).bind fun o16 =>
  (jn (QN (fun (y : (List Int) × Int × Int × Int × (List Atom) × (List Int)) => [(0, .v (.ptr true [(ssl eU y.1), (iT y.2.1), (iT y.2.2.1)])), (4, .v (.ptr true [(iT 0), (osl eAtom true ([])), (osl eI true ([]))])), (5, .v (.ptr true [(iT y.2.2.2.1), (osl eAtom true y.2.2.2.2.1), (osl eI true y.2.2.2.2.2)]))])) ((if o16.1 = true then
  (iter f129_0 (o16.2.b, o16.2.i, o16.2.h, q_13, q_14, q_15, 0)).bind fun (c_39, c_40, c_41, q_42, q_43, q_44) =>
  some (c_39, c_40, c_41, q_42, q_43, q_44)
  else
  some (o16.2.b, o16.2.i, o16.2.h, q_13, q_14, q_15)) : Option ((List Int) × Int × Int × Int × (List Atom) × (List Int)))).bind fun (c_45, c_46, c_47, q_48, q_49, q_50) =>
  some (({ VariableCount := q_48, Atoms := q_49, Free := q_50 } : Query), ({ b := c_45, i := c_46, h := c_47 } : L1Cur)) : Option (Query × L1Cur))) rfl (by exact go)
instance i131 {c : L1Cur} {l : (List Relation)} : Rn cx (f131 c l) 131 [(.ptr true [(ssl eU c.b), (iT c.i), (iT c.h)]), (ssl eRelation l)] (fun (r : Query × L1Cur) => (.agg [(iT r.1.VariableCount), (osl eAtom true r.1.Atoms), (osl eI true r.1.Free)])) (fun r => [(.ptr true [(ssl eU r.2.b), (iT r.2.i), (iT r.2.h)])]) := Rn.o (e := (
  sn 1 4 (.ptr true [(iT 0), (osl eAtom true ([])), (osl eI true ([]))]) <| 
  (f129 c l).bind fun o1 =>
  (f105 o1.2 14).bind fun o3 =>
  (jn (QN (fun (y : (List Int) × Int × Int × Int × (List Atom) × (List Int)) => [(0, .v (.ptr true [(ssl eU y.1), (iT y.2.1), (iT y.2.2.1)])), (4, .v (.ptr true [(iT 0), (osl eAtom true ([])), (osl eI true ([]))])), (5, .v (.ptr true [(iT y.2.2.2.1), (osl eAtom true y.2.2.2.2.1), (osl eI true y.2.2.2.2.2)]))])) ((if o3.1 = 0 then
  sn 5 17 (osl eI true ([-1, w64 (o1.1.VariableCount + 1), 5])) <| 
  sn 0 17 (ssl eI ([-1, w64 (o1.1.VariableCount + 1), 5])) <| 
  (f166 o3.2 ([-1, w64 (o1.1.VariableCount + 1), 5])).bind fun o8 =>
  some (o8.2.b, o8.2.i, o8.2.h, o8.1, o1.1.Atoms, o1.1.Free)
  else
  (jn (QN (fun (y : (List Int) × Int × Int × (List Atom) × (List Int)) => [(0, .v (.ptr true [(ssl eU y.1), (iT y.2.1), (iT y.2.2.1)])), (4, .v (.ptr true [(iT 0), (osl eAtom true ([])), (osl eI true ([]))])), (5, .v (.ptr true [(iT o1.1.VariableCount), (osl eAtom true y.2.2.2.1), (osl eI true y.2.2.2.2)]))])) ((if o3.1 = 1 then
  sn 4 27 (osl eI true ([0, 0])) <| 
  (f105 o3.2 6).bind fun o13 =>
  (app 32 o1.1.Atoms ([({ Relation := w64 (o13.1 - 1), Terms := [0, 0] } : Atom)])).bind fun l_15 =>
  some (o13.2.b, o13.2.i, o13.2.h, l_15, o1.1.Free)
  else
  (jn (QN (fun (y : (List Int) × Int × Int × (List Atom) × (List Int)) => [(0, .v (.ptr true [(ssl eU y.1), (iT y.2.1), (iT y.2.2.1)])), (4, .v (.ptr true [(iT 0), (osl eAtom true ([])), (osl eI true ([]))])), (5, .v (.ptr true [(iT o1.1.VariableCount), (osl eAtom true y.2.2.2.1), (osl eI true y.2.2.2.2)]))])) ((if o3.1 = 2 then
  (ix o1.1.Atoms 0).bind fun v_20 =>
  sn 7 40 (osl eI true ([-11, 4, 3])) <| 
  sn 0 40 (ssl eI ([-11, 4, 3])) <| 
  (f166 o3.2 ([-11, 4, 3])).bind fun o22 =>
  (ix v_20.Terms 0).bind fun v_24 =>
  some (o22.2.b, o22.2.i, o22.2.h, (o1.1.Atoms.set (0 : Int).toNat ({ Relation := v_20.Relation, Terms := (v_20.Terms.set (0 : Int).toNat o22.1) } : Atom)), o1.1.Free)
  else
  (jn (QN (fun (y : (List Int) × Int × Int × (List Int)) => [(0, .v (.ptr true [(ssl eU y.1), (iT y.2.1), (iT y.2.2.1)])), (4, .v (.ptr true [(iT 0), (osl eAtom true ([])), (osl eI true ([]))])), (5, .v (.ptr true [(iT o1.1.VariableCount), (osl eAtom true o1.1.Atoms), (osl eI true y.2.2.2)]))])) ((if o3.1 = 3 then
  (f105 o3.2 5).bind fun o31 =>
  (app 8 o1.1.Free ([o31.1])).bind fun l_33 =>
  some (o31.2.b, o31.2.i, o31.2.h, l_33)
  else
  some (o3.2.b, o3.2.i, o3.2.h, o1.1.Free)) : Option ((List Int) × Int × Int × (List Int)))).bind fun (c_35, c_36, c_37, q_38) =>
  some (c_35, c_36, c_37, o1.1.Atoms, q_38)) : Option ((List Int) × Int × Int × (List Atom) × (List Int)))).bind fun (c_39, c_40, c_41, q_42, q_43) =>
  some (c_39, c_40, c_41, q_42, q_43)) : Option ((List Int) × Int × Int × (List Atom) × (List Int)))).bind fun (c_44, c_45, c_46, q_47, q_48) =>
  some (c_44, c_45, c_46, o1.1.VariableCount, q_47, q_48)) : Option ((List Int) × Int × Int × Int × (List Atom) × (List Int)))).bind fun (c_49, c_50, c_51, q_52, q_53, q_54) =>
  some (({ VariableCount := q_52, Atoms := q_53, Free := q_54 } : Query), ({ b := c_49, i := c_50, h := c_51 } : L1Cur)) : Option (Query × L1Cur))) rfl (by exact go)
instance i102 {code : (List Int)} : Rn cx (f102 code) 102 [(ssl eU code)] (fun (r : L1Cur × Database × Query) => (.tup [(.ptr true [(ssl eU r.1.b), (iT r.1.i), (iT r.1.h)]), (.agg [(ssl eRelation r.2.1.Relations), (ssl eFact r.2.1.Facts)]), (.agg [(iT r.2.2.VariableCount), (osl eAtom true r.2.2.Atoms), (osl eI true r.2.2.Free)])])) (fun r => []) := Rn.o (e := (
  sn 3 3 (.ptr true [(osl eRelation true ([])), (osl eFact true ([]))]) <| 
  sn 0 4 (.ptr true [(iT 0), (osl eAtom true ([])), (osl eI true ([]))]) <| 
  (f127 code).bind fun o1 =>
  (f148 o1).bind fun o3 =>
  sn 2 6 (.ptr false [(ssl eRelation o3.1.Relations), (ssl eFact o3.1.Facts)]) <| 
  (f129 o3.2 o3.1.Relations).bind fun o5 =>
  (f149 o5.2 20).bind fun o7 =>
  (jn (QN (fun (y : (List Int) × Int × Int × Int × (List Atom) × (List Int)) => [(3, .v (.ptr true [(osl eRelation true ([])), (osl eFact true ([]))])), (4, .v (.ptr true [(iT 0), (osl eAtom true ([])), (osl eI true ([]))])), (5, .v (.ptr true [(ssl eU y.1), (iT y.2.1), (iT y.2.2.1)])), (6, .v (.ptr false [(ssl eRelation o3.1.Relations), (ssl eFact o3.1.Facts)])), (7, .v (.ptr true [(iT y.2.2.2.1), (osl eAtom true y.2.2.2.2.1), (osl eI true y.2.2.2.2.2)]))])) ((if o7.1 = true then
  (f131 o7.2 o3.1.Relations).bind fun o12 =>
  some (o12.2.b, o12.2.i, o12.2.h, o12.1.VariableCount, o12.1.Atoms, o12.1.Free)
  else
  some (o7.2.b, o7.2.i, o7.2.h, o5.1.VariableCount, o5.1.Atoms, o5.1.Free)) : Option ((List Int) × Int × Int × Int × (List Atom) × (List Int)))).bind fun (c_14, c_15, c_16, q_17, q_18, q_19) =>
  some (({ b := c_14, i := c_15, h := c_16 } : L1Cur), o3.1, ({ VariableCount := q_17, Atoms := q_18, Free := q_19 } : Query)) : Option (L1Cur × Database × Query))) rfl (by exact go)
instance : Io0 cx 102 := ⟨rfl⟩
instance i53_0 {o1 : (L1Cur × Database × Query)} : Lp cx (lw o1 f53_0) 29 L53_0 (fun (zs : (List Relation) × (List Fact)) => [(3, .v (.ptr true [(osl eRelation true ([])), (osl eFact true ([]))])), (4, .v (.ptr true [(iT 0), (osl eAtom true ([])), (osl eI true ([]))])), (5, .v (.ptr true [(ssl eU o1.1.b), (iT o1.1.i), (iT o1.1.h)])), (6, .v (.ptr true [(ssl eRelation zs.1), (ssl eFact zs.2)])), (7, .v (.ptr true [(iT o1.2.2.VariableCount), (osl eAtom true o1.2.2.Atoms), (osl eI true o1.2.2.Free)]))]) (QX 0 (fun (y : (List Relation) × (List Fact)) => [(3, .v (.ptr true [(osl eRelation true ([])), (osl eFact true ([]))])), (4, .v (.ptr true [(iT 0), (osl eAtom true ([])), (osl eI true ([]))])), (5, .v (.ptr true [(ssl eU o1.1.b), (iT o1.1.i), (iT o1.1.h)])), (6, .v (.ptr true [(ssl eRelation y.1), (ssl eFact y.2)])), (7, .v (.ptr true [(iT o1.2.2.VariableCount), (osl eAtom true o1.2.2.Atoms), (osl eI true o1.2.2.Free)]))])) := Lp.of (by unfold lw f53_0; exact go)
instance i53 {code : (List Int)} : Rn cx (f53 code) 53 [(ssl eU code)] (fun (r : L1Cur × Database × Query) => (.tup [(.ptr true [(ssl eU r.1.b), (iT r.1.i), (iT r.1.h)]), (.agg [(ssl eRelation r.2.1.Relations), (ssl eFact r.2.1.Facts)]), (.agg [(iT r.2.2.VariableCount), (osl eAtom true r.2.2.Atoms), (osl eI true r.2.2.Free)])])) (fun r => []) := Rn.o (e := (
  sn 3 3 (.ptr true [(osl eRelation true ([])), (osl eFact true ([]))]) <| 
  sn 0 4 (.ptr true [(iT 0), (osl eAtom true ([])), (osl eI true ([]))]) <| 
  (f102 code).bind fun o1 =>
  (iter (lw o1  f53_0) (o1.2.1.Relations, o1.2.1.Facts)).bind fun (d_10, d_11) =>
  some (o1.1, ({ Relations := d_10, Facts := d_11 } : Database), o1.2.2) : Option (L1Cur × Database × Query))) rfl (by exact go)
instance : Io0 cx 53 := ⟨rfl⟩
instance i18 {d : Database} {q : Query} : Rn cx (f18 d q) 18 [(.agg [(ssl eRelation d.Relations), (ssl eFact d.Facts)]), (.agg [(iT q.VariableCount), (ssl eAtom q.Atoms), (ssl eI q.Free)])] (fun (r : Bool) => (.bool r)) (fun r => []) := Rn.o (e := (
  (f49 d).bind fun o1 =>
  (jn (QN (fun (y : Bool) => [(4, .v (.bool y))])) ((if o1 = true then
  (f50 d.Relations q).bind fun o6 =>
  some o6
  else
  some false) : Option (Bool))).bind fun x_3 =>
  some x_3 : Option Bool)) rfl (by exact go)
instance : Io0 cx 18 := ⟨rfl⟩
instance i89_0 {d : Database} {l : (List Int)} : Lp cx (f89_0 d l) 38 L89_0 (fun (zs : Int) => [(1, .v (ssl eI l)), (2, .v (.ptr true [(ssl eRelation d.Relations), (ssl eFact d.Facts)])), (5, .v (iT zs))]) (QO (QX 0 (fun (y : Unit) => [])) (QR (fun (y : Bool) => [(4, .v (.bool y))]))) := Lp.of (f := (fun
 | i_1 =>
  if i_1 < (l.length : Int) then
  (ix l i_1).bind fun v_3 =>
  (f87 v_3 0 (w64 ((d.Facts.length : Int) - 1))).bind fun o5 =>
  (jn (QN (fun (y : Bool) => [(1, .v (ssl eI l)), (2, .v (.ptr true [(ssl eRelation d.Relations), (ssl eFact d.Facts)])), (5, .v (iT i_1)), (37, .v (.bool y))])) ((if ¬ (o5 = true) then
  some true
  else
  (jn (QN (fun (y : Bool) => [(1, .v (ssl eI l)), (2, .v (.ptr true [(ssl eRelation d.Relations), (ssl eFact d.Facts)])), (5, .v (iT i_1)), (37, .v (.bool y))])) ((if i_1 > 0 then
  (ix l (w64 (i_1 - 1))).bind fun v_13 =>
  some (decide (v_3 <= v_13))
  else
  some false) : Option (Bool))).bind fun x_10 =>
  some x_10) : Option (Bool))).bind fun x_7 =>
  if x_7 = true then
  some (.inr (.inr false))
  else
  some (.inl (w64 (i_1 + 1)))
  else
  some (.inr (.inl ())) : Int -> Option (Int ⊕ (Unit ⊕ Bool)))) (by exact go)
instance i89 {d : Database} {l : (List Int)} : Rn cx (f89 d l) 89 [(.agg [(ssl eRelation d.Relations), (ssl eFact d.Facts)]), (ssl eI l)] (fun (r : Bool) => (.bool r)) (fun r => []) := Rn.o rfl (by unfold f89; exact go)
instance : Io0 cx 89 := ⟨rfl⟩
instance i43_0 {d : Database} {l : (List Int)} : Lp cx (f43_0 d l) 51 L43_0 (fun (zs : (List Relation) × (List Fact) × Int) => [(1, .v (ssl eI l)), (2, .v (.ptr true [(ssl eRelation d.Relations), (ssl eFact d.Facts)])), (4, .v (.ptr true [(osl eRelation true ([])), (osl eFact true ([]))])), (6, .v (.ptr true [(osl eRelation true zs.1), (osl eFact true zs.2.1)])), (7, .v (iT zs.2.2))]) (QX 0 (fun (y : (List Relation) × (List Fact)) => [(4, .v (.ptr true [(osl eRelation true ([])), (osl eFact true ([]))])), (6, .v (.ptr true [(osl eRelation true y.1), (osl eFact true y.2)]))])) := Lp.of (f := (fun
 | (x_11, x_12, i_13) =>
  if i_13 < (l.length : Int) then
  (ix l i_13).bind fun v_15 =>
  (ix d.Facts v_15).bind fun v_17 =>
  (app 8 ([]) v_17.Values).bind fun l_19 =>
  sn 18 45 (osl eI true l_19) <| 
  (app 32 x_12 ([({ Relation := v_17.Relation, Values := l_19 } : Fact)])).bind fun l_21 =>
  some (.inl (x_11, l_21, w64 (i_13 + 1)))
  else
  some (.inr (x_11, x_12)) : (List Relation) × (List Fact) × Int -> Option (((List Relation) × (List Fact) × Int) ⊕ ((List Relation) × (List Fact))))) (by exact go)
instance i43 {d : Database} {l : (List Int)} : Rn cx (f43 d l) 43 [(.agg [(ssl eRelation d.Relations), (ssl eFact d.Facts)]), (ssl eI l)] (fun (r : Database × Bool) => (.tup [(.agg [(osl eRelation true r.1.Relations), (osl eFact true r.1.Facts)]), (.bool r.2)])) (fun r => []) := Rn.o (e := (
  sn 3 4 (.ptr true [(osl eRelation true ([])), (osl eFact true ([]))]) <| 
  (f49 d).bind fun o1 =>
  (jn (QN (fun (y : Bool) => [(1, .v (ssl eI l)), (2, .v (.ptr true [(ssl eRelation d.Relations), (ssl eFact d.Facts)])), (4, .v (.ptr true [(osl eRelation true ([])), (osl eFact true ([]))])), (17, .v (.bool y))])) ((if ¬ (o1 = true) then
  some true
  else
  (f89 d l).bind fun o6 =>
  some (decide (¬ (o6 = true)))) : Option (Bool))).bind fun x_3 =>
  if x_3 = true then
  sn 1 18 (.agg [(osl eRelation true ([])), (osl eFact true ([]))]) <| 
  some (({ Relations := [], Facts := [] } : Database), false)
  else
  (app 32 ([]) d.Relations).bind fun l_9 =>
  sn 4 22 (osl eRelation true l_9) <| 
  sn 2 23 (.agg [(osl eRelation true l_9), (osl eFact true ([]))]) <| 
  (iter (f43_0 d l) (l_9, [], 0)).bind fun (x_25, x_26) =>
  some (({ Relations := x_25, Facts := x_26 } : Database), true) : Option (Database × Bool))) rfl (by exact go)
instance : Io0 cx 43 := ⟨rfl⟩
instance i135 {l : (List Relation)} {f : Fact} : Rn cx (f135 l f) 135 [(ssl eRelation l), (.agg [(iT f.Relation), (ssl eI f.Values)])] (fun (r : (List Int)) => (osl eI true r)) (fun r => []) := Rn.o (e := (
  (f94 l f).bind fun o1 =>
  if ¬ (o1 = true) then
  sn 2 4 (osl eI true ([])) <| 
  some ([])
  else
  (ix l f.Relation).bind fun v_4 =>
  (cutL f.Values 0 v_4.KeyLength).bind fun l_6 =>
  (app 8 ([]) l_6).bind fun l_8 =>
  sn 12 4 (osl eI true l_8) <| 
  some l_8 : Option (List Int))) rfl (by exact go)
instance : Io0 cx 135 := ⟨rfl⟩
instance i88 {l : (List Relation)} {a : Fact} {b : Fact} : Rn cx (f88 l a b) 88 [(ssl eRelation l), (.agg [(iT a.Relation), (ssl eI a.Values)]), (.agg [(iT b.Relation), (ssl eI b.Values)])] (fun (r : Bool) => (.bool r)) (fun r => []) := Rn.o (e := (
  (f94 l a).bind fun o1 =>
  (jn (QN (fun (y : Bool) => [(0, .v (ssl eRelation l)), (6, .v (.bool y))])) ((if o1 = true then
  (f94 l b).bind fun o6 =>
  (jn (QN (fun (y : Bool) => [(0, .v (ssl eRelation l)), (6, .v (.bool y))])) ((if o6 = true then
  (jn (QN (fun (y : Bool) => [(0, .v (ssl eRelation l)), (6, .v (.bool y))])) ((if a.Relation = b.Relation then
  (f135 l a).bind fun o14 =>
  (f135 l b).bind fun o16 =>
  (f90 o14 o16).bind fun o18 =>
  some (decide (o18 = 0))
  else
  some false) : Option (Bool))).bind fun x_11 =>
  some x_11
  else
  some false) : Option (Bool))).bind fun x_8 =>
  some x_8
  else
  some false) : Option (Bool))).bind fun x_3 =>
  some x_3 : Option Bool)) rfl (by exact go)
instance : Io0 cx 88 := ⟨rfl⟩
instance i41_0 {d : Database} {i : Int} : Lp cx (f41_0 d i) 45 L41_0 (fun (zs : (List Int) × Int) => [(1, .v (iT i)), (2, .v (.ptr true [(ssl eRelation d.Relations), (ssl eFact d.Facts)])), (5, .v (osl eI true zs.1)), (6, .v (iT zs.2))]) (QX 0 (fun (y : (List Int)) => [(5, .v (osl eI true y))])) := Lp.of (f := (fun
 | (out_1, k_2) =>
  (jn (QN (fun (y : Bool) => [(1, .v (iT i)), (2, .v (.ptr true [(ssl eRelation d.Relations), (ssl eFact d.Facts)])), (5, .v (osl eI true out_1)), (6, .v (iT k_2)), (24, .v (.bool y))])) ((if k_2 < (d.Facts.length : Int) then
  (f49 d).bind fun o6 =>
  (jn (QN (fun (y : Bool) => [(1, .v (iT i)), (2, .v (.ptr true [(ssl eRelation d.Relations), (ssl eFact d.Facts)])), (5, .v (osl eI true out_1)), (6, .v (iT k_2)), (24, .v (.bool y))])) ((if o6 = true then
  (f87 i 0 (w64 ((d.Facts.length : Int) - 1))).bind fun o11 =>
  some o11
  else
  some false) : Option (Bool))).bind fun x_8 =>
  some x_8
  else
  some false) : Option (Bool))).bind fun x_3 =>
  if x_3 = true then
  (ix d.Facts i).bind fun v_14 =>
  (ix d.Facts k_2).bind fun v_16 =>
  (f88 d.Relations v_14 v_16).bind fun o18 =>
  (jn (QN (fun (y : (List Int)) => [(1, .v (iT i)), (2, .v (.ptr true [(ssl eRelation d.Relations), (ssl eFact d.Facts)])), (5, .v (osl eI true y)), (6, .v (iT k_2))])) ((if o18 = true then
  (app 8 out_1 ([k_2])).bind fun l_23 =>
  some l_23
  else
  some out_1) : Option (List Int))).bind fun out_25 =>
  some (.inl (out_25, w64 (k_2 + 1)))
  else
  some (.inr out_1) : (List Int) × Int -> Option (((List Int) × Int) ⊕ (List Int)))) (by exact go)
instance i41 {d : Database} {i : Int} : Rn cx (f41 d i) 41 [(.agg [(ssl eRelation d.Relations), (ssl eFact d.Facts)]), (iT i)] (fun (r : (List Int)) => (osl eI true r)) (fun r => []) := Rn.o (e := (
  sn 4 5 (osl eI true ([])) <| 
  (iter (f41_0 d i) ([], 0)).bind fun out_28 =>
  some out_28 : Option (List Int))) rfl (by exact go)
instance : Io0 cx 41 := ⟨rfl⟩
instance i63_0 {d : Database} : Lp cx (f63_0 d) 31 L63_0 (fun (zs : (List (List Int)) × Int) => [(1, .v (.ptr true [(ssl eRelation d.Relations), (ssl eFact d.Facts)])), (3, .v (osl (eL eI) true zs.1)), (4, .v (iT zs.2))]) (QX 0 (fun (y : (List (List Int))) => [(3, .v (osl (eL eI) true y))])) := Lp.of (f := (fun
 | (out_1, i_2) =>
  (jn (QN (fun (y : Bool) => [(1, .v (.ptr true [(ssl eRelation d.Relations), (ssl eFact d.Facts)])), (3, .v (osl (eL eI) true out_1)), (4, .v (iT i_2)), (15, .v (.bool y))])) ((if i_2 < (d.Facts.length : Int) then
  (f49 d).bind fun o6 =>
  some o6
  else
  some false) : Option (Bool))).bind fun x_3 =>
  if x_3 = true then
  (f41 d i_2).bind fun o9 =>
  (ix o9 0).bind fun v_11 =>
  (jn (QN (fun (y : (List (List Int))) => [(1, .v (.ptr true [(ssl eRelation d.Relations), (ssl eFact d.Facts)])), (3, .v (osl (eL eI) true y)), (4, .v (iT i_2))])) ((if v_11 = i_2 then
  (app 24 out_1 ([o9])).bind fun l_16 =>
  some l_16
  else
  some out_1) : Option (List (List Int)))).bind fun out_18 =>
  some (.inl (out_18, w64 (i_2 + 1)))
  else
  some (.inr out_1) : (List (List Int)) × Int -> Option (((List (List Int)) × Int) ⊕ (List (List Int))))) (by exact go)
instance i63 {d : Database} : Rn cx (f63 d) 63 [(.agg [(ssl eRelation d.Relations), (ssl eFact d.Facts)])] (fun (r : (List (List Int))) => (osl (eL eI) true r)) (fun r => []) := Rn.o (e := (
  sn 4 3 (osl (eL eI) true ([])) <| 
  (iter (f63_0 d) ([], 0)).bind fun out_21 =>
  some out_21 : Option (List (List Int)))) rfl (by exact go)
instance : Io0 cx 63 := ⟨rfl⟩
instance i164 {d : Database} : Rn cx (f164 d) 164 [(.agg [(ssl eRelation d.Relations), (ssl eFact d.Facts)])] (fun (r : Bool) => (.bool r)) (fun r => []) := Rn.o (e := (
  (f49 d).bind fun o1 =>
  (jn (QN (fun (y : Bool) => [(2, .v (.bool y))])) ((if o1 = true then
  (f63 d).bind fun o6 =>
  some (decide ((o6.length : Int) = (d.Facts.length : Int)))
  else
  some false) : Option (Bool))).bind fun x_3 =>
  some x_3 : Option Bool)) rfl (by exact go)
instance : Io0 cx 164 := ⟨rfl⟩
instance i114 {d : Database} {l : (List Int)} : Rn cx (f114 d l) 114 [(.agg [(ssl eRelation d.Relations), (ssl eFact d.Facts)]), (ssl eI l)] (fun (r : Bool) => (.bool r)) (fun r => []) := Rn.o (e := (
  (f43 d l).bind fun o1 =>
  (jn (QN (fun (y : Bool) => [(4, .v (.bool y))])) ((if o1.2 = true then
  (f164 o1.1).bind fun o6 =>
  some o6
  else
  some false) : Option (Bool))).bind fun x_3 =>
  some x_3 : Option Bool)) rfl (by exact go)
instance : Io0 cx 114 := ⟨rfl⟩
instance i181_2 {d : Database} {k : Int} {out_11 : (List (List Int))} {last_12 : (List (List Int))} {n_13 : Int} {i_16 : Int} : Lp cx (lw (k, out_11, n_13) (f181_2 d last_12 i_16)) 89 L181_2 (fun (zs : (List (List Int)) × Int) => [(1, .v (iT k)), (2, .v (.ptr true [(ssl eRelation d.Relations), (ssl eFact d.Facts)])), (5, .v (osl (eL eI) false out_11)), (6, .v (osl (eL eI) false last_12)), (7, .v (iT n_13)), (8, .v (osl (eL eI) false zs.1)), (9, .v (iT i_16)), (11, .v (iT zs.2))]) (QX 4 (fun (y : (List (List Int))) => [(1, .v (iT k)), (2, .v (.ptr true [(ssl eRelation d.Relations), (ssl eFact d.Facts)])), (5, .v (osl (eL eI) false out_11)), (6, .v (osl (eL eI) false last_12)), (7, .v (iT n_13)), (8, .v (osl (eL eI) false y)), (9, .v (iT i_16))])) := Lp.of (f := (fun
 | (more_26, x_27) =>
  if x_27 < (d.Facts.length : Int) then
  (ix last_12 i_16).bind fun v_29 =>
  (app 8 ([]) v_29).bind fun l_31 =>
  (app 8 l_31 ([x_27])).bind fun l_33 =>
  sn 10 12 (osl eI true l_33) <| 
  (f114 d l_33).bind fun o35 =>
  (jn (QN (fun (y : (List (List Int))) => [(1, .v (iT k)), (2, .v (.ptr true [(ssl eRelation d.Relations), (ssl eFact d.Facts)])), (5, .v (osl (eL eI) false out_11)), (6, .v (osl (eL eI) false last_12)), (7, .v (iT n_13)), (8, .v (osl (eL eI) false y)), (9, .v (iT i_16)), (11, .v (iT x_27))])) ((if o35 = true then
  sn 3 82 (osl (eL eI) true ([l_33])) <| 
  sn 0 82 (ssl (eL eI) ([l_33])) <| 
  (app 24 more_26 ([l_33])).bind fun l_40 =>
  some l_40
  else
  some more_26) : Option (List (List Int)))).bind fun more_42 =>
  some (.inl (more_42, w64 (x_27 + 1)))
  else
  some (.inr more_26) : (List (List Int)) × Int -> Option (((List (List Int)) × Int) ⊕ (List (List Int))))) (by exact go)
instance i181_1 {d : Database} {k : Int} {out_11 : (List (List Int))} {last_12 : (List (List Int))} {n_13 : Int} : Lp cx (lw (k, out_11, n_13) (f181_1 d last_12)) 89 L181_1 (fun (zs : (List (List Int)) × Int) => [(1, .v (iT k)), (2, .v (.ptr true [(ssl eRelation d.Relations), (ssl eFact d.Facts)])), (5, .v (osl (eL eI) false out_11)), (6, .v (osl (eL eI) false last_12)), (7, .v (iT n_13)), (8, .v (osl (eL eI) false zs.1)), (9, .v (iT zs.2))]) (QX 2 (fun (y : (List (List Int))) => [(1, .v (iT k)), (2, .v (.ptr true [(ssl eRelation d.Relations), (ssl eFact d.Facts)])), (5, .v (osl (eL eI) false out_11)), (7, .v (iT n_13)), (8, .v (osl (eL eI) false y))])) := Lp.of (f := (fun
 | (more_15, i_16) =>
  if i_16 < (last_12.length : Int) then
  (ix last_12 i_16).bind fun v_18 =>
  (jn (QN (fun (y : Int) => [(1, .v (iT k)), (2, .v (.ptr true [(ssl eRelation d.Relations), (ssl eFact d.Facts)])), (5, .v (osl (eL eI) false out_11)), (6, .v (osl (eL eI) false last_12)), (7, .v (iT n_13)), (8, .v (osl (eL eI) false more_15)), (9, .v (iT i_16)), (10, .v (iT y))])) ((if (v_18.length : Int) > 0 then
  (ix v_18 (w64 ((v_18.length : Int) - 1))).bind fun v_23 =>
  some (w64 (v_23 + 1))
  else
  some 0) : Option Int)).bind fun from_25 =>
  (iter (lw (k, out_11, n_13)  (f181_2 d last_12 i_16)) (more_15, from_25)).bind fun more_45 =>
  some (.inl (more_45, w64 (i_16 + 1)))
  else
  some (.inr more_15) : (List (List Int)) × Int -> Option (((List (List Int)) × Int) ⊕ (List (List Int))))) (by exact go)
instance i181_0 {d : Database} {k : Int} : Lp cx (f181_0 d k) 89 L181_0 (fun (zs : (List (List Int)) × (List (List Int)) × Int) => [(1, .v (iT k)), (2, .v (.ptr true [(ssl eRelation d.Relations), (ssl eFact d.Facts)])), (5, .v (osl (eL eI) false zs.1)), (6, .v (osl (eL eI) false zs.2.1)), (7, .v (iT zs.2.2))]) (QX 0 (fun (y : (List (List Int))) => [(5, .v (osl (eL eI) false y))])) := Lp.of (f := (fun
 | (out_11, last_12, n_13) =>
  if n_13 < k then
  sn 2 8 (osl (eL eI) false ([])) <| 
  (iter (lw (k, out_11, n_13)  (f181_1 d last_12)) ([], 0)).bind fun more_48 =>
  (app 24 out_11 more_48).bind fun l_49 =>
  some (.inl (l_49, more_48, w64 (n_13 + 1)))
  else
  some (.inr out_11) : (List (List Int)) × (List (List Int)) × Int -> Option (((List (List Int)) × (List (List Int)) × Int) ⊕ (List (List Int))))) (by exact go)
instance i181 {d : Database} {k : Int} : Rn cx (f181 d k) 181 [(.agg [(ssl eRelation d.Relations), (ssl eFact d.Facts)]), (iT k)] (fun (r : (List (List Int))) => (osl (eL eI) false r)) (fun r => []) := Rn.o (e := (
  sn 4 5 (osl (eL eI) false ([])) <| 
  (f49 d).bind fun o1 =>
  (jn (QN (fun (y : Bool) => [(1, .v (iT k)), (2, .v (.ptr true [(ssl eRelation d.Relations), (ssl eFact d.Facts)])), (5, .v (osl (eL eI) false ([]))), (21, .v (.bool y))])) ((if ¬ (o1 = true) then
  some true
  else
  (f87 k 0 3).bind fun o6 =>
  some (decide (¬ (o6 = true)))) : Option (Bool))).bind fun x_3 =>
  if x_3 = true then
  some ([])
  else
  sn 1 23 (osl eI true ([])) <| 
  sn 0 23 (ssl eI ([])) <| 
  sn 2 6 (osl (eL eI) false ([[]])) <| 
  sn 2 26 (osl eI true ([])) <| 
  sn 1 27 (osl (eL eI) true ([[]])) <| 
  sn 0 27 (ssl (eL eI) ([[]])) <| 
  (app 24 ([]) ([[]])).bind fun l_9 =>
  (iter (f181_0 d k) (l_9, [[]], 0)).bind fun out_53 =>
  some out_53 : Option (List (List Int)))) rfl (by exact go)
instance : Io0 cx 181 := ⟨rfl⟩
instance i163_0 {n0 : Int} : Lp cx (f163_0 n0) 13 L163_0 (fun (zs : (List Int)) => [(0, .v (iT n0)), (3, .v (osl eI true zs))]) (QX 0 (fun (y : (List Int)) => [(3, .v (osl eI true y))])) := Lp.of (by unfold f163_0; exact go)
instance i163 {n0 : Int} : Rn cx (f163 n0) 163 [(iT n0)] (fun (r : (List Int)) => (osl eI true r)) (fun r => []) := Rn.o (e := (
  sn 3 3 (osl eI true ([])) <| 
  (iter (f163_0 n0) ([])).bind fun l_7 =>
  some l_7 : Option (List Int))) rfl (by exact go)
instance : Io0 cx 163 := ⟨rfl⟩
instance i197_0 {a : Atom} {f : Fact} : Lp cx (f197_0 a f) 79 L197_0 (fun (zs : (List Int) × Int) => [(3, .v (.ptr true [(iT a.Relation), (ssl eI a.Terms)])), (4, .v (.ptr true [(iT f.Relation), (ssl eI f.Values)])), (8, .v (osl eI true zs.1)), (9, .v (iT zs.2))]) (QO (QX 0 (fun (y : (List Int)) => [(8, .v (osl eI true y))])) (QR (fun (y : (List Int) × Bool) => [(6, .v (osl eI true y.1)), (7, .v (.bool y.2))]))) := Lp.of (f := (fun
 | (x_7, i_8) =>
  if i_8 < (a.Terms.length : Int) then
  (jb 1 (QO (QN (fun (y : (List Int)) => [(3, .v (.ptr true [(iT a.Relation), (ssl eI a.Terms)])), (4, .v (.ptr true [(iT f.Relation), (ssl eI f.Values)])), (8, .v (osl eI true y)), (9, .v (iT i_8))])) (QR (fun (y : (List Int) × Bool) => [(6, .v (osl eI true y.1)), (7, .v (.bool y.2))]))) (((ix a.Terms i_8).bind fun v_12 =>
  if v_12 < 0 then
  (ix f.Values i_8).bind fun v_15 =>
  if (w64 ((-1) - v_12)) ≠ v_15 then
  some (.inr (x_7, false))
  else
  some (.inl x_7)
  else
  (ix x_7 v_12).bind fun v_18 =>
  (jn (QN (fun (y : Bool) => [(3, .v (.ptr true [(iT a.Relation), (ssl eI a.Terms)])), (4, .v (.ptr true [(iT f.Relation), (ssl eI f.Values)])), (8, .v (osl eI true x_7)), (9, .v (iT i_8)), (10, .v (iT v_12)), (68, .v (.bool y))])) ((if v_18 >= 0 then
  (ix f.Values i_8).bind fun v_23 =>
  some (decide (v_18 ≠ v_23))
  else
  some false) : Option (Bool))).bind fun x_20 =>
  if x_20 = true then
  some (.inr (x_7, false))
  else
  (ix f.Values i_8).bind fun v_26 =>
  some (.inl (x_7.set v_12.toNat v_26))) : Option ((List Int) ⊕ ((List Int) × Bool)))).bind fun o => match o with
  | .inl x_29 =>
  some (.inl (x_29, w64 (i_8 + 1)))
  | .inr (x_30, x_31) =>
  some (.inr (.inr (x_30, x_31)))
  else
  some (.inr (.inl x_7)) : (List Int) × Int -> Option (((List Int) × Int) ⊕ ((List Int) ⊕ ((List Int) × Bool))))) (by exact go)
instance i197 {a : Atom} {f : Fact} {vals : (List Int)} : Rn cx (f197 a f vals) 197 [(.agg [(iT a.Relation), (ssl eI a.Terms)]), (.agg [(iT f.Relation), (ssl eI f.Values)]), (ssl eI vals)] (fun (r : (List Int) × Bool) => (.tup [(osl eI true r.1), (.bool r.2)])) (fun r => []) := Rn.o (e := (
  (app 8 ([]) vals).bind fun l_1 =>
  sn 8 8 (osl eI true l_1) <| 
  (jn (QN (fun (y : Bool) => [(3, .v (.ptr true [(iT a.Relation), (ssl eI a.Terms)])), (4, .v (.ptr true [(iT f.Relation), (ssl eI f.Values)])), (8, .v (osl eI true l_1)), (27, .v (.bool y))])) ((if f.Relation ≠ a.Relation then
  some true
  else
  some (decide ((f.Values.length : Int) ≠ (a.Terms.length : Int)))) : Option (Bool))).bind fun x_3 =>
  if x_3 = true then
  some (l_1, false)
  else
  (iter (f197_0 a f) (l_1, 0)).bind fun o => match o with
  | .inl x_34 =>
  some (x_34, true)
  | .inr (x_35, x_36) =>
  some (x_35, x_36) : Option ((List Int) × Bool))) rfl (by exact go)
instance : Io0 cx 197 := ⟨rfl⟩
end
end Go.Proofs.YtjmemfggbhkofaaGreatH
